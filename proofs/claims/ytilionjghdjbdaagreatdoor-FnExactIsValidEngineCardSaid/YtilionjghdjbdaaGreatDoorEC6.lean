/- FnExactIsValidEngine: for every input the law returns true and changes nothing that was there. Part 7 of 9. -/
import Derived.Test.YtilionjghdjbdaaGreatDoorEC5
set_option linter.unusedVariables false
set_option linter.unusedSimpArgs false
set_option linter.unnecessarySimpa false
set_option linter.unusedSectionVars false
set_option maxRecDepth 1000000
namespace Go.Proofs.YtilionjghdjbdaaGreatDoor
namespace R
open Go.RowKit
open D
abbrev y3:Ty:=.int .i64
abbrev uD:Ty:=.prod y3 (.prod y3 (.prod y3 y3))
abbrev t274:Ty:=.tree 302 274 uD
abbrev DJ:Ty:=.prod y3 (.prod y3 (.prod y3 y3))
abbrev Sc:Ty:=.sl 168 DJ
abbrev y91:Ty:=.sl 3 y3
abbrev M5:Ty:=.prod y91 Sc
abbrev TS:Ty:=.prod y3 (.prod y3 y3)
abbrev y59:Ty:=.sl 161 uD
abbrev y61:Ty:=.wr y59
abbrev CP:Ty:=.prod y3 (.prod y61 y3)
abbrev TU:Ty:=.prod y3 (.prod y3 (.prod y3 y3))
abbrev y4:Ty:=.bool
abbrev UC:Ty:=.prod y4 DJ
abbrev Tb:Ty:=.prod y3 (.prod y3 (.prod y3 y3))
abbrev UD:Ty:=.prod y4 Tb
abbrev Tc:Ty:=.sl 172 Tb
abbrev Td:Ty:=.prod y91 Tc
abbrev DK:Ty:=.sl 4 y4
abbrev JI:Ty:=.sl 91 y91
abbrev Te:Ty:=.prod y3 (.prod DK JI)
abbrev y54:Ty:=.sl 163 TU
abbrev y56:Ty:=.wr y54
abbrev Tf:Ty:=.prod y3 (.prod y56 y3)
abbrev lG:Ty:=.prod y3 (.prod DK JI)
abbrev y9:Ty:=.str
abbrev TV:Ty:=.sl 9 y9
abbrev y22:Ty:=.sl 179 Td
abbrev y5:Ty:=.int .u8
abbrev UT:Ty:=.sl 5 y5
abbrev Fx:Ty:=.prod y91 (.prod y3 (.prod y3 (.prod y91 y4)))
abbrev y24:Ty:=.prod y3 y22
abbrev y25:Ty:=.sl 184 Te
abbrev y26:Ty:=.sl 187 Tf
abbrev UE:Ty:=.prod y4 (.prod y3 y3)
abbrev UF:Ty:=.prod y3 (.prod y3 y4)
abbrev TW:Ty:=.fro t274
abbrev y28:Ty:=.prod y25 y26
abbrev y29:Ty:=.sl 133 TS
abbrev Sd:Ty:=.int .u64
abbrev Tg:Ty:=.sl 274 TW
abbrev UU:Ty:=.prod uD Tg
abbrev y31:Ty:=.prod y24 (.prod y28 (.prod y29 y9))
abbrev Se:Ty:=.int .u64
abbrev y34:Ty:=.sl 126 M5
abbrev Sf:Ty:=.int .u32
abbrev y36:Ty:=.prod y3 y34
abbrev y37:Ty:=.sl 189 lG
abbrev y38:Ty:=.sl 137 CP
abbrev y40:Ty:=.prod y37 y38
abbrev y88:Ty:=.prod y3 (.prod y3 y3)
abbrev y41:Ty:=.sl 88 y88
abbrev y43:Ty:=.prod y36 (.prod y40 (.prod y41 y9))
abbrev y66:Ty:=.sl 174 UD
abbrev y68:Ty:=.wr y66
abbrev y71:Ty:=.sl 170 UC
abbrev y73:Ty:=.wr y71
abbrev y92:Ty:=.sl 73 y73
theorem ti3:TI Tryz.prog 3 false 1:=⟨⟨_,Tryz.underlying3,rfl⟩,by kernel_rfl⟩
theorem Si (a0:Int) (a1:Int) (a2:Int) (a3:Int) (b0:Int) (b1:Int) (b2:Int) (b3:Int) (w:World):EqT Tryz.prog 161 (.agg #[.int .i64 a0,.int .i64 a1,.int .i64 a2,.int .i64 a3]) (.agg #[.int .i64 b0,.int .i64 b1,.int .i64 b2,.int .i64 b3]) ((a0==b0)&&((a1==b1)&&((a2==b2)&&((a3==b3)&&true)))) w:=NS w Tryz.underlying161 (by kernel_rfl) (by kernel_rfl) (ln rfl (j5 ti3 rfl) (j5 ti3 rfl) (run_equalIn_int w 9998 3 _ _ _ _ Tryz.underlying3) (ln rfl (j5 ti3 rfl) (j5 ti3 rfl) (run_equalIn_int w 9998 3 _ _ _ _ Tryz.underlying3) (ln rfl (j5 ti3 rfl) (j5 ti3 rfl) (run_equalIn_int w 9998 3 _ _ _ _ Tryz.underlying3) (ln rfl (j5 ti3 rfl) (j5 ti3 rfl) (run_equalIn_int w 9998 3 _ _ _ _ Tryz.underlying3) (HJ w)))))
theorem Sj (a0:Int) (a1:Int) (a2:Int) (a3:Int) (b0:Int) (b1:Int) (b2:Int) (b3:Int) (w:World):EqT Tryz.prog 168 (.agg #[.int .i64 a0,.int .i64 a1,.int .i64 a2,.int .i64 a3]) (.agg #[.int .i64 b0,.int .i64 b1,.int .i64 b2,.int .i64 b3]) ((a0==b0)&&((a1==b1)&&((a2==b2)&&((a3==b3)&&true)))) w:=NS w Tryz.underlying168 (by kernel_rfl) (by kernel_rfl) (ln rfl (j5 ti3 rfl) (j5 ti3 rfl) (run_equalIn_int w 9998 3 _ _ _ _ Tryz.underlying3) (ln rfl (j5 ti3 rfl) (j5 ti3 rfl) (run_equalIn_int w 9998 3 _ _ _ _ Tryz.underlying3) (ln rfl (j5 ti3 rfl) (j5 ti3 rfl) (run_equalIn_int w 9998 3 _ _ _ _ Tryz.underlying3) (ln rfl (j5 ti3 rfl) (j5 ti3 rfl) (run_equalIn_int w 9998 3 _ _ _ _ Tryz.underlying3) (HJ w)))))
theorem mz3 (w:World):(zeroValue 3).run Tryz.prog w= .ok (.int .i64 0) w:=by kernel_rfl
theorem kk3:KeyOk Tryz.prog 3 (fun n:Int=>Value.int .i64 n) Pv iOk:=Rv Tryz.underlying3
theorem ek3:EltOk Tryz.prog 3 (fun n:Int=>Value.int .i64 n) Pv iOk 0:=Rw Tryz.underlying3 mz3
def tt:TT:=[(3,⟨false,1,none,y3,[],some 8,none,false,none,none,some (some .i64),false,none⟩),
 (4,⟨false,1,none,y4,[],some 1,none,true,none,none,none,false,none⟩),
 (5,⟨false,1,none,y5,[],some 1,none,false,none,none,some (some .u8),false,none⟩),
 (9,⟨false,1,none,y9,[],some 16,none,false,none,none,some none,false,none⟩),
 (22,⟨false,1,some 179,y22,[],some 24,none,false,none,none,none,false,none⟩),
 (24,⟨true,2,none,y24,[(0,0),(1,0)],some 32,some [(0,1),(1,1)],false,none,none,none,false,none⟩),
 (25,⟨false,1,some 184,y25,[],some 24,none,false,none,none,none,false,none⟩),
 (26,⟨false,1,some 187,y26,[],some 24,none,false,none,none,none,false,none⟩),
 (28,⟨true,2,none,y28,[(0,0),(1,0)],some 48,some [(0,1),(1,1)],false,none,none,none,false,none⟩),
 (29,⟨false,1,some 133,y29,[],some 24,none,false,none,none,none,false,none⟩),
 (31,⟨true,6,none,y31,[(0,1),(2,1),(4,0),(5,0)],some 120,some [(0,2),(2,2),(4,1),(5,1)],false,none,none,none,false,none⟩),
 (34,⟨false,1,some 126,y34,[],some 24,none,false,none,none,none,false,none⟩),
 (36,⟨true,2,none,y36,[(0,0),(1,0)],some 32,some [(0,1),(1,1)],false,none,none,none,false,none⟩),
 (37,⟨false,1,some 189,y37,[],some 24,none,false,none,none,none,false,none⟩),
 (38,⟨false,1,some 137,y38,[],some 24,none,false,none,none,none,false,none⟩),
 (40,⟨true,2,none,y40,[(0,0),(1,0)],some 48,some [(0,1),(1,1)],false,none,none,none,false,none⟩),
 (41,⟨false,1,some 88,y41,[],some 24,none,false,none,none,none,false,none⟩),
 (43,⟨true,6,none,y43,[(0,1),(2,1),(4,0),(5,0)],some 120,some [(0,2),(2,2),(4,1),(5,1)],false,none,none,none,false,none⟩),
 (54,⟨false,1,some 163,y54,[],some 24,none,false,none,none,none,false,none⟩),
 (56,⟨true,1,none,y56,[(0,0)],some 24,some [(0,1)],false,none,none,none,false,none⟩),
 (59,⟨false,1,some 161,y59,[],some 24,none,false,none,none,none,false,none⟩),
 (61,⟨true,1,none,y61,[(0,0)],some 24,some [(0,1)],false,none,none,none,false,none⟩),
 (66,⟨false,1,some 174,y66,[],some 24,none,false,none,none,none,false,none⟩),
 (68,⟨true,1,none,y68,[(0,0)],some 24,some [(0,1)],false,none,none,none,false,none⟩),
 (71,⟨false,1,some 170,y71,[],some 24,none,false,none,none,none,false,none⟩),
 (73,⟨true,1,none,y73,[(0,0)],some 24,some [(0,1)],false,none,none,none,false,none⟩),
 (88,⟨true,3,none,y88,[(0,0),(1,0),(2,0)],some 24,some [(0,1),(1,1),(2,1)],false,none,none,none,false,none⟩),
 (91,⟨false,1,some 3,y91,[],some 24,none,false,none,none,none,false,none⟩),
 (92,⟨false,1,some 73,y92,[],some 24,none,false,none,none,none,false,none⟩),
 (108,⟨false,1,none,.bool,[],none,none,false,none,none,none,true,none⟩),
 (124,⟨false,1,some 168,Sc,[],some 24,none,false,none,none,none,false,none⟩),
 (126,⟨true,2,none,M5,[(0,0),(1,0)],some 48,some [(0,1),(1,1)],false,none,none,none,false,none⟩),
 (133,⟨true,3,none,TS,[(0,0),(1,0),(2,0)],some 24,some [(0,1),(1,1),(2,1)],false,none,none,none,false,none⟩),
 (134,⟨false,1,none,.bool,[],none,none,false,none,none,none,true,none⟩),
 (137,⟨true,3,none,CP,[(0,0),(1,0),(2,0)],some 40,some [(0,1),(1,1),(2,1)],false,none,none,none,false,none⟩),
 (138,⟨false,1,none,.bool,[],none,none,false,none,none,none,true,none⟩),
 (161,⟨true,4,none,uD,[(0,0),(1,0),(2,0),(3,0)],some 32,some [(0,1),(1,1),(2,1),(3,1)],false,some [some .i64,some .i64,some .i64,some .i64],none,none,false,none⟩),
 (163,⟨true,4,none,TU,[(0,0),(1,0),(2,0),(3,0)],some 32,some [(0,1),(1,1),(2,1),(3,1)],false,none,none,none,false,none⟩),
 (168,⟨true,4,none,DJ,[(0,0),(1,0),(2,0),(3,0)],some 32,some [(0,1),(1,1),(2,1),(3,1)],false,some [some .i64,some .i64,some .i64,some .i64],none,none,false,none⟩),
 (170,⟨true,5,none,UC,[(0,0),(1,3)],some 40,some [(0,1),(1,4)],false,none,none,none,false,none⟩),
 (172,⟨true,4,none,Tb,[(0,0),(1,0),(2,0),(3,0)],some 32,some [(0,1),(1,1),(2,1),(3,1)],false,none,none,none,false,none⟩),
 (174,⟨true,5,none,UD,[(0,0),(1,3)],some 40,some [(0,1),(1,4)],false,none,none,none,false,none⟩),
 (177,⟨false,1,some 172,Tc,[],some 24,none,false,none,none,none,false,none⟩),
 (179,⟨true,2,none,Td,[(0,0),(1,0)],some 48,some [(0,1),(1,1)],false,none,none,none,false,none⟩),
 (181,⟨false,1,some 4,DK,[],some 24,none,false,none,none,none,false,none⟩),
 (182,⟨false,1,some 91,JI,[],some 24,none,false,none,none,none,false,none⟩),
 (184,⟨true,3,none,Te,[(0,0),(1,0),(2,0)],some 56,some [(0,1),(1,1),(2,1)],false,none,none,none,false,none⟩),
 (187,⟨true,3,none,Tf,[(0,0),(1,0),(2,0)],some 40,some [(0,1),(1,1),(2,1)],false,none,none,none,false,none⟩),
 (189,⟨true,3,none,lG,[(0,0),(1,0),(2,0)],some 56,some [(0,1),(1,1),(2,1)],false,none,none,none,false,none⟩),
 (194,⟨false,1,none,.bool,[],none,none,false,none,none,none,true,none⟩),
 (200,⟨false,1,none,.bool,[],none,none,false,none,none,none,true,none⟩),
 (204,⟨false,1,none,.bool,[],none,none,false,none,none,none,true,none⟩),
 (205,⟨false,1,some 9,TV,[],some 24,none,false,none,none,none,false,none⟩),
 (222,⟨false,1,some 5,UT,[],some 24,none,false,none,none,none,false,none⟩),
 (230,⟨true,5,none,Fx,[(0,0),(1,0),(2,0),(3,0),(4,0)],some 72,some [(0,1),(1,1),(2,1),(3,1),(4,1)],false,none,none,none,false,none⟩),
 (263,⟨true,3,none,UE,[(0,0),(1,0),(2,0)],some 24,some [(0,1),(1,1),(2,1)],false,none,none,none,false,none⟩),
 (272,⟨true,3,none,UF,[(0,0),(1,0),(2,0)],some 24,some [(0,1),(1,1),(2,1)],false,none,none,none,false,none⟩),
 (274,⟨false,1,none,TW,[],some 8,none,false,none,none,none,false,some 302⟩),
 (277,⟨false,1,none,.bool,[],none,none,false,none,none,none,true,none⟩),
 (279,⟨false,1,none,.bool,[],none,none,false,none,none,none,true,none⟩),
 (290,⟨false,1,none,.bool,[],none,none,false,none,none,none,true,none⟩),
 (295,⟨false,1,none,Sd,[],some 8,none,false,none,none,some (some .u64),false,none⟩),
 (300,⟨false,1,some 274,Tg,[],some 24,none,false,none,none,none,false,none⟩),
 (302,⟨true,5,none,UU,[(0,3),(4,0)],some 56,some [(0,4),(4,1)],false,none,none,none,false,none⟩),
 (306,⟨false,1,none,.bool,[],none,none,false,none,some ⟨3,3,.int,.int⟩,none,false,none⟩),
 (308,⟨false,1,none,.bool,[],none,none,false,none,none,none,true,none⟩),
 (321,⟨false,1,none,Se,[],some 8,none,false,none,none,some (some .u64),false,none⟩),
 (344,⟨false,1,none,Sf,[],some 4,none,false,none,none,some (some .u32),false,none⟩),
 (351,⟨false,1,none,.bool,[],none,none,false,none,none,none,true,none⟩)]
theorem aq:TTok Tryz.prog tt:=⟨qA (n:=1) (z:=.int .i64 0) ⟨⟨_,Tryz.underlying3,rfl⟩,by kernel_rfl⟩ rfl (by unfold TZ;kernel_rfl) rfl (Nat.le_of_ble_eq_true rfl) (fun h=>by cases h) (fun k h=>by obtain rfl:=Option.some.inj h;exact Tryz.underlying3),
 qA (n:=1) (z:=.bool false) ⟨⟨_,Tryz.underlying4,rfl⟩,by kernel_rfl⟩ rfl (by unfold TZ;kernel_rfl) rfl (Nat.le_of_ble_eq_true rfl) (fun h=>Tryz.underlying4) (fun k h=>by cases h),
 qA (n:=1) (z:=.int .u8 0) ⟨⟨_,Tryz.underlying5,rfl⟩,by kernel_rfl⟩ rfl (by unfold TZ;kernel_rfl) rfl (Nat.le_of_ble_eq_true rfl) (fun h=>by cases h) (fun k h=>by obtain rfl:=Option.some.inj h;exact Tryz.underlying5),
 qA (n:=1) (z:=.string ⟨#[]⟩) ⟨⟨_,Tryz.underlying9,rfl⟩,by kernel_rfl⟩ rfl (by unfold TZ;kernel_rfl) rfl (Nat.le_of_ble_eq_true rfl) (fun h=>by cases h) (fun k h=>by obtain rfl:=Option.some.inj h;exact Tryz.underlying9),
 lU ⟨⟨_,Tryz.underlying22,rfl⟩,by kernel_rfl⟩ Tryz.underlying22 (by unfold TZ;kernel_rfl),
 iP (z:=.agg #[.int .i64 0,.slice none 0 0]) ⟨⟨_,Tryz.underlying24,rfl⟩,by kernel_rfl⟩ rfl ⟨⟨_,_,Tryz.underlying24,rfl,rfl,by kernel_rfl⟩,⟨_,_,Tryz.underlying24,rfl,rfl,by kernel_rfl⟩,trivial⟩ (by unfold TZ;kernel_rfl) rfl (Nat.le_of_ble_eq_true rfl) ⟨_,Tryz.underlying24,by kernel_rfl⟩ (fun ks h=>by cases h),
 lU ⟨⟨_,Tryz.underlying25,rfl⟩,by kernel_rfl⟩ Tryz.underlying25 (by unfold TZ;kernel_rfl),
 lU ⟨⟨_,Tryz.underlying26,rfl⟩,by kernel_rfl⟩ Tryz.underlying26 (by unfold TZ;kernel_rfl),
 iP (z:=.agg #[.slice none 0 0,.slice none 0 0]) ⟨⟨_,Tryz.underlying28,rfl⟩,by kernel_rfl⟩ rfl ⟨⟨_,_,Tryz.underlying28,rfl,rfl,by kernel_rfl⟩,⟨_,_,Tryz.underlying28,rfl,rfl,by kernel_rfl⟩,trivial⟩ (by unfold TZ;kernel_rfl) rfl (Nat.le_of_ble_eq_true rfl) ⟨_,Tryz.underlying28,by kernel_rfl⟩ (fun ks h=>by cases h),
 lU ⟨⟨_,Tryz.underlying29,rfl⟩,by kernel_rfl⟩ Tryz.underlying29 (by unfold TZ;kernel_rfl),
 iP (z:=.agg #[.int .i64 0,.slice none 0 0,.slice none 0 0,.slice none 0 0,.slice none 0 0,.string ⟨#[]⟩]) ⟨⟨_,Tryz.underlying31,rfl⟩,by kernel_rfl⟩ rfl ⟨⟨_,_,Tryz.underlying31,rfl,rfl,by kernel_rfl⟩,⟨_,_,Tryz.underlying31,rfl,rfl,by kernel_rfl⟩,⟨_,_,Tryz.underlying31,rfl,rfl,by kernel_rfl⟩,⟨_,_,Tryz.underlying31,rfl,rfl,by kernel_rfl⟩,trivial⟩ (by unfold TZ;kernel_rfl) rfl (Nat.le_of_ble_eq_true rfl) ⟨_,Tryz.underlying31,by kernel_rfl⟩ (fun ks h=>by cases h),
 lU ⟨⟨_,Tryz.underlying34,rfl⟩,by kernel_rfl⟩ Tryz.underlying34 (by unfold TZ;kernel_rfl),
 iP (z:=.agg #[.int .i64 0,.slice none 0 0]) ⟨⟨_,Tryz.underlying36,rfl⟩,by kernel_rfl⟩ rfl ⟨⟨_,_,Tryz.underlying36,rfl,rfl,by kernel_rfl⟩,⟨_,_,Tryz.underlying36,rfl,rfl,by kernel_rfl⟩,trivial⟩ (by unfold TZ;kernel_rfl) rfl (Nat.le_of_ble_eq_true rfl) ⟨_,Tryz.underlying36,by kernel_rfl⟩ (fun ks h=>by cases h),
 lU ⟨⟨_,Tryz.underlying37,rfl⟩,by kernel_rfl⟩ Tryz.underlying37 (by unfold TZ;kernel_rfl),
 lU ⟨⟨_,Tryz.underlying38,rfl⟩,by kernel_rfl⟩ Tryz.underlying38 (by unfold TZ;kernel_rfl),
 iP (z:=.agg #[.slice none 0 0,.slice none 0 0]) ⟨⟨_,Tryz.underlying40,rfl⟩,by kernel_rfl⟩ rfl ⟨⟨_,_,Tryz.underlying40,rfl,rfl,by kernel_rfl⟩,⟨_,_,Tryz.underlying40,rfl,rfl,by kernel_rfl⟩,trivial⟩ (by unfold TZ;kernel_rfl) rfl (Nat.le_of_ble_eq_true rfl) ⟨_,Tryz.underlying40,by kernel_rfl⟩ (fun ks h=>by cases h),
 lU ⟨⟨_,Tryz.underlying41,rfl⟩,by kernel_rfl⟩ Tryz.underlying41 (by unfold TZ;kernel_rfl),
 iP (z:=.agg #[.int .i64 0,.slice none 0 0,.slice none 0 0,.slice none 0 0,.slice none 0 0,.string ⟨#[]⟩]) ⟨⟨_,Tryz.underlying43,rfl⟩,by kernel_rfl⟩ rfl ⟨⟨_,_,Tryz.underlying43,rfl,rfl,by kernel_rfl⟩,⟨_,_,Tryz.underlying43,rfl,rfl,by kernel_rfl⟩,⟨_,_,Tryz.underlying43,rfl,rfl,by kernel_rfl⟩,⟨_,_,Tryz.underlying43,rfl,rfl,by kernel_rfl⟩,trivial⟩ (by unfold TZ;kernel_rfl) rfl (Nat.le_of_ble_eq_true rfl) ⟨_,Tryz.underlying43,by kernel_rfl⟩ (fun ks h=>by cases h),
 lU ⟨⟨_,Tryz.underlying54,rfl⟩,by kernel_rfl⟩ Tryz.underlying54 (by unfold TZ;kernel_rfl),
 iP (z:=.agg #[.slice none 0 0]) ⟨⟨_,Tryz.underlying56,rfl⟩,by kernel_rfl⟩ rfl ⟨⟨_,_,Tryz.underlying56,rfl,rfl,by kernel_rfl⟩,trivial⟩ (by unfold TZ;kernel_rfl) rfl (Nat.le_of_ble_eq_true rfl) ⟨_,Tryz.underlying56,by kernel_rfl⟩ (fun ks h=>by cases h),
 lU ⟨⟨_,Tryz.underlying59,rfl⟩,by kernel_rfl⟩ Tryz.underlying59 (by unfold TZ;kernel_rfl),
 iP (z:=.agg #[.slice none 0 0]) ⟨⟨_,Tryz.underlying61,rfl⟩,by kernel_rfl⟩ rfl ⟨⟨_,_,Tryz.underlying61,rfl,rfl,by kernel_rfl⟩,trivial⟩ (by unfold TZ;kernel_rfl) rfl (Nat.le_of_ble_eq_true rfl) ⟨_,Tryz.underlying61,by kernel_rfl⟩ (fun ks h=>by cases h),
 lU ⟨⟨_,Tryz.underlying66,rfl⟩,by kernel_rfl⟩ Tryz.underlying66 (by unfold TZ;kernel_rfl),
 iP (z:=.agg #[.slice none 0 0]) ⟨⟨_,Tryz.underlying68,rfl⟩,by kernel_rfl⟩ rfl ⟨⟨_,_,Tryz.underlying68,rfl,rfl,by kernel_rfl⟩,trivial⟩ (by unfold TZ;kernel_rfl) rfl (Nat.le_of_ble_eq_true rfl) ⟨_,Tryz.underlying68,by kernel_rfl⟩ (fun ks h=>by cases h),
 lU ⟨⟨_,Tryz.underlying71,rfl⟩,by kernel_rfl⟩ Tryz.underlying71 (by unfold TZ;kernel_rfl),
 iP (z:=.agg #[.slice none 0 0]) ⟨⟨_,Tryz.underlying73,rfl⟩,by kernel_rfl⟩ rfl ⟨⟨_,_,Tryz.underlying73,rfl,rfl,by kernel_rfl⟩,trivial⟩ (by unfold TZ;kernel_rfl) rfl (Nat.le_of_ble_eq_true rfl) ⟨_,Tryz.underlying73,by kernel_rfl⟩ (fun ks h=>by cases h),
 iP (z:=.agg #[.int .i64 0,.int .i64 0,.int .i64 0]) ⟨⟨_,Tryz.underlying88,rfl⟩,by kernel_rfl⟩ rfl ⟨⟨_,_,Tryz.underlying88,rfl,rfl,by kernel_rfl⟩,⟨_,_,Tryz.underlying88,rfl,rfl,by kernel_rfl⟩,⟨_,_,Tryz.underlying88,rfl,rfl,by kernel_rfl⟩,trivial⟩ (by unfold TZ;kernel_rfl) rfl (Nat.le_of_ble_eq_true rfl) ⟨_,Tryz.underlying88,by kernel_rfl⟩ (fun ks h=>by cases h),
 lU ⟨⟨_,Tryz.underlying91,rfl⟩,by kernel_rfl⟩ Tryz.underlying91 (by unfold TZ;kernel_rfl),
 lU ⟨⟨_,Tryz.underlying92,rfl⟩,by kernel_rfl⟩ Tryz.underlying92 (by unfold TZ;kernel_rfl),
 wv (ty:=.bool) (b:=8) ⟨⟨_,Tryz.underlying108,rfl⟩,by kernel_rfl⟩ rfl (by unfold TZ;kernel_rfl),
 lU ⟨⟨_,Tryz.underlying124,rfl⟩,by kernel_rfl⟩ Tryz.underlying124 (by unfold TZ;kernel_rfl),
 iP (z:=.agg #[.slice none 0 0,.slice none 0 0]) ⟨⟨_,Tryz.underlying126,rfl⟩,by kernel_rfl⟩ rfl ⟨⟨_,_,Tryz.underlying126,rfl,rfl,by kernel_rfl⟩,⟨_,_,Tryz.underlying126,rfl,rfl,by kernel_rfl⟩,trivial⟩ (by unfold TZ;kernel_rfl) rfl (Nat.le_of_ble_eq_true rfl) ⟨_,Tryz.underlying126,by kernel_rfl⟩ (fun ks h=>by cases h),
 iP (z:=.agg #[.int .i64 0,.int .i64 0,.int .i64 0]) ⟨⟨_,Tryz.underlying133,rfl⟩,by kernel_rfl⟩ rfl ⟨⟨_,_,Tryz.underlying133,rfl,rfl,by kernel_rfl⟩,⟨_,_,Tryz.underlying133,rfl,rfl,by kernel_rfl⟩,⟨_,_,Tryz.underlying133,rfl,rfl,by kernel_rfl⟩,trivial⟩ (by unfold TZ;kernel_rfl) rfl (Nat.le_of_ble_eq_true rfl) ⟨_,Tryz.underlying133,by kernel_rfl⟩ (fun ks h=>by cases h),
 wv (ty:=.bool) (b:=8) ⟨⟨_,Tryz.underlying134,rfl⟩,by kernel_rfl⟩ rfl (by unfold TZ;kernel_rfl),
 iP (z:=.agg #[.int .i64 0,.slice none 0 0,.int .i64 0]) ⟨⟨_,Tryz.underlying137,rfl⟩,by kernel_rfl⟩ rfl ⟨⟨_,_,Tryz.underlying137,rfl,rfl,by kernel_rfl⟩,⟨_,_,Tryz.underlying137,rfl,rfl,by kernel_rfl⟩,⟨_,_,Tryz.underlying137,rfl,rfl,by kernel_rfl⟩,trivial⟩ (by unfold TZ;kernel_rfl) rfl (Nat.le_of_ble_eq_true rfl) ⟨_,Tryz.underlying137,by kernel_rfl⟩ (fun ks h=>by cases h),
 wv (ty:=.bool) (b:=8) ⟨⟨_,Tryz.underlying138,rfl⟩,by kernel_rfl⟩ rfl (by unfold TZ;kernel_rfl),
 iP (z:=.agg #[.int .i64 0,.int .i64 0,.int .i64 0,.int .i64 0]) ⟨⟨_,Tryz.underlying161,rfl⟩,by kernel_rfl⟩ rfl ⟨⟨_,_,Tryz.underlying161,rfl,rfl,by kernel_rfl⟩,⟨_,_,Tryz.underlying161,rfl,rfl,by kernel_rfl⟩,⟨_,_,Tryz.underlying161,rfl,rfl,by kernel_rfl⟩,⟨_,_,Tryz.underlying161,rfl,rfl,by kernel_rfl⟩,trivial⟩ (by unfold TZ;kernel_rfl) rfl (Nat.le_of_ble_eq_true rfl) ⟨_,Tryz.underlying161,by kernel_rfl⟩ (fun ks h=>by obtain rfl:=Option.some.inj h;exact fun w a0 b0 a1 b1 a2 b2 a3 b3=>Si a0 a1 a2 a3 b0 b1 b2 b3 w),
 iP (z:=.agg #[.int .i64 0,.int .i64 0,.int .i64 0,.int .i64 0]) ⟨⟨_,Tryz.underlying163,rfl⟩,by kernel_rfl⟩ rfl ⟨⟨_,_,Tryz.underlying163,rfl,rfl,by kernel_rfl⟩,⟨_,_,Tryz.underlying163,rfl,rfl,by kernel_rfl⟩,⟨_,_,Tryz.underlying163,rfl,rfl,by kernel_rfl⟩,⟨_,_,Tryz.underlying163,rfl,rfl,by kernel_rfl⟩,trivial⟩ (by unfold TZ;kernel_rfl) rfl (Nat.le_of_ble_eq_true rfl) ⟨_,Tryz.underlying163,by kernel_rfl⟩ (fun ks h=>by cases h),
 iP (z:=.agg #[.int .i64 0,.int .i64 0,.int .i64 0,.int .i64 0]) ⟨⟨_,Tryz.underlying168,rfl⟩,by kernel_rfl⟩ rfl ⟨⟨_,_,Tryz.underlying168,rfl,rfl,by kernel_rfl⟩,⟨_,_,Tryz.underlying168,rfl,rfl,by kernel_rfl⟩,⟨_,_,Tryz.underlying168,rfl,rfl,by kernel_rfl⟩,⟨_,_,Tryz.underlying168,rfl,rfl,by kernel_rfl⟩,trivial⟩ (by unfold TZ;kernel_rfl) rfl (Nat.le_of_ble_eq_true rfl) ⟨_,Tryz.underlying168,by kernel_rfl⟩ (fun ks h=>by obtain rfl:=Option.some.inj h;exact fun w a0 b0 a1 b1 a2 b2 a3 b3=>Sj a0 a1 a2 a3 b0 b1 b2 b3 w),
 iP (z:=.agg #[.bool false,.int .i64 0,.int .i64 0,.int .i64 0,.int .i64 0]) ⟨⟨_,Tryz.underlying170,rfl⟩,by kernel_rfl⟩ rfl ⟨⟨_,_,Tryz.underlying170,rfl,rfl,by kernel_rfl⟩,⟨_,_,Tryz.underlying170,rfl,rfl,by kernel_rfl⟩,trivial⟩ (by unfold TZ;kernel_rfl) rfl (Nat.le_of_ble_eq_true rfl) ⟨_,Tryz.underlying170,by kernel_rfl⟩ (fun ks h=>by cases h),
 iP (z:=.agg #[.int .i64 0,.int .i64 0,.int .i64 0,.int .i64 0]) ⟨⟨_,Tryz.underlying172,rfl⟩,by kernel_rfl⟩ rfl ⟨⟨_,_,Tryz.underlying172,rfl,rfl,by kernel_rfl⟩,⟨_,_,Tryz.underlying172,rfl,rfl,by kernel_rfl⟩,⟨_,_,Tryz.underlying172,rfl,rfl,by kernel_rfl⟩,⟨_,_,Tryz.underlying172,rfl,rfl,by kernel_rfl⟩,trivial⟩ (by unfold TZ;kernel_rfl) rfl (Nat.le_of_ble_eq_true rfl) ⟨_,Tryz.underlying172,by kernel_rfl⟩ (fun ks h=>by cases h),
 iP (z:=.agg #[.bool false,.int .i64 0,.int .i64 0,.int .i64 0,.int .i64 0]) ⟨⟨_,Tryz.underlying174,rfl⟩,by kernel_rfl⟩ rfl ⟨⟨_,_,Tryz.underlying174,rfl,rfl,by kernel_rfl⟩,⟨_,_,Tryz.underlying174,rfl,rfl,by kernel_rfl⟩,trivial⟩ (by unfold TZ;kernel_rfl) rfl (Nat.le_of_ble_eq_true rfl) ⟨_,Tryz.underlying174,by kernel_rfl⟩ (fun ks h=>by cases h),
 lU ⟨⟨_,Tryz.underlying177,rfl⟩,by kernel_rfl⟩ Tryz.underlying177 (by unfold TZ;kernel_rfl),
 iP (z:=.agg #[.slice none 0 0,.slice none 0 0]) ⟨⟨_,Tryz.underlying179,rfl⟩,by kernel_rfl⟩ rfl ⟨⟨_,_,Tryz.underlying179,rfl,rfl,by kernel_rfl⟩,⟨_,_,Tryz.underlying179,rfl,rfl,by kernel_rfl⟩,trivial⟩ (by unfold TZ;kernel_rfl) rfl (Nat.le_of_ble_eq_true rfl) ⟨_,Tryz.underlying179,by kernel_rfl⟩ (fun ks h=>by cases h),
 lU ⟨⟨_,Tryz.underlying181,rfl⟩,by kernel_rfl⟩ Tryz.underlying181 (by unfold TZ;kernel_rfl),
 lU ⟨⟨_,Tryz.underlying182,rfl⟩,by kernel_rfl⟩ Tryz.underlying182 (by unfold TZ;kernel_rfl),
 iP (z:=.agg #[.int .i64 0,.slice none 0 0,.slice none 0 0]) ⟨⟨_,Tryz.underlying184,rfl⟩,by kernel_rfl⟩ rfl ⟨⟨_,_,Tryz.underlying184,rfl,rfl,by kernel_rfl⟩,⟨_,_,Tryz.underlying184,rfl,rfl,by kernel_rfl⟩,⟨_,_,Tryz.underlying184,rfl,rfl,by kernel_rfl⟩,trivial⟩ (by unfold TZ;kernel_rfl) rfl (Nat.le_of_ble_eq_true rfl) ⟨_,Tryz.underlying184,by kernel_rfl⟩ (fun ks h=>by cases h),
 iP (z:=.agg #[.int .i64 0,.slice none 0 0,.int .i64 0]) ⟨⟨_,Tryz.underlying187,rfl⟩,by kernel_rfl⟩ rfl ⟨⟨_,_,Tryz.underlying187,rfl,rfl,by kernel_rfl⟩,⟨_,_,Tryz.underlying187,rfl,rfl,by kernel_rfl⟩,⟨_,_,Tryz.underlying187,rfl,rfl,by kernel_rfl⟩,trivial⟩ (by unfold TZ;kernel_rfl) rfl (Nat.le_of_ble_eq_true rfl) ⟨_,Tryz.underlying187,by kernel_rfl⟩ (fun ks h=>by cases h),
 iP (z:=.agg #[.int .i64 0,.slice none 0 0,.slice none 0 0]) ⟨⟨_,Tryz.underlying189,rfl⟩,by kernel_rfl⟩ rfl ⟨⟨_,_,Tryz.underlying189,rfl,rfl,by kernel_rfl⟩,⟨_,_,Tryz.underlying189,rfl,rfl,by kernel_rfl⟩,⟨_,_,Tryz.underlying189,rfl,rfl,by kernel_rfl⟩,trivial⟩ (by unfold TZ;kernel_rfl) rfl (Nat.le_of_ble_eq_true rfl) ⟨_,Tryz.underlying189,by kernel_rfl⟩ (fun ks h=>by cases h),
 wv (ty:=.bool) (b:=8) ⟨⟨_,Tryz.underlying194,rfl⟩,by kernel_rfl⟩ rfl (by unfold TZ;kernel_rfl),
 wv (ty:=.bool) (b:=8) ⟨⟨_,Tryz.underlying200,rfl⟩,by kernel_rfl⟩ rfl (by unfold TZ;kernel_rfl),
 wv (ty:=.bool) (b:=8) ⟨⟨_,Tryz.underlying204,rfl⟩,by kernel_rfl⟩ rfl (by unfold TZ;kernel_rfl),
 lU ⟨⟨_,Tryz.underlying205,rfl⟩,by kernel_rfl⟩ Tryz.underlying205 (by unfold TZ;kernel_rfl),
 lU ⟨⟨_,Tryz.underlying222,rfl⟩,by kernel_rfl⟩ Tryz.underlying222 (by unfold TZ;kernel_rfl),
 iP (z:=.agg #[.slice none 0 0,.int .i64 0,.int .i64 0,.slice none 0 0,.bool false]) ⟨⟨_,Tryz.underlying230,rfl⟩,by kernel_rfl⟩ rfl ⟨⟨_,_,Tryz.underlying230,rfl,rfl,by kernel_rfl⟩,⟨_,_,Tryz.underlying230,rfl,rfl,by kernel_rfl⟩,⟨_,_,Tryz.underlying230,rfl,rfl,by kernel_rfl⟩,⟨_,_,Tryz.underlying230,rfl,rfl,by kernel_rfl⟩,⟨_,_,Tryz.underlying230,rfl,rfl,by kernel_rfl⟩,trivial⟩ (by unfold TZ;kernel_rfl) rfl (Nat.le_of_ble_eq_true rfl) ⟨_,Tryz.underlying230,by kernel_rfl⟩ (fun ks h=>by cases h),
 iP (z:=.agg #[.bool false,.int .i64 0,.int .i64 0]) ⟨⟨_,Tryz.underlying263,rfl⟩,by kernel_rfl⟩ rfl ⟨⟨_,_,Tryz.underlying263,rfl,rfl,by kernel_rfl⟩,⟨_,_,Tryz.underlying263,rfl,rfl,by kernel_rfl⟩,⟨_,_,Tryz.underlying263,rfl,rfl,by kernel_rfl⟩,trivial⟩ (by unfold TZ;kernel_rfl) rfl (Nat.le_of_ble_eq_true rfl) ⟨_,Tryz.underlying263,by kernel_rfl⟩ (fun ks h=>by cases h),
 iP (z:=.agg #[.int .i64 0,.int .i64 0,.bool false]) ⟨⟨_,Tryz.underlying272,rfl⟩,by kernel_rfl⟩ rfl ⟨⟨_,_,Tryz.underlying272,rfl,rfl,by kernel_rfl⟩,⟨_,_,Tryz.underlying272,rfl,rfl,by kernel_rfl⟩,⟨_,_,Tryz.underlying272,rfl,rfl,by kernel_rfl⟩,trivial⟩ (by unfold TZ;kernel_rfl) rfl (Nat.le_of_ble_eq_true rfl) ⟨_,Tryz.underlying272,by kernel_rfl⟩ (fun ks h=>by cases h),
 TQ (e:=302) (E:=274) (u:=uD) ⟨⟨_,Tryz.underlying274,rfl⟩,by kernel_rfl⟩ Tryz.underlying274 (by unfold TZ;kernel_rfl),
 wv (ty:=.bool) (b:=8) ⟨⟨_,Tryz.underlying277,rfl⟩,by kernel_rfl⟩ rfl (by unfold TZ;kernel_rfl),
 wv (ty:=.bool) (b:=8) ⟨⟨_,Tryz.underlying279,rfl⟩,by kernel_rfl⟩ rfl (by unfold TZ;kernel_rfl),
 wv (ty:=.bool) (b:=8) ⟨⟨_,Tryz.underlying290,rfl⟩,by kernel_rfl⟩ rfl (by unfold TZ;kernel_rfl),
 qA (n:=1) (z:=.int .u64 0) ⟨⟨_,Tryz.underlying295,rfl⟩,by kernel_rfl⟩ rfl (by unfold TZ;kernel_rfl) rfl (Nat.le_of_ble_eq_true rfl) (fun h=>by cases h) (fun k h=>by obtain rfl:=Option.some.inj h;exact Tryz.underlying295),
 lU ⟨⟨_,Tryz.underlying300,rfl⟩,by kernel_rfl⟩ Tryz.underlying300 (by unfold TZ;kernel_rfl),
 iP (z:=.agg #[.int .i64 0,.int .i64 0,.int .i64 0,.int .i64 0,.slice none 0 0]) ⟨⟨_,Tryz.underlying302,rfl⟩,by kernel_rfl⟩ rfl ⟨⟨_,_,Tryz.underlying302,rfl,rfl,by kernel_rfl⟩,⟨_,_,Tryz.underlying302,rfl,rfl,by kernel_rfl⟩,trivial⟩ (by unfold TZ;kernel_rfl) rfl (Nat.le_of_ble_eq_true rfl) ⟨_,Tryz.underlying302,by kernel_rfl⟩ (fun ks h=>by cases h),
 TP (m:=⟨3,3,.int,.int⟩) (ty:=.bool) ⟨⟨_,Tryz.underlying306,rfl⟩,by kernel_rfl⟩ rfl ⟨Tryz.underlying306,kk3,ek3⟩,
 wv (ty:=.bool) (b:=8) ⟨⟨_,Tryz.underlying308,rfl⟩,by kernel_rfl⟩ rfl (by unfold TZ;kernel_rfl),
 qA (n:=1) (z:=.int .u64 0) ⟨⟨_,Tryz.underlying321,rfl⟩,by kernel_rfl⟩ rfl (by unfold TZ;kernel_rfl) rfl (Nat.le_of_ble_eq_true rfl) (fun h=>by cases h) (fun k h=>by obtain rfl:=Option.some.inj h;exact Tryz.underlying321),
 qA (n:=1) (z:=.int .u32 0) ⟨⟨_,Tryz.underlying344,rfl⟩,by kernel_rfl⟩ rfl (by unfold TZ;kernel_rfl) rfl (Nat.le_of_ble_eq_true rfl) (fun h=>by cases h) (fun k h=>by obtain rfl:=Option.some.inj h;exact Tryz.underlying344),
 wv (ty:=.bool) (b:=8) ⟨⟨_,Tryz.underlying351,rfl⟩,by kernel_rfl⟩ rfl (by unfold TZ;kernel_rfl),trivial⟩
theorem mixed:Tryz.prog.follows .mixedOrders=true:=by kernel_rfl
def sP:FS:=⟨[.rd y91,.rd y3],[y3],pC,none⟩
def wz:FS:=⟨[.rd Tc,.rd y3],[y3],qB,none⟩
def wA:FS:=⟨[.rd Td,.rd y3],[y3],nf,none⟩
def tQ:FS:=⟨[.rd y22,.rd y3],[y3],oJ,none⟩
def rI:FS:=⟨[.rd y24,.rd y3],[y3],ka,none⟩
def wB:FS:=⟨[.rd DK,.rd y3],[y3],qC,none⟩
def wC:FS:=⟨[.rd JI,.rd y3],[y3],qD,none⟩
def oN:FS:=⟨[.rd Te,.rd y3],[y3],im,none⟩
def nK:FS:=⟨[.rd y25,.rd y3],[y3],jU,none⟩
def tR:FS:=⟨[.rd y54,.rd y3],[y3],oK,none⟩
def yP:FS:=⟨[.rd y56,.rd y3],[y3],pD,none⟩
def nL:FS:=⟨[.rd Tf,.rd y3],[y3],gl,none⟩
def mn:FS:=⟨[.rd y26,.rd y3],[y3],iV,none⟩
def pY:FS:=⟨[.rd y28,.rd y3],[y3],jm,none⟩
def mo:FS:=⟨[.rd y29,.rd y3],[y3],iW,none⟩
def tS:FS:=⟨[.rd y31,.rd y3],[y3],lx,none⟩
def jE:FS:=⟨[.rd y3,.rd y3,.rd y3],[y4],bV,none⟩
def yQ:FS:=⟨[.rd M5,.rd DJ],[y4],yO,none⟩
def nM:FS:=⟨[.rd M5],[y4],eW,none⟩
def rJ:FS:=⟨[.rd y91,.rd y91],[y3],kH,none⟩
def iH:FS:=⟨[.rd y36],[y4],m_s_IsValidHistory,none⟩
def oO:FS:=⟨[.rd y3],[y4],jI,none⟩
def qL:FS:=⟨[.rd uD],[y3],kI,none⟩
def yR:FS:=⟨[.rd y61],[y4],pE,none⟩
def oP:FS:=⟨[.rd y61],[y4],ir,none⟩
def nz:FS:=⟨[.rd y59],[y3],fq,none⟩
def nA (n:Nat):FS:=⟨[.rd y59],[y3],cT n,none⟩
def sQ:FS:=⟨[.rd y59],[y61],iX,none⟩
def sR:FS:=⟨[.rd y61,.rd y61,.rd uD],[y61],iY,none⟩
def yS:FS:=⟨[.rd y3],[y61],mf,none⟩
def lH (n:Nat):FS:=⟨[.rd y61,.rd y3,.rd y3],[y61],gK n,none⟩
def kj (n:Nat):FS:=⟨[.rd y59],[y61],bW n,none⟩
def pZ:FS:=⟨[.rd y61],[y61,y4],jo,none⟩
def wD:FS:=⟨[.ptr 230 Fx,.rd y3,.rd y3],[],kJ,none⟩
def lI (n:Nat):FS:=⟨[.ptr 230 Fx,.rd y59],[UE],ct n,none⟩
def lJ:FS:=⟨[.rd y61],[Fx,y4],fe,none⟩
def tT:FS:=⟨[.rd Fx,.rd y3,.rd y3],[y3],lA,none⟩
def qM:FS:=⟨[.rd y91,.rd y3],[y3],kK,none⟩
def p7:FS:=⟨[.rd Fx,.rd y3],[y4],jq,none⟩
def p8:FS:=⟨[.rd Fx,.rd y3],[lG,y4],gf,none⟩
def p9:FS:=⟨[],[lG],lW,none⟩
def rK:FS:=⟨[.rd lG,.rd y91,.rd DK],[lG],fO,none⟩
def qN:FS:=⟨[.rd lG],[DK],iZ,none⟩
def yT:FS:=⟨[.rd lG,.rd y91,.rd y3],[y91],mg,none⟩
def qa:FS:=⟨[.rd lG],[y91],gi,none⟩
def oQ:FS:=⟨[.rd lG],[lG],fw,none⟩
def oR:FS:=⟨[.rd y61],[lG,y4],fx,none⟩
def jd:FS:=⟨[.rd lG,.rd lG],[y4],dW,none⟩
def tU:FS:=⟨[.rd y37,.rd lG],[y3],jJ,none⟩
def tV:FS:=⟨[.rd y38],[y40,y4],lB,none⟩
def qb:FS:=⟨[.rd y61,.rd y61],[y4],jt,none⟩
def kN:FS:=⟨[.rd y40,.rd y40],[y4],eI,none⟩
def kO:FS:=⟨[.rd y40],[y4],eJ,none⟩
def je:FS:=⟨[.rd y36],[y3],bK,none⟩
def rL:FS:=⟨[.rd y40,.rd y3],[y3],iu,none⟩
def wE:FS:=⟨[.rd y43],[y4],qF,none⟩
def kl:FS:=⟨[.rd y3],[y9],bt,none⟩
def jX:FS:=⟨[.rd y3],[y9],df,none⟩
def lX:FS:=⟨[.rd DJ],[y9],gj,none⟩
def kP:FS:=⟨[.rd y73],[y9],bX,none⟩
def tW:FS:=⟨[.rd y9],[y3],eA,none⟩
def nN:FS:=⟨[.rd y3,.rd y73],[y9],dh,none⟩
def rM:FS:=⟨[.rd y9,.rd y5],[TV],fA,none⟩
def oS:FS:=⟨[.rd y9],[y3,y4],eB,none⟩
def oT:FS:=⟨[.rd y9],[y3,y4],dY,none⟩
def rN:FS:=⟨[.rd y9],[DJ,y4],eK,none⟩
def qc:FS:=⟨[.rd y9],[y73,y4],cO,none⟩
def nO:FS:=⟨[.rd y9],[y3,y73,y4],gp,none⟩
def wF:FS:=⟨[.rd y9],[y91,.sl 73 (.bag y73),y3],m_s_ScanLog,none⟩
def yU:FS:=⟨[.rd y43],[y4],sO,none⟩
def mq:FS:=⟨[.rd y43],[y4],fQ,none⟩
def sS:FS:=⟨[.rd y91],[y91],mi,none⟩
def yV:FS:=⟨[.rd Tb],[DJ],pF,none⟩
def wG:FS:=⟨[.rd Tc],[Sc],nh,none⟩
def wH:FS:=⟨[.rd Td],[M5],ni,none⟩
def tX:FS:=⟨[.rd y22],[y34],lD,none⟩
def rO:FS:=⟨[.rd y24],[y36],ke,none⟩
def wI:FS:=⟨[.rd DK],[DK],nj,none⟩
def wJ:FS:=⟨[.rd JI],[JI],nk,none⟩
def oU:FS:=⟨[.rd Te],[lG],iy,none⟩
def nP:FS:=⟨[.rd y25],[y37],gq,none⟩
def wK:FS:=⟨[.rd TU],[uD],nl,none⟩
def tY:FS:=⟨[.rd y54],[y59],lE,none⟩
def yW:FS:=⟨[.rd y56],[y61],pG,none⟩
def nQ:FS:=⟨[.rd Tf],[CP],gr,none⟩
def mr:FS:=⟨[.rd y26],[y38],fR,none⟩
def qd:FS:=⟨[.rd y28],[y40],jx,none⟩
def nR:FS:=⟨[.rd TS],[y88],gu,none⟩
def mu:FS:=⟨[.rd y29],[y41],fS,none⟩
def tZ:FS:=⟨[.rd y31],[y43],gL,none⟩
def fV:FS:=⟨[.rd y3,.rd y3,.rd y3],[y4],bu,none⟩
def sU:FS:=⟨[.rd DJ,.rd y3],[y4],gM,none⟩
def nS:FS:=⟨[.rd M5],[y4],bH,none⟩
def b9:FS:=⟨[.rd y91,.rd y91],[y4],bz,none⟩
def iI:FS:=⟨[.rd y36],[y4],m_i_IsValidHistory,none⟩
def oV:FS:=⟨[.rd y3],[y4],gN,none⟩
def wL:FS:=⟨[.rd uD],[y4],np,none⟩
def aX:FS:=⟨[.rd Tg],[Tg],fun _=>none,some (274,8)⟩
def pM:FS:=⟨[.rd y61],[t274],kt,none⟩
def yX:FS:=⟨[.rd y61],[y4],pH,none⟩
def oW:FS:=⟨[.rd y61],[y4],iA,none⟩
def jF (n:Nat):FS:=⟨[.rd t274],[y3],bf n,none⟩
def Fy:FS:=⟨[.rd y3],[t274],Al,none⟩
def lK (n:Nat):FS:=⟨[.eat t274,.rd y3,.rd y3],[t274],gO n,none⟩
def iJ (n:Nat):FS:=⟨[.rd t274],[t274],aS n,none⟩
def gB (n:Nat):FS:=⟨[.rd t274,.ptr 61 y61],[],aQ n,none⟩
def rP:FS:=⟨[.rd t274],[y61],nt,none⟩
def qe:FS:=⟨[.rd y61],[y61,y4],jy,none⟩
def j6:FS:=⟨[.ptr 230 Fx,.rd y3,.rd y3],[],cJ,none⟩
def eS (n:Nat):FS:=⟨[.ptr 230 Fx,.rd t274],[UF],aT n,none⟩
def lL:FS:=⟨[.rd y61],[Fx,y4],ff,none⟩
def jY:FS:=⟨[.rd y3,.rd y3,.fn [y3] [y4],.fn [y3,y3] [y3,y4]],[lG,y4],di,none⟩
def jN:FS:=⟨[.rd Fx,.rd y3],[y4],cy,none⟩
def kQ:FS:=⟨[.rd Fx,.rd y3,.rd y3],[y3],eM,none⟩
def mw:FS:=⟨[.rd y3,.rd y3,.cap 230 Fx],[y3,y4],cm,none⟩
def oX:FS:=⟨[.rd Fx,.rd y3],[lG,y4],fC,none⟩
def a8:FS:=⟨[.rd DK],[DK],fun _=>none,some (4,1)⟩
def lM:FS:=⟨[.rd lG],[DK],dq,none⟩
def c8:FS:=⟨[.rd JI,.fn [y91] [y4]],[y3],bj,none⟩
def iR:FS:=⟨[.rd y91,.cap 91 y91],[y4],fb,none⟩
def j7:FS:=⟨[.rd lG,.rd y91],[y91,y3],cK,none⟩
def jO:FS:=⟨[.rd lG],[y91],cB,none⟩
def kR:FS:=⟨[.rd Sf,.rd Sf],[Sf,Sf],qG,none⟩
def kS:FS:=⟨[.rd Se,.rd Se],[Se,Se],kL,none⟩
def my:FS:=⟨[.rd Sd,.rd Sd],[Sd,Sd],mj,none⟩
def fG:FS:=⟨[.rd y91,.rd y3],[y91],fE,none⟩
def wM:FS:=⟨[],[lG],qH,none⟩
def fX:FS:=⟨[.rd y91,.rd y3],[y3],da,none⟩
def gQ:FS:=⟨[.rd y3,.cap 91 y91],[y3],aH,none⟩
def gR:FS:=⟨[.rd y3,.cap 189 lG,.capf 308 [y3] [y3]],[y4],bN,none⟩
def lN:FS:=⟨[.rd lG,.rd y3,.rd y3],[y3],dt,none⟩
def gS:FS:=⟨[.rd y3,.rd y3,.cap 189 lG,.capf 308 [y3] [y3],.cap 91 y91],[y3,y4],bO,none⟩
def iS:FS:=⟨[.rd lG],[lG],cg,none⟩
def Cc:FS:=⟨[.rd lG],[lG,y4],wx,none⟩
def oY:FS:=⟨[.rd y61],[lG,y4],fF,none⟩
def b8:FS:=⟨[.rd y37,.fn [lG] [y4]],[y3],aE,none⟩
def fg:FS:=⟨[.rd DK,.rd DK],[y4],cM,none⟩
def bD:FS:=⟨[.rd JI,.rd JI,.fn [y91,y91] [y4]],[y4],a7,none⟩
def kT:FS:=⟨[.rd y91,.rd y91],[y4],eN,none⟩
def jf:FS:=⟨[.rd lG,.rd lG],[y4],cR,none⟩
def ua:FS:=⟨[.rd lG,.cap 189 lG],[y4],jL,none⟩
def ub:FS:=⟨[.rd y61],[y61],jM,none⟩
def yY:FS:=⟨[.rd y38],[y40,y4],pI,none⟩
def aV:FS:=⟨[.rd y37,.rd y37,.fn [lG,lG] [y4]],[y4],aB,none⟩
def aR:FS:=⟨[.rd y38,.rd y38,.fn [CP,CP] [y4]],[y4],aA,none⟩
def eD:FS:=⟨[.rd y59,.rd y59],[y4],bC,none⟩
def qf:FS:=⟨[.rd y61,.rd y61],[y4],jz,none⟩
def nT:FS:=⟨[.rd CP,.rd CP],[y4],eY,none⟩
def kU:FS:=⟨[.rd y40,.rd y40],[y4],eO,none⟩
def kV:FS:=⟨[.rd y40],[y4],eP,none⟩
def mz:FS:=⟨[.rd y36],[y3],fT,none⟩
def bS:FS:=⟨[.rd y38,.fn [CP] [y4]],[y3],bh,none⟩
def oZ:FS:=⟨[.rd CP,.cap 3 y3],[y4],iC,none⟩
def rQ:FS:=⟨[.rd y40,.rd y3],[y3],iD,none⟩
def jP:FS:=⟨[.rd y9,.rd y5],[.int .i64],du,none⟩
def nU:FS:=⟨[.rd y3],[.str],jV,none⟩
def nB:FS:=⟨[.rd y3],[y9],cn,none⟩
def lY:FS:=⟨[.rd DJ],[y9],gk,none⟩
def nV:FS:=⟨[.rd TV,.rd y9],[.str],gx,none⟩
def kW:FS:=⟨[.rd y73],[y9],cW,none⟩
def uc:FS:=⟨[.rd y9],[y3],gP,none⟩
def nW:FS:=⟨[.rd y3,.rd y73],[y9],eZ,none⟩
def jg:FS:=⟨[.rd y9,.rd y9],[.sl 9 .str],bP,none⟩
def o0:FS:=⟨[.rd y9],[.int .i64,.bool],eC,none⟩
def o6:FS:=⟨[.rd y9,.rd y9],[.str,.str,.bool],b7,none⟩
def rR:FS:=⟨[.rd y9],[DJ,y4],eQ,none⟩
def qg:FS:=⟨[.rd y9],[y73,y4],cP,none⟩
def nX:FS:=⟨[.rd y9],[y3,y73,y4],gy,none⟩
def wN:FS:=⟨[.rd y9],[y91,.sl 73 (.bag y73),y3],m_i_ScanLog,none⟩
def mA:FS:=⟨[.rd y43],[y4],fU,none⟩
def sV:FS:=⟨[.rd y91,.rd y91],[y4],pJ,none⟩
def yZ:FS:=⟨[.rd DJ,.rd DJ],[y4],pK,none⟩
def wO:FS:=⟨[.rd Sc,.rd Sc],[y4],qI,none⟩
def wP:FS:=⟨[.rd M5,.rd M5],[y4],nw,none⟩
def ud:FS:=⟨[.rd y34,.rd y34],[y4],oL,none⟩
def rS:FS:=⟨[.rd y36,.rd y36],[y4],kh,none⟩
def wQ:FS:=⟨[.rd DK,.rd DK],[y4],qJ,none⟩
def wR:FS:=⟨[.rd JI,.rd JI],[y4],qK,none⟩
def o7:FS:=⟨[.rd lG,.rd lG],[y4],iF,none⟩
def nY:FS:=⟨[.rd y37,.rd y37],[y4],jW,none⟩
def wS:FS:=⟨[.rd uD,.rd uD],[y4],ny,none⟩
def ue:FS:=⟨[.rd y59,.rd y59],[y4],oM,none⟩
def y6:FS:=⟨[.rd y61,.rd y61],[y4],pL,none⟩
def nZ:FS:=⟨[.rd CP,.rd CP],[y4],gz,none⟩
def mB:FS:=⟨[.rd y38,.rd y38],[y4],jb,none⟩
def qi:FS:=⟨[.rd y40,.rd y40],[y4],jD,none⟩
def n7:FS:=⟨[.rd y88,.rd y88],[y4],gA,none⟩
def mC:FS:=⟨[.rd y41,.rd y41],[y4],jc,none⟩
def uf:FS:=⟨[.rd y43,.rd y43],[y4],lF,none⟩
def mD:FS:=⟨[.rd y31],[y4],cE,none⟩
end R
namespace R
open Go.RowKit
open D
theorem y7:FOk Tryz.prog 206 sP:=fok (V:=⟨tt,[],[],12,[]⟩) aq trivial mixed Tryz.func206 rfl rfl (enters_of Tryz.func206 (by kernel_rfl) rfl) rfl (Nat.le_of_ble_eq_true rfl) rfl .no (fun d=>by kernel_rfl)
theorem DL:FOk Tryz.prog 207 wz:=fok (V:=⟨tt,[],[],12,[]⟩) aq trivial mixed Tryz.func207 rfl rfl (enters_of Tryz.func207 (by kernel_rfl) rfl) rfl (Nat.le_of_ble_eq_true rfl) rfl .no (fun d=>by kernel_rfl)
theorem DM:FOk Tryz.prog 149 wA:=fok (V:=⟨tt,[(206,sP),(207,wz)],[],18,[]⟩) aq ⟨y7,DL,trivial⟩ mixed Tryz.func149 rfl rfl (enters_of Tryz.func149 (by kernel_rfl) rfl) rfl (Nat.le_of_ble_eq_true rfl) rfl .no (fun d=>by kernel_rfl)
theorem Cd:FOk Tryz.prog 95 tQ:=fok (V:=⟨tt,[(149,wA)],[],27,[]⟩) aq ⟨DM,trivial⟩ mixed Tryz.func95 rfl rfl (enters_of Tryz.func95 (by kernel_rfl) rfl) rfl (Nat.le_of_ble_eq_true rfl) rfl (.two .no (.two .no (.two .no (.two (.two .no (.loop [.slot 1 (.num .i64),.slot 5 (.num .i64)] .no)) .no)))) (fun d=>by kernel_rfl)
theorem Am:FOk Tryz.prog 40 rI:=fok (V:=⟨tt,[(95,tQ)],[],12,[]⟩) aq ⟨Cd,trivial⟩ mixed Tryz.func40 rfl rfl (enters_of Tryz.func40 (by kernel_rfl) rfl) rfl (Nat.le_of_ble_eq_true rfl) rfl .no (fun d=>by kernel_rfl)
theorem DN:FOk Tryz.prog 208 wB:=fok (V:=⟨tt,[],[],12,[]⟩) aq trivial mixed Tryz.func208 rfl rfl (enters_of Tryz.func208 (by kernel_rfl) rfl) rfl (Nat.le_of_ble_eq_true rfl) rfl .no (fun d=>by kernel_rfl)
theorem DO:FOk Tryz.prog 209 wC:=fok (V:=⟨tt,[(206,sP)],[],27,[]⟩) aq ⟨y7,trivial⟩ mixed Tryz.func209 rfl rfl (enters_of Tryz.func209 (by kernel_rfl) rfl) rfl (Nat.le_of_ble_eq_true rfl) rfl (.two .no (.two .no (.two .no (.two (.two .no (.loop [.slot 1 (.num .i64),.slot 5 (.num .i64)] .no)) .no)))) (fun d=>by kernel_rfl)
theorem wT:FOk Tryz.prog 150 oN:=fok (V:=⟨tt,[(208,wB),(209,wC)],[],18,[]⟩) aq ⟨DN,DO,trivial⟩ mixed Tryz.func150 rfl rfl (enters_of Tryz.func150 (by kernel_rfl) rfl) rfl (Nat.le_of_ble_eq_true rfl) rfl .no (fun d=>by kernel_rfl)
theorem uE:FOk Tryz.prog 96 nK:=fok (V:=⟨tt,[(150,oN)],[],27,[]⟩) aq ⟨wT,trivial⟩ mixed Tryz.func96 rfl rfl (enters_of Tryz.func96 (by kernel_rfl) rfl) rfl (Nat.le_of_ble_eq_true rfl) rfl (.two .no (.two .no (.two .no (.two (.two .no (.loop [.slot 1 (.num .i64),.slot 5 (.num .i64)] .no)) .no)))) (fun d=>by kernel_rfl)
theorem Ce:FOk Tryz.prog 82 tR:=fok (V:=⟨tt,[],[],12,[]⟩) aq trivial mixed Tryz.func82 rfl rfl (enters_of Tryz.func82 (by kernel_rfl) rfl) rfl (Nat.le_of_ble_eq_true rfl) rfl .no (fun d=>by kernel_rfl)
theorem GO:FOk Tryz.prog 28 yP:=fok (V:=⟨tt,[(82,tR)],[],12,[]⟩) aq ⟨Ce,trivial⟩ mixed Tryz.func28 rfl rfl (enters_of Tryz.func28 (by kernel_rfl) rfl) rfl (Nat.le_of_ble_eq_true rfl) rfl .no (fun d=>by kernel_rfl)
theorem uF:FOk Tryz.prog 151 nL:=fok (V:=⟨tt,[(28,yP)],[],12,[]⟩) aq ⟨GO,trivial⟩ mixed Tryz.func151 rfl rfl (enters_of Tryz.func151 (by kernel_rfl) rfl) rfl (Nat.le_of_ble_eq_true rfl) rfl .no (fun d=>by kernel_rfl)
theorem sW:FOk Tryz.prog 97 mn:=fok (V:=⟨tt,[(151,nL)],[],27,[]⟩) aq ⟨uF,trivial⟩ mixed Tryz.func97 rfl rfl (enters_of Tryz.func97 (by kernel_rfl) rfl) rfl (Nat.le_of_ble_eq_true rfl) rfl (.two .no (.two .no (.two .no (.two (.two .no (.loop [.slot 1 (.num .i64),.slot 5 (.num .i64)] .no)) .no)))) (fun d=>by kernel_rfl)
theorem xM:FOk Tryz.prog 41 pY:=fok (V:=⟨tt,[(96,nK),(97,mn)],[],18,[]⟩) aq ⟨uE,sW,trivial⟩ mixed Tryz.func41 rfl rfl (enters_of Tryz.func41 (by kernel_rfl) rfl) rfl (Nat.le_of_ble_eq_true rfl) rfl .no (fun d=>by kernel_rfl)
theorem sX:FOk Tryz.prog 42 mo:=fok (V:=⟨tt,[],[],12,[]⟩) aq trivial mixed Tryz.func42 rfl rfl (enters_of Tryz.func42 (by kernel_rfl) rfl) rfl (Nat.le_of_ble_eq_true rfl) rfl .no (fun d=>by kernel_rfl)
theorem Cf:FOk Tryz.prog 11 tS:=fok (V:=⟨tt,[(40,rI),(41,pY),(42,mo)],[],31,[]⟩) aq ⟨Am,xM,sX,trivial⟩ mixed Tryz.func11 rfl rfl (enters_of Tryz.func11 (by kernel_rfl) rfl) rfl (Nat.le_of_ble_eq_true rfl) rfl .no (fun d=>by kernel_rfl)
theorem km:FOk Tryz.prog 59 jE:=fok (V:=⟨tt,[],[],15,[]⟩) aq trivial mixed Tryz.func59 rfl rfl (enters_of Tryz.func59 (by kernel_rfl) rfl) rfl (Nat.le_of_ble_eq_true rfl) rfl .no (fun d=>by kernel_rfl)
end R
namespace R
open Go.RowKit
open D
theorem GP:FOk Tryz.prog 152 yQ:=fok (V:=⟨tt,[(59,jE)],[],30,[]⟩) aq ⟨km,trivial⟩ mixed Tryz.func152 rfl rfl (enters_of Tryz.func152 (by kernel_rfl) rfl) rfl (Nat.le_of_ble_eq_true rfl) rfl .no (fun d=>by kernel_rfl)
theorem uG:FOk Tryz.prog 98 nM:=fok (V:=⟨tt,[(59,jE),(152,yQ)],[],64,[]⟩) aq ⟨km,GP,trivial⟩ mixed Tryz.func98 rfl rfl (enters_of Tryz.func98 (by kernel_rfl) rfl) rfl (Nat.le_of_ble_eq_true rfl) rfl (.two .no (.two (.two .no (.loop [.slot 3 (.num .i64)] .no)) (.two (.two .no (.loop [.slot 4 (.num .i64)] .no)) .no))) (fun d=>by kernel_rfl)
theorem wU:FOk Tryz.prog 99 rJ:=fok (V:=⟨tt,[],[],46,[]⟩) aq trivial mixed Tryz.func99 rfl rfl (enters_of Tryz.func99 (by kernel_rfl) rfl) rfl (Nat.le_of_ble_eq_true rfl) rfl (.two .no (.two (.two .no (.loop [.slot 5 (.num .i64)] .no)) .no)) (fun d=>by kernel_rfl)
theorem lO:FOk Tryz.prog 43 iH:=fok (V:=⟨tt,[(59,jE),(98,nM),(99,rJ)],[],47,[]⟩) aq ⟨km,uG,wU,trivial⟩ mixed Tryz.func43 rfl rfl (enters_of Tryz.func43 (by kernel_rfl) rfl) rfl (Nat.le_of_ble_eq_true rfl) rfl (.two .no (.two (.two .no (.loop [.slot 3 (.num .i64)] .no)) .no)) (fun d=>by kernel_rfl)
theorem ug:FOk Tryz.prog 276 oO:=fok (V:=⟨tt,[(59,jE)],[],5,[]⟩) aq ⟨km,trivial⟩ mixed Tryz.func276 rfl rfl (enters_of Tryz.func276 (by kernel_rfl) rfl) rfl (Nat.le_of_ble_eq_true rfl) rfl .no (fun d=>by kernel_rfl)
theorem wV:FOk Tryz.prog 322 qL:=fok (V:=⟨tt,[(59,jE),(276,oO)],[],87,[]⟩) aq ⟨km,ug,trivial⟩ mixed Tryz.func322 rfl rfl (enters_of Tryz.func322 (by kernel_rfl) rfl) rfl (Nat.le_of_ble_eq_true rfl) rfl (.two .no (.two (.two .no (.join [.slot 5 .boo] .no (.two .no (.two .no (.two .no (.join [.slot 37 .boo] .no .no)))))) .no)) (fun d=>by kernel_rfl)
theorem GQ:FOk Tryz.prog 319 yR:=fok (V:=⟨tt,[(322,qL)],[],32,[]⟩) aq ⟨wV,trivial⟩ mixed Tryz.func319 rfl rfl (enters_of Tryz.func319 (by kernel_rfl) rfl) rfl (Nat.le_of_ble_eq_true rfl) rfl (.two .no (.two .no (.two (.two .no (.loop [.slot 3 (.num .i64),.slot 4 (.num .i64)] .no)) .no))) (fun d=>by kernel_rfl)
theorem wW:FOk Tryz.prog 281 oP:=fok (V:=⟨tt,[(319,yR)],[],11,[]⟩) aq ⟨GQ,trivial⟩ mixed Tryz.func281 rfl rfl (enters_of Tryz.func281 (by kernel_rfl) rfl) rfl (Nat.le_of_ble_eq_true rfl) rfl .no (fun d=>by kernel_rfl)
theorem qO:FOk Tryz.prog 284 nz:=fok (V:=⟨tt,[(322,qL)],[],20,[]⟩) aq ⟨wV,trivial⟩ mixed Tryz.func284 rfl rfl (enters_of Tryz.func284 (by kernel_rfl) rfl) rfl (Nat.le_of_ble_eq_true rfl) rfl (.two .no (.two .no (.two .no (.two (.loop [.slot 3 (.num .i64),.slot 4 (.num .i64)] .no) .no)))) (fun d=>by kernel_rfl)
theorem wX: ∀n,FOk Tryz.prog 282 (nA n)
 | 0=>ij (f:=nA 0) (enters_of Tryz.func282 (by kernel_rfl) rfl) rfl (fun d=>rfl)
 | n+1=>by
  have ih:=wX n
  exact fok (V:=⟨tt,[(282,(nA n)),(284,nz)],[],54,[]⟩) aq ⟨ih,qO,trivial⟩ mixed Tryz.func282 rfl rfl (enters_of Tryz.func282 (by kernel_rfl) rfl) rfl (Nat.le_of_ble_eq_true rfl) rfl (.two .no (.two .no (.two .no (.two (.two .no (.two (.two .no (.at [.slot 15 .boo] .no)) .no)) .no)))) (fun d=>by kernel_rfl)
theorem y8:FOk Tryz.prog 155 sQ:=fok (V:=⟨tt,[],[],7,[]⟩) aq trivial mixed Tryz.func155 rfl rfl (enters_of Tryz.func155 (by kernel_rfl) rfl) rfl (Nat.le_of_ble_eq_true rfl) rfl .no (fun d=>by kernel_rfl)
theorem za:FOk Tryz.prog 320 sR:=fok (V:=⟨tt,[(155,sQ)],[],24,[]⟩) aq ⟨y8,trivial⟩ mixed Tryz.func320 rfl rfl (enters_of Tryz.func320 (by kernel_rfl) rfl) rfl (Nat.le_of_ble_eq_true rfl) rfl .no (fun d=>by kernel_rfl)
theorem GR:FOk Tryz.prog 343 yS:=fok (V:=⟨tt,[],[],7,[]⟩) aq trivial mixed Tryz.func343 rfl rfl (enters_of Tryz.func343 (by kernel_rfl) rfl) rfl (Nat.le_of_ble_eq_true rfl) rfl .no (fun d=>by kernel_rfl)
theorem uh: ∀n,FOk Tryz.prog 321 (lH n)
 | 0=>ij (f:=lH 0) (enters_of Tryz.func321 (by kernel_rfl) rfl) rfl (fun d=>rfl)
 | n+1=>by
  have ih:=uh n
  exact fok (V:=⟨tt,[(320,sR),(321,(lH n)),(343,yS)],[],28,[]⟩) aq ⟨za,ih,GR,trivial⟩ mixed Tryz.func321 rfl rfl (enters_of Tryz.func321 (by kernel_rfl) rfl) rfl (Nat.le_of_ble_eq_true rfl) rfl .no (fun d=>by kernel_rfl)
theorem rT: ∀n,FOk Tryz.prog 283 (kj n)
 | 0=>ij (f:=kj 0) (enters_of Tryz.func283 (by kernel_rfl) rfl) rfl (fun d=>rfl)
 | n+1=>by
  have ih:=rT n
  exact fok (V:=⟨tt,[(283,(kj n)),(284,nz),(320,sR),(321,(lH eU))],[],56,[]⟩) aq ⟨ih,qO,za,(uh eU),trivial⟩ mixed Tryz.func283 rfl rfl (enters_of Tryz.func283 (by kernel_rfl) rfl) rfl (Nat.le_of_ble_eq_true rfl) rfl (.two .no (.two .no (.two .no (.two (.two .no (.two (.two .no (.at [.slot 15 .boo] .no)) .no)) .no)))) (fun d=>by kernel_rfl)
theorem xN:FOk Tryz.prog 248 pZ:=fok (V:=⟨tt,[(281,oP),(282,(nA eU)),(283,(kj eU))],[],24,[]⟩) aq ⟨wW,(wX eU),(rT eU),trivial⟩ mixed Tryz.func248 rfl rfl (enters_of Tryz.func248 (by kernel_rfl) rfl) rfl (Nat.le_of_ble_eq_true rfl) rfl .no (fun d=>by kernel_rfl)
theorem DP:FOk Tryz.prog 285 wD:=fok (V:=⟨tt,[],[],36,[]⟩) aq trivial mixed Tryz.func285 rfl rfl (enters_of Tryz.func285 (by kernel_rfl) rfl) rfl (Nat.le_of_ble_eq_true rfl) rfl (.two .no (.loop [.slot 6 (.num .i64),.par 3 [3] 3 y3] (.two .no (.two (.at [.par 3 [3] 3 y3] .no) .no)))) (fun d=>by kernel_rfl)
end R
namespace R
open Go.RowKit
open D
theorem ui: ∀n,FOk Tryz.prog 249 (lI n)
 | 0=>ij (f:=lI 0) (enters_of Tryz.func249 (by kernel_rfl) rfl) rfl (fun d=>rfl)
 | n+1=>by
  have ih:=ui n
  exact fok (V:=⟨tt,[(249,(lI n)),(284,nz),(285,wD)],[],163,[]⟩) aq ⟨ih,qO,DP,trivial⟩ mixed Tryz.func249 rfl rfl (enters_of Tryz.func249 (by kernel_rfl) rfl) rfl (Nat.le_of_ble_eq_true rfl) rfl (.two .no (.two .no (.two .no (.two (.two .no (.two .no (.two .no (.two .no (.two .no (.two .no (.two (.two .no (.two .no (.two .no (.two .no (.two .no (.two (.two .no (.at [.box 11 [.boo,(.num .i64),(.num .i64)]] .no)) (.two (.two .no (.at [.box 11 [.boo,(.num .i64),(.num .i64)]] .no)) .no))))))) .no))))))) .no)))) (fun d=>by kernel_rfl)
theorem rU:FOk Tryz.prog 210 lJ:=fok (V:=⟨tt,[(248,pZ),(249,(lI eU))],[],51,[]⟩) aq ⟨xN,(ui eU),trivial⟩ mixed Tryz.func210 rfl rfl (enters_of Tryz.func210 (by kernel_rfl) rfl) rfl (Nat.le_of_ble_eq_true rfl) rfl (.two .no (.two .no (.two .no (.two .no (.two (.two .no (.loop [.slot 6 (.num .i64),.slot 7 (.num .i64)] (.two .no (.two (.at [.slot 6 (.num .i64)] .no) .no)))) .no))))) (fun d=>by kernel_rfl)
theorem Cg:FOk Tryz.prog 250 tT:=fok (V:=⟨tt,[],[],63,[]⟩) aq trivial mixed Tryz.func250 rfl rfl (enters_of Tryz.func250 (by kernel_rfl) rfl) rfl (Nat.le_of_ble_eq_true rfl) rfl (.two .no (.two .no (.join [.slot 7 (.num .i64)] .no (.two (.two .no (.loop [.slot 7 (.num .i64),.slot 8 (.num .i64)] (.two .no (.join [.slot 7 (.num .i64)] .no .no)))) (.two .no (.two (.two .no (.loop [.slot 9 (.num .i64),.slot 10 (.num .i64)] (.two .no (.join [.slot 9 (.num .i64)] .no .no)))) .no)))))) (fun d=>by kernel_rfl)
theorem wY:FOk Tryz.prog 251 qM:=fok (V:=⟨tt,[],[],19,[]⟩) aq trivial mixed Tryz.func251 rfl rfl (enters_of Tryz.func251 (by kernel_rfl) rfl) rfl (Nat.le_of_ble_eq_true rfl) rfl (.two .no (.two (.two .no (.loop [.slot 5 (.num .i64)] .no)) .no)) (fun d=>by kernel_rfl)
theorem xO:FOk Tryz.prog 252 p7:=fok (V:=⟨tt,[],[],20,[]⟩) aq trivial mixed Tryz.func252 rfl rfl (enters_of Tryz.func252 (by kernel_rfl) rfl) rfl (Nat.le_of_ble_eq_true rfl) rfl .no (fun d=>by kernel_rfl)
theorem xP:FOk Tryz.prog 211 p8:=fok (V:=⟨tt,[(250,tT),(251,qM),(252,p7)],[],73,[]⟩) aq ⟨Cg,wY,xO,trivial⟩ mixed Tryz.func211 rfl rfl (enters_of Tryz.func211 (by kernel_rfl) rfl) rfl (Nat.le_of_ble_eq_true rfl) rfl (.two .no (.two .no (.two .no (.two (.two .no (.loop [.slot 7 (.own 3 y3),.slot 8 (.num .i64),.box 6 [(.num .i64),(.own 4 y4),(.own 91 y91)]] (.two .no (.two (.two .no (.two (.two .no (.loop [.slot 7 (.own 3 y3),.slot 9 (.own 3 y3),.slot 10 (.num .i64)] (.two .no (.two (.two .no (.two .no (.join [.slot 7 (.own 3 y3),.slot 12 (.num .i64)] .no .no))) .no)))) .no)) .no)))) .no)))) (fun d=>by kernel_rfl)
theorem xQ:FOk Tryz.prog 286 p9:=fok (V:=⟨tt,[],[],15,[]⟩) aq trivial mixed Tryz.func286 rfl rfl (enters_of Tryz.func286 (by kernel_rfl) rfl) rfl (Nat.le_of_ble_eq_true rfl) rfl (.two .no (.two .no (.two (.two .no (.loop [.slot 1 (.own 3 y3),.slot 2 (.num .i64)] .no)) .no))) (fun d=>by kernel_rfl)
theorem An:FOk Tryz.prog 253 rK:=fok (V:=⟨tt,[(251,qM),(286,p9)],[],107,[]⟩) aq ⟨wY,xQ,trivial⟩ mixed Tryz.func253 rfl rfl (enters_of Tryz.func253 (by kernel_rfl) rfl) rfl (Nat.le_of_ble_eq_true rfl) rfl (.two .no (.two .no (.two .no (.two .no (.two .no (.two (.two .no (.loop [.slot 8 (.own 3 y3),.slot 9 (.own 3 y3),.slot 10 (.num .i64),.box 7 [(.num .i64),(.own 4 y4),(.own 91 y91)]] (.two .no (.two (.two .no (.two (.two .no (.loop [.slot 8 (.own 3 y3),.slot 9 (.own 3 y3),.slot 11 (.own 3 y3),.slot 12 (.num .i64)] (.two .no (.two (.two .no (.two .no (.join [.slot 8 (.own 3 y3),.slot 9 (.own 3 y3),.slot 14 (.num .i64)] .no .no))) .no)))) .no)) .no)))) .no)))))) (fun d=>by kernel_rfl)
theorem wZ:FOk Tryz.prog 255 qN:=fok (V:=⟨tt,[],[],55,[]⟩) aq trivial mixed Tryz.func255 rfl rfl (enters_of Tryz.func255 (by kernel_rfl) rfl) rfl (Nat.le_of_ble_eq_true rfl) rfl (.two .no (.two .no (.two (.two .no (.loop [.row 3 4 y4,.slot 4 (.num .i64)] (.two .no (.two (.two .no (.loop [.row 3 4 y4,.slot 5 (.num .i64)] (.two .no (.two (.two .no (.loop [.row 3 4 y4,.slot 6 (.num .i64)] (.two .no (.join [.row 3 4 y4] .no .no)))) .no)))) .no)))) .no))) (fun d=>by kernel_rfl)
theorem GS:FOk Tryz.prog 287 yT:=fok (V:=⟨tt,[],[],40,[]⟩) aq trivial mixed Tryz.func287 rfl rfl (enters_of Tryz.func287 (by kernel_rfl) rfl) rfl (Nat.le_of_ble_eq_true rfl) rfl (.two .no (.two .no (.two (.two .no (.loop [.slot 7 (.own 3 y3),.slot 8 (.num .i64)] (.two .no (.join [.slot 7 (.own 3 y3)] .no .no)))) .no))) (fun d=>by kernel_rfl)
theorem xR:FOk Tryz.prog 254 qa:=fok (V:=⟨tt,[(99,rJ),(255,qN),(287,yT)],[],99,[]⟩) aq ⟨wU,wZ,GS,trivial⟩ mixed Tryz.func254 rfl rfl (enters_of Tryz.func254 (by kernel_rfl) rfl) rfl (Nat.le_of_ble_eq_true rfl) rfl (.two .no (.two .no (.two .no (.two (.two .no (.loop [.slot 4 (.own 3 y3),.slot 5 (.num .i64)] (.two .no (.two (.two .no (.two (.two .no (.at [.slot 6 (.num .i64)] .no)) (.two (.two .no (.at [.slot 6 (.num .i64)] .no)) .no))) .no)))) (.two (.two .no (.loop [.slot 4 (.own 3 y3),.slot 7 (.num .i64)] (.two .no (.two (.two .no (.two .no (.two (.two .no (.loop [.slot 8 (.own 91 y91),.slot 9 (.own 3 y3),.slot 10 (.num .i64)] (.two .no (.two (.at [.slot 8 (.own 91 y91),.slot 9 (.own 3 y3)] (.two .no (.two .no (.two .no (.two (.two .no (.loop [.slot 12 (.num .i64),.slot 13 (.num .i64)] (.two .no (.two (.at [.slot 12 (.num .i64)] .no) .no)))) (.two (.two .no (.at [.slot 8 (.own 91 y91),.slot 12 (.num .i64),.gone 11] .no)) .no)))))) .no)))) .no))) .no)))) .no))))) (fun d=>by kernel_rfl)
theorem w4:FOk Tryz.prog 212 oQ:=fok (V:=⟨tt,[(253,rK),(254,qa),(255,qN)],[],9,[]⟩) aq ⟨An,xR,wZ,trivial⟩ mixed Tryz.func212 rfl rfl (enters_of Tryz.func212 (by kernel_rfl) rfl) rfl (Nat.le_of_ble_eq_true rfl) rfl .no (fun d=>by kernel_rfl)
theorem w5:FOk Tryz.prog 153 oR:=fok (V:=⟨tt,[(210,lJ),(211,p8),(212,oQ)],[],33,[]⟩) aq ⟨rU,xP,w4,trivial⟩ mixed Tryz.func153 rfl rfl (enters_of Tryz.func153 (by kernel_rfl) rfl) rfl (Nat.le_of_ble_eq_true rfl) rfl .no (fun d=>by kernel_rfl)
theorem mE:FOk Tryz.prog 156 jd:=fok (V:=⟨tt,[(99,rJ)],[],67,[]⟩) aq ⟨wU,trivial⟩ mixed Tryz.func156 rfl rfl (enters_of Tryz.func156 (by kernel_rfl) rfl) rfl (Nat.le_of_ble_eq_true rfl) rfl (.two .no (.two .no (.two (.two .no (.loop [.slot 5 (.num .i64)] .no)) (.two (.two .no (.loop [.slot 6 (.num .i64)] .no)) .no)))) (fun d=>by kernel_rfl)
theorem Ci:FOk Tryz.prog 154 tU:=fok (V:=⟨tt,[(156,jd)],[],19,[]⟩) aq ⟨mE,trivial⟩ mixed Tryz.func154 rfl rfl (enters_of Tryz.func154 (by kernel_rfl) rfl) rfl (Nat.le_of_ble_eq_true rfl) rfl (.two .no (.two (.two .no (.loop [.slot 5 (.num .i64)] .no)) .no)) (fun d=>by kernel_rfl)
theorem Cj:FOk Tryz.prog 100 tV:=fok (V:=⟨tt,[(59,jE),(153,oR),(154,tU),(155,sQ)],[],94,[]⟩) aq ⟨km,w5,Ci,y8,trivial⟩ mixed Tryz.func100 rfl rfl (enters_of Tryz.func100 (by kernel_rfl) rfl) rfl (Nat.le_of_ble_eq_true rfl) rfl (.two .no (.two .no (.two .no (.two (.two .no (.loop [.slot 5 (.num .i64),.box 4 [(.own 189 lG),(.own 137 CP)]] (.two .no (.two (.two .no (.two .no (.two .no (.join [.slot 8 (.num .i64),.box 4 [(.own 189 lG),(.own 137 CP)],.gone 6] .no .no)))) .no)))) .no)))) (fun d=>by kernel_rfl)
theorem xS:FOk Tryz.prog 157 qb:=fok (V:=⟨tt,[],[],31,[]⟩) aq trivial mixed Tryz.func157 rfl rfl (enters_of Tryz.func157 (by kernel_rfl) rfl) rfl (Nat.le_of_ble_eq_true rfl) rfl (.two .no (.two .no (.two (.two .no (.loop [.slot 5 (.num .i64)] .no)) .no))) (fun d=>by kernel_rfl)
end R
namespace R
open Go.RowKit
open D
theorem qP:FOk Tryz.prog 101 kN:=fok (V:=⟨tt,[(156,jd),(157,qb)],[],93,[]⟩) aq ⟨mE,xS,trivial⟩ mixed Tryz.func101 rfl rfl (enters_of Tryz.func101 (by kernel_rfl) rfl) rfl (Nat.le_of_ble_eq_true rfl) rfl (.two .no (.two .no (.two (.two .no (.loop [.slot 5 (.num .i64)] .no)) (.two (.two .no (.loop [.slot 6 (.num .i64)] .no)) .no)))) (fun d=>by kernel_rfl)
theorem qQ:FOk Tryz.prog 44 kO:=fok (V:=⟨tt,[(100,tV),(101,kN)],[],17,[]⟩) aq ⟨Cj,qP,trivial⟩ mixed Tryz.func44 rfl rfl (enters_of Tryz.func44 (by kernel_rfl) rfl) rfl (Nat.le_of_ble_eq_true rfl) rfl .no (fun d=>by kernel_rfl)
theorem mF:FOk Tryz.prog 63 je:=fok (V:=⟨tt,[(43,iH)],[],13,[]⟩) aq ⟨lO,trivial⟩ mixed Tryz.func63 rfl rfl (enters_of Tryz.func63 (by kernel_rfl) rfl) rfl (Nat.le_of_ble_eq_true rfl) rfl .no (fun d=>by kernel_rfl)
theorem Ao:FOk Tryz.prog 79 rL:=fok (V:=⟨tt,[],[],22,[]⟩) aq trivial mixed Tryz.func79 rfl rfl (enters_of Tryz.func79 (by kernel_rfl) rfl) rfl (Nat.le_of_ble_eq_true rfl) rfl (.two .no (.two (.two .no (.loop [.slot 5 (.num .i64)] .no)) .no)) (fun d=>by kernel_rfl)
theorem DQ:FOk Tryz.prog 45 wE:=fok (V:=⟨tt,[(59,jE),(63,je),(79,rL)],[],58,[]⟩) aq ⟨km,mF,Ao,trivial⟩ mixed Tryz.func45 rfl rfl (enters_of Tryz.func45 (by kernel_rfl) rfl) rfl (Nat.le_of_ble_eq_true rfl) rfl (.two .no (.two (.two .no (.loop [.slot 3 (.num .i64)] .no)) .no)) (fun d=>by kernel_rfl)
theorem nC:FOk Tryz.prog 144 kl:=fok (V:=⟨tt,[],[],31,[]⟩) aq trivial mixed Tryz.func144 rfl rfl (enters_of Tryz.func144 (by kernel_rfl) rfl) rfl (Nat.le_of_ble_eq_true rfl) rfl (.two .no (.two .no (.two .no (.two .no (.two (.loop [.slot 0 (.num .i64),.slot 3 .str] (.two .no (.two .no (.two (.two .no (.at [.slot 5 (.num .i64)] .no)) .no)))) .no))))) (fun d=>by kernel_rfl)
theorem n8:FOk Tryz.prog 243 jX:=fok (V:=⟨tt,[(276,oO)],[],10,[]⟩) aq ⟨ug,trivial⟩ mixed Tryz.func243 rfl rfl (enters_of Tryz.func243 (by kernel_rfl) rfl) rfl (Nat.le_of_ble_eq_true rfl) rfl .no (fun d=>by kernel_rfl)
theorem qj:FOk Tryz.prog 200 lX:=fok (V:=⟨tt,[(59,jE),(144,kl),(243,jX)],[],42,[]⟩) aq ⟨km,nC,n8,trivial⟩ mixed Tryz.func200 rfl rfl (enters_of Tryz.func200 (by kernel_rfl) rfl) rfl (Nat.le_of_ble_eq_true rfl) rfl .no (fun d=>by kernel_rfl)
theorem o8:FOk Tryz.prog 143 kP:=fok (V:=⟨tt,[(200,lX)],[],45,[]⟩) aq ⟨qj,trivial⟩ mixed Tryz.func143 rfl rfl (enters_of Tryz.func143 (by kernel_rfl) rfl) rfl (Nat.le_of_ble_eq_true rfl) rfl (.two .no (.two .no (.two .no (.two (.two .no (.loop [.slot 3 .str,.slot 4 (.num .i64)] (.two .no (.two (.atX [.slot 3 .str] (.two .no (.two .no (.two (.two .no (.at [.slot 3 .str] .no)) .no)))) .no)))) .no)))) (fun d=>by kernel_rfl)
theorem Ck:FOk Tryz.prog 145 tW:=fok (V:=⟨tt,[],[],21,[]⟩) aq trivial mixed Tryz.func145 rfl rfl (enters_of Tryz.func145 (by kernel_rfl) rfl) rfl (Nat.le_of_ble_eq_true rfl) rfl (.two .no (.two .no (.two (.two .no (.loop [.slot 3 (.num .i64),.slot 4 (.num .i64)] .no)) .no))) (fun d=>by kernel_rfl)
theorem uH:FOk Tryz.prog 90 nN:=fok (V:=⟨tt,[(59,jE),(143,kP),(144,kl),(145,tW)],[],33,[]⟩) aq ⟨km,o8,nC,Ck,trivial⟩ mixed Tryz.func90 rfl rfl (enters_of Tryz.func90 (by kernel_rfl) rfl) rfl (Nat.le_of_ble_eq_true rfl) rfl .no (fun d=>by kernel_rfl)
theorem w6:FOk Tryz.prog 177 rM:=fok (V:=⟨tt,[],[],35,[]⟩) aq trivial mixed Tryz.func177 rfl rfl (enters_of Tryz.func177 (by kernel_rfl) rfl) rfl (Nat.le_of_ble_eq_true rfl) rfl (.two .no (.two .no (.two .no (.two (.two .no (.loop [.slot 5 (.own 9 y9),.slot 6 (.num .i64),.slot 7 (.num .i64)] (.two .no (.two (.at [.slot 5 (.own 9 y9),.slot 6 (.num .i64)] .no) .no)))) .no)))) (fun d=>by kernel_rfl)
theorem uj:FOk Tryz.prog 178 oS:=fok (V:=⟨tt,[(144,kl)],[],61,[]⟩) aq ⟨nC,trivial⟩ mixed Tryz.func178 rfl rfl (enters_of Tryz.func178 (by kernel_rfl) rfl) rfl (Nat.le_of_ble_eq_true rfl) rfl (.two .no (.two .no (.two .no (.two (.two .no (.loop [.slot 4 (.num .i64),.slot 5 (.num .i64),.slot 6 (.num .i64)] (.two .no (.two (.at [.slot 4 (.num .i64),.slot 5 (.num .i64)] .no) .no)))) (.two (.two .no (.at [.slot 4 (.num .i64)] .no)) .no))))) (fun d=>by kernel_rfl)
theorem w7:FOk Tryz.prog 271 oT:=fok (V:=⟨tt,[(243,jX)],[],14,[]⟩) aq ⟨n8,trivial⟩ mixed Tryz.func271 rfl rfl (enters_of Tryz.func271 (by kernel_rfl) rfl) rfl (Nat.le_of_ble_eq_true rfl) rfl (.two .no (.two (.two .no (.loop [.slot 4 (.num .i64)] .no)) .no)) (fun d=>by kernel_rfl)
theorem Ap:FOk Tryz.prog 232 rN:=fok (V:=⟨tt,[(177,rM),(178,oS),(200,lX),(271,oT)],[],60,[]⟩) aq ⟨w6,uj,qj,w7,trivial⟩ mixed Tryz.func232 rfl rfl (enters_of Tryz.func232 (by kernel_rfl) rfl) rfl (Nat.le_of_ble_eq_true rfl) rfl .no (fun d=>by kernel_rfl)
theorem xT:FOk Tryz.prog 179 qc:=fok (V:=⟨tt,[(143,kP),(177,rM),(232,rN)],[],63,[]⟩) aq ⟨o8,w6,Ap,trivial⟩ mixed Tryz.func179 rfl rfl (enters_of Tryz.func179 (by kernel_rfl) rfl) rfl (Nat.le_of_ble_eq_true rfl) rfl (.two .no (.two .no (.two .no (.two .no (.two (.two .no (.loop [.slot 6 (.num .i64),.box 4 [(.own 170 (.prod y4 DJ))]] .no)) .no))))) (fun d=>by kernel_rfl)
theorem uI:FOk Tryz.prog 118 nO:=fok (V:=⟨tt,[(90,nN),(177,rM),(178,oS),(179,qc)],[],46,[]⟩) aq ⟨uH,w6,uj,xT,trivial⟩ mixed Tryz.func118 rfl rfl (enters_of Tryz.func118 (by kernel_rfl) rfl) rfl (Nat.le_of_ble_eq_true rfl) rfl .no (fun d=>by kernel_rfl)
end R
namespace R
open Go.RowKit
open D
theorem DR:FOk Tryz.prog 60 wF:=Fu (ps:=[.rd y9]) (A:=y91) (E:=73) (t:=y73) (B:=y3) (m:=m_s_ScanLog) (fok (V:=⟨tt,[(118,nO)],[],73,[]⟩) aq ⟨uI,trivial⟩ mixed Tryz.func60 rfl rfl (enters_of Tryz.func60 (by kernel_rfl) rfl) rfl (Nat.le_of_ble_eq_true rfl) rfl (.two .no (.two .no (.two .no (.two .no (.two (.two .no (.loop [.slot 5 (.own 3 y3),.slot 6 (.own 73 y73),.slot 7 (.num .i64),.slot 8 (.num .i64)] (.two .no (.two (.atX [.slot 5 (.own 3 y3),.slot 6 (.own 73 y73),.slot 7 (.num .i64)] .no) .no)))) .no))))) (fun d=>by kernel_rfl))
theorem GT:FOk Tryz.prog 46 yU:=fok (V:=⟨tt,[(60,wF),(63,je)],[],41,[]⟩) aq ⟨DR,mF,trivial⟩ mixed Tryz.func46 rfl rfl (enters_of Tryz.func46 (by kernel_rfl) rfl) rfl (Nat.le_of_ble_eq_true rfl) rfl .no (fun d=>by kernel_rfl)
theorem sY:FOk Tryz.prog 12 mq:=fok (V:=⟨tt,[(43,iH),(44,kO),(45,wE),(46,yU)],[],19,[]⟩) aq ⟨lO,qQ,DQ,GT,trivial⟩ mixed Tryz.func12 rfl rfl (enters_of Tryz.func12 (by kernel_rfl) rfl) rfl (Nat.le_of_ble_eq_true rfl) rfl .no (fun d=>by kernel_rfl)
theorem zb:FOk Tryz.prog 213 sS:=fok (V:=⟨tt,[],[],22,[]⟩) aq trivial mixed Tryz.func213 rfl rfl (enters_of Tryz.func213 (by kernel_rfl) rfl) rfl (Nat.le_of_ble_eq_true rfl) rfl (.two .no (.two .no (.two (.two .no (.loop [.row 3 3 y3,.slot 4 (.num .i64)] .no)) .no))) (fun d=>by kernel_rfl)
theorem GU:FOk Tryz.prog 201 yV:=fok (V:=⟨tt,[],[],17,[]⟩) aq trivial mixed Tryz.func201 rfl rfl (enters_of Tryz.func201 (by kernel_rfl) rfl) rfl (Nat.le_of_ble_eq_true rfl) rfl .no (fun d=>by kernel_rfl)
theorem DS:FOk Tryz.prog 214 wG:=fok (V:=⟨tt,[(201,yV)],[],23,[]⟩) aq ⟨GU,trivial⟩ mixed Tryz.func214 rfl rfl (enters_of Tryz.func214 (by kernel_rfl) rfl) rfl (Nat.le_of_ble_eq_true rfl) rfl (.two .no (.two .no (.two (.two .no (.loop [.row 3 168 DJ,.slot 4 (.num .i64)] .no)) .no))) (fun d=>by kernel_rfl)
theorem DT:FOk Tryz.prog 158 wH:=fok (V:=⟨tt,[(213,sS),(214,wG)],[],13,[]⟩) aq ⟨zb,DS,trivial⟩ mixed Tryz.func158 rfl rfl (enters_of Tryz.func158 (by kernel_rfl) rfl) rfl (Nat.le_of_ble_eq_true rfl) rfl .no (fun d=>by kernel_rfl)
theorem Cl:FOk Tryz.prog 102 tX:=fok (V:=⟨tt,[(158,wH)],[],23,[]⟩) aq ⟨DT,trivial⟩ mixed Tryz.func102 rfl rfl (enters_of Tryz.func102 (by kernel_rfl) rfl) rfl (Nat.le_of_ble_eq_true rfl) rfl (.two .no (.two .no (.two (.two .no (.loop [.row 3 126 M5,.slot 4 (.num .i64)] .no)) .no))) (fun d=>by kernel_rfl)
theorem Aq:FOk Tryz.prog 47 rO:=fok (V:=⟨tt,[(102,tX)],[],12,[]⟩) aq ⟨Cl,trivial⟩ mixed Tryz.func47 rfl rfl (enters_of Tryz.func47 (by kernel_rfl) rfl) rfl (Nat.le_of_ble_eq_true rfl) rfl .no (fun d=>by kernel_rfl)
theorem DU:FOk Tryz.prog 215 wI:=fok (V:=⟨tt,[],[],22,[]⟩) aq trivial mixed Tryz.func215 rfl rfl (enters_of Tryz.func215 (by kernel_rfl) rfl) rfl (Nat.le_of_ble_eq_true rfl) rfl (.two .no (.two .no (.two (.two .no (.loop [.row 3 4 y4,.slot 4 (.num .i64)] .no)) .no))) (fun d=>by kernel_rfl)
theorem DV:FOk Tryz.prog 216 wJ:=fok (V:=⟨tt,[(213,sS)],[],23,[]⟩) aq ⟨zb,trivial⟩ mixed Tryz.func216 rfl rfl (enters_of Tryz.func216 (by kernel_rfl) rfl) rfl (Nat.le_of_ble_eq_true rfl) rfl (.two .no (.two .no (.two (.two .no (.loop [.row 3 91 y91,.slot 4 (.num .i64)] .no)) .no))) (fun d=>by kernel_rfl)
theorem w8:FOk Tryz.prog 159 oU:=fok (V:=⟨tt,[(215,wI),(216,wJ)],[],16,[]⟩) aq ⟨DU,DV,trivial⟩ mixed Tryz.func159 rfl rfl (enters_of Tryz.func159 (by kernel_rfl) rfl) rfl (Nat.le_of_ble_eq_true rfl) rfl .no (fun d=>by kernel_rfl)
theorem uJ:FOk Tryz.prog 103 nP:=fok (V:=⟨tt,[(159,oU)],[],23,[]⟩) aq ⟨w8,trivial⟩ mixed Tryz.func103 rfl rfl (enters_of Tryz.func103 (by kernel_rfl) rfl) rfl (Nat.le_of_ble_eq_true rfl) rfl (.two .no (.two .no (.two (.two .no (.loop [.row 3 189 lG,.slot 4 (.num .i64)] .no)) .no))) (fun d=>by kernel_rfl)
theorem DW:FOk Tryz.prog 139 wK:=fok (V:=⟨tt,[],[],17,[]⟩) aq trivial mixed Tryz.func139 rfl rfl (enters_of Tryz.func139 (by kernel_rfl) rfl) rfl (Nat.le_of_ble_eq_true rfl) rfl .no (fun d=>by kernel_rfl)
theorem Cm:FOk Tryz.prog 84 tY:=fok (V:=⟨tt,[(139,wK)],[],23,[]⟩) aq ⟨DW,trivial⟩ mixed Tryz.func84 rfl rfl (enters_of Tryz.func84 (by kernel_rfl) rfl) rfl (Nat.le_of_ble_eq_true rfl) rfl (.two .no (.two .no (.two (.two .no (.loop [.row 3 161 uD,.slot 4 (.num .i64)] .no)) .no))) (fun d=>by kernel_rfl)
theorem GV:FOk Tryz.prog 30 yW:=fok (V:=⟨tt,[(84,tY)],[],9,[]⟩) aq ⟨Cm,trivial⟩ mixed Tryz.func30 rfl rfl (enters_of Tryz.func30 (by kernel_rfl) rfl) rfl (Nat.le_of_ble_eq_true rfl) rfl .no (fun d=>by kernel_rfl)
theorem uK:FOk Tryz.prog 160 nQ:=fok (V:=⟨tt,[(30,yW)],[],15,[]⟩) aq ⟨GV,trivial⟩ mixed Tryz.func160 rfl rfl (enters_of Tryz.func160 (by kernel_rfl) rfl) rfl (Nat.le_of_ble_eq_true rfl) rfl .no (fun d=>by kernel_rfl)
end R
namespace R
open Go.RowKit
open D
theorem sZ:FOk Tryz.prog 104 mr:=fok (V:=⟨tt,[(160,nQ)],[],23,[]⟩) aq ⟨uK,trivial⟩ mixed Tryz.func104 rfl rfl (enters_of Tryz.func104 (by kernel_rfl) rfl) rfl (Nat.le_of_ble_eq_true rfl) rfl (.two .no (.two .no (.two (.two .no (.loop [.row 3 137 CP,.slot 4 (.num .i64)] .no)) .no))) (fun d=>by kernel_rfl)
theorem xU:FOk Tryz.prog 48 qd:=fok (V:=⟨tt,[(103,nP),(104,mr)],[],13,[]⟩) aq ⟨uJ,sZ,trivial⟩ mixed Tryz.func48 rfl rfl (enters_of Tryz.func48 (by kernel_rfl) rfl) rfl (Nat.le_of_ble_eq_true rfl) rfl .no (fun d=>by kernel_rfl)
theorem uL:FOk Tryz.prog 105 nR:=fok (V:=⟨tt,[],[],14,[]⟩) aq trivial mixed Tryz.func105 rfl rfl (enters_of Tryz.func105 (by kernel_rfl) rfl) rfl (Nat.le_of_ble_eq_true rfl) rfl .no (fun d=>by kernel_rfl)
theorem ta:FOk Tryz.prog 49 mu:=fok (V:=⟨tt,[(105,nR)],[],23,[]⟩) aq ⟨uL,trivial⟩ mixed Tryz.func49 rfl rfl (enters_of Tryz.func49 (by kernel_rfl) rfl) rfl (Nat.le_of_ble_eq_true rfl) rfl (.two .no (.two .no (.two (.two .no (.loop [.row 3 88 y88,.slot 4 (.num .i64)] .no)) .no))) (fun d=>by kernel_rfl)
theorem Cn:FOk Tryz.prog 13 tZ:=fok (V:=⟨tt,[(47,rO),(48,qd),(49,mu)],[],20,[]⟩) aq ⟨Aq,xU,ta,trivial⟩ mixed Tryz.func13 rfl rfl (enters_of Tryz.func13 (by kernel_rfl) rfl) rfl (Nat.le_of_ble_eq_true rfl) rfl .no (fun d=>by kernel_rfl)
theorem gT:FOk Tryz.prog 53 fV:=fok (V:=⟨tt,[],[],15,[]⟩) aq trivial mixed Tryz.func53 rfl rfl (enters_of Tryz.func53 (by kernel_rfl) rfl) rfl (Nat.le_of_ble_eq_true rfl) rfl .no (fun d=>by kernel_rfl)
theorem ze:FOk Tryz.prog 161 sU:=fok (V:=⟨tt,[(53,fV)],[],27,[]⟩) aq ⟨gT,trivial⟩ mixed Tryz.func161 rfl rfl (enters_of Tryz.func161 (by kernel_rfl) rfl) rfl (Nat.le_of_ble_eq_true rfl) rfl .no (fun d=>by kernel_rfl)
theorem uM:FOk Tryz.prog 106 nS:=fok (V:=⟨tt,[(53,fV),(161,sU)],[],59,[]⟩) aq ⟨gT,ze,trivial⟩ mixed Tryz.func106 rfl rfl (enters_of Tryz.func106 (by kernel_rfl) rfl) rfl (Nat.le_of_ble_eq_true rfl) rfl (.two .no (.two .no (.two (.two .no (.loop [.slot 14 (.num .i64)] .no)) (.two (.two .no (.loop [.slot 25 (.num .i64)] .no)) .no)))) (fun d=>by kernel_rfl)
theorem db:FOk Tryz.prog 107 b9:=fok (V:=⟨tt,[],[],26,[]⟩) aq trivial mixed Tryz.func107 rfl rfl (enters_of Tryz.func107 (by kernel_rfl) rfl) rfl (Nat.le_of_ble_eq_true rfl) rfl (.two .no (.two .no (.two (.two .no (.loop [.slot 13 (.num .i64)] .no)) .no))) (fun d=>by kernel_rfl)
theorem lP:FOk Tryz.prog 50 iI:=fok (V:=⟨tt,[(53,fV),(106,nS),(107,b9)],[],43,[]⟩) aq ⟨gT,uM,db,trivial⟩ mixed Tryz.func50 rfl rfl (enters_of Tryz.func50 (by kernel_rfl) rfl) rfl (Nat.le_of_ble_eq_true rfl) rfl (.two .no (.two .no (.two .no (.two (.two .no (.loop [.slot 24 (.num .i64)] .no)) .no)))) (fun d=>by kernel_rfl)
theorem uk:FOk Tryz.prog 326 oV:=fok (V:=⟨tt,[(53,fV)],[],5,[]⟩) aq ⟨gT,trivial⟩ mixed Tryz.func326 rfl rfl (enters_of Tryz.func326 (by kernel_rfl) rfl) rfl (Nat.le_of_ble_eq_true rfl) rfl .no (fun d=>by kernel_rfl)
theorem DX:FOk Tryz.prog 293 wL:=fok (V:=⟨tt,[(53,fV),(326,oV)],[],48,[]⟩) aq ⟨gT,uk,trivial⟩ mixed Tryz.func293 rfl rfl (enters_of Tryz.func293 (by kernel_rfl) rfl) rfl (Nat.le_of_ble_eq_true rfl) rfl (.two .no (.two (.two .no (.two .no (.two .no (.two .no (.two .no (.join [.slot 37 .boo] .no .no)))))) .no)) (fun d=>by kernel_rfl)
theorem jZ:FOk Tryz.prog 294 aX:=B9 (f:=aX) (ij (f:=⟨aX.ps,aX.rs,aX.m,none⟩) (enters_of Tryz.func294 (by kernel_rfl) rfl) rfl (fun d=>rfl)) (Fs (V:=⟨tt,[],[(5,.raw)],8,[]⟩) aq trivial mixed Tryz.func294 rfl rfl (enters_of Tryz.func294 (by kernel_rfl) rfl) (Nat.le_of_ble_eq_true rfl) .no (fun E bn xs=>by cases bn <;> kernel_rfl))
theorem tc:FOk Tryz.prog 258 pM:=fok (V:=⟨tt,[(293,wL),(294,aX)],[],56,[(302,274,uD)]⟩) aq ⟨DX,jZ,trivial⟩ mixed Tryz.func258 rfl rfl (enters_of Tryz.func258 (by kernel_rfl) rfl) rfl (Nat.le_of_ble_eq_true rfl) rfl (.two .no (.two .no (.two (.two .no (.loop [.slot 3 (.own 274 TW),.slot 13 (.num .i64)] (.two .no (.two .no (.two (.two .no (.two .no (.two (.two .no (.at [.slot 6 (.num .i64)] (.two (.two .no (.at [.slot 19 .boo] .no)) (.two .no (.two (.two .no (.at [.slot 22 .boo] .no)) .no))))) .no))) .no))))) .no))) (fun d=>by kernel_rfl)
theorem GW:FOk Tryz.prog 323 yX:=fok (V:=⟨tt,[(258,pM)],[],6,[(302,274,uD)]⟩) aq ⟨tc,trivial⟩ mixed Tryz.func323 rfl rfl (enters_of Tryz.func323 (by kernel_rfl) rfl) rfl (Nat.le_of_ble_eq_true rfl) rfl .no (fun d=>by kernel_rfl)
theorem w9:FOk Tryz.prog 288 oW:=fok (V:=⟨tt,[(323,yX)],[],11,[]⟩) aq ⟨GW,trivial⟩ mixed Tryz.func288 rfl rfl (enters_of Tryz.func288 (by kernel_rfl) rfl) rfl (Nat.le_of_ble_eq_true rfl) rfl .no (fun d=>by kernel_rfl)
theorem qk: ∀n,FOk Tryz.prog 289 (jF n)
 | 0=>ij (f:=jF 0) (enters_of Tryz.func289 (by kernel_rfl) rfl) rfl (fun d=>rfl)
 | n+1=>by
  have ih:=qk n
  exact fok (V:=⟨tt,[(289,(jF n))],[],39,[(302,274,uD)]⟩) aq ⟨ih,trivial⟩ mixed Tryz.func289 rfl rfl (enters_of Tryz.func289 (by kernel_rfl) rfl) rfl (Nat.le_of_ble_eq_true rfl) rfl (.two .no (.two .no (.two (.two .no (.loop [.slot 3 (.num .i64),.slot 11 (.num .i64)] (.two .no (.two .no (.two (.at [.slot 3 (.num .i64)] .no) .no))))) .no))) (fun d=>by kernel_rfl)
end R
namespace R
open Go.RowKit
open D
theorem M6:FOk Tryz.prog 344 Fy:=fok (V:=⟨tt,[],[],7,[(302,274,uD)]⟩) aq trivial mixed Tryz.func344 rfl rfl (enters_of Tryz.func344 (by kernel_rfl) rfl) rfl (Nat.le_of_ble_eq_true rfl) rfl .no (fun d=>by kernel_rfl)
theorem um: ∀n,FOk Tryz.prog 324 (lK n)
 | 0=>ij (f:=lK 0) (enters_of Tryz.func324 (by kernel_rfl) rfl) rfl (fun d=>rfl)
 | n+1=>by
  have ih:=um n
  exact fok (V:=⟨tt,[(324,(lK n)),(344,Fy)],[],32,[(302,274,uD)]⟩) aq ⟨ih,M6,trivial⟩ mixed Tryz.func324 rfl rfl (enters_of Tryz.func324 (by kernel_rfl) rfl) rfl (Nat.le_of_ble_eq_true rfl) rfl .no (fun d=>by kernel_rfl)
theorem o9: ∀n,FOk Tryz.prog 290 (iJ n)
 | 0=>ij (f:=iJ 0) (enters_of Tryz.func290 (by kernel_rfl) rfl) rfl (fun d=>rfl)
 | n+1=>by
  have ih:=o9 n
  exact fok (V:=⟨tt,[(290,(iJ n)),(324,(lK eU))],[(52,t274)],58,[(302,274,uD)]⟩) aq ⟨ih,(um eU),trivial⟩ mixed Tryz.func290 rfl rfl (enters_of Tryz.func290 (by kernel_rfl) rfl) rfl (Nat.le_of_ble_eq_true rfl) rfl (.two .no (.two .no (.two .no (.two (.two .no (.loop [.slot 41 (.num .i64),.box 3 [(.num .i64),(.num .i64),(.num .i64),(.num .i64),(.own 274 (.tree 302 274 uD))]] .no)) .no)))) (fun d=>by kernel_rfl)
theorem n9: ∀n,FOk Tryz.prog 325 (gB n)
 | 0=>ij (f:=gB 0) (enters_of Tryz.func325 (by kernel_rfl) rfl) rfl (fun d=>rfl)
 | n+1=>by
  have ih:=n9 n
  exact fok (V:=⟨tt,[(325,(gB n))],[],32,[(302,274,uD)]⟩) aq ⟨ih,trivial⟩ mixed Tryz.func325 rfl rfl (enters_of Tryz.func325 (by kernel_rfl) rfl) rfl (Nat.le_of_ble_eq_true rfl) rfl (.two (.two .no (.loop [.slot 11 (.num .i64),.box 1 [(.own 161 uD)]] .no)) .no) (fun d=>by kernel_rfl)
theorem Ar:FOk Tryz.prog 291 rP:=fok (V:=⟨tt,[(325,(gB eU))],[],8,[(302,274,uD)]⟩) aq ⟨(n9 eU),trivial⟩ mixed Tryz.func291 rfl rfl (enters_of Tryz.func291 (by kernel_rfl) rfl) rfl (Nat.le_of_ble_eq_true rfl) rfl .no (fun d=>by kernel_rfl)
theorem xV:FOk Tryz.prog 256 qe:=fok (V:=⟨tt,[(258,pM),(288,oW),(289,(jF eU)),(290,(iJ eU)),(291,rP)],[],25,[(302,274,uD)]⟩) aq ⟨tc,w9,(qk eU),(o9 eU),Ar,trivial⟩ mixed Tryz.func256 rfl rfl (enters_of Tryz.func256 (by kernel_rfl) rfl) rfl (Nat.le_of_ble_eq_true rfl) rfl .no (fun d=>by kernel_rfl)
theorem pU:FOk Tryz.prog 292 j6:=fok (V:=⟨tt,[],[],31,[]⟩) aq trivial mixed Tryz.func292 rfl rfl (enters_of Tryz.func292 (by kernel_rfl) rfl) rfl (Nat.le_of_ble_eq_true rfl) rfl (.two .no (.loop [.slot 12 (.num .i64),.par 3 [3] 3 y3] (.two .no (.two .no (.two (.at [.par 3 [3] 3 y3] .no) .no))))) (fun d=>by kernel_rfl)
theorem kX: ∀n,FOk Tryz.prog 257 (eS n)
 | 0=>ij (f:=eS 0) (enters_of Tryz.func257 (by kernel_rfl) rfl) rfl (fun d=>rfl)
 | n+1=>by
  have ih:=kX n
  exact fok (V:=⟨tt,[(257,(eS n)),(292,j6)],[],163,[(302,274,uD)]⟩) aq ⟨ih,pU,trivial⟩ mixed Tryz.func257 rfl rfl (enters_of Tryz.func257 (by kernel_rfl) rfl) rfl (Nat.le_of_ble_eq_true rfl) rfl (.two .no (.two (.two .no (.two .no (.two .no (.two .no (.two .no (.two .no (.two .no (.two .no (.two (.two .no (.two .no (.two .no (.two (.two .no (.at [.box 10 [(.num .i64),(.num .i64),.boo]] .no)) (.two (.two .no (.at [.box 10 [(.num .i64),(.num .i64),.boo]] .no)) .no))))) .no))))))))) .no)) (fun d=>by kernel_rfl)
theorem rV:FOk Tryz.prog 217 lL:=fok (V:=⟨tt,[(256,qe),(257,(eS eU)),(258,pM)],[],49,[(302,274,uD)]⟩) aq ⟨xV,(kX eU),tc,trivial⟩ mixed Tryz.func217 rfl rfl (enters_of Tryz.func217 (by kernel_rfl) rfl) rfl (Nat.le_of_ble_eq_true rfl) rfl (.two .no (.two .no (.two .no (.two .no (.two (.two .no (.loop [.slot 6 (.num .i64),.slot 22 (.num .i64)] (.two .no (.two .no (.two (.at [.slot 6 (.num .i64)] .no) .no))))) .no))))) (fun d=>by kernel_rfl)
theorem oc:FOk Tryz.prog 259 jY:=fok (V:=⟨tt,[],[],96,[]⟩) aq trivial mixed Tryz.func259 rfl rfl (enters_of Tryz.func259 (by kernel_rfl) rfl) rfl (Nat.le_of_ble_eq_true rfl) rfl (.two .no (.two .no (.two .no (.two .no (.two (.two .no (.loop [.slot 10 (.own 3 y3),.slot 11 (.map ⟨3,3,.int,.int⟩),.slot 13 (.num .i64),.box 12 [(.num .i64),(.own 4 y4),(.own 91 y91)]] (.two .no (.two (.two .no (.two (.two .no (.loop [.slot 10 (.own 3 y3),.slot 11 (.map ⟨3,3,.int,.int⟩),.slot 14 (.own 3 y3),.slot 15 (.num .i64)] (.two .no (.join [.slot 10 (.own 3 y3),.slot 11 (.map ⟨3,3,.int,.int⟩),.slot 14 (.own 3 y3)] (.two .no (.two .no (.two .no (.join [.slot 10 (.own 3 y3),.slot 11 (.map ⟨3,3,.int,.int⟩),.slot 18 (.num .i64)] .no .no)))) .no)))) .no)) .no)))) .no))))) (fun d=>by kernel_rfl)
theorem pa:FOk Tryz.prog 260 jN:=fok (V:=⟨tt,[],[],20,[]⟩) aq trivial mixed Tryz.func260 rfl rfl (enters_of Tryz.func260 (by kernel_rfl) rfl) rfl (Nat.le_of_ble_eq_true rfl) rfl .no (fun d=>by kernel_rfl)
theorem qR:FOk Tryz.prog 262 kQ:=fok (V:=⟨tt,[],[],61,[]⟩) aq trivial mixed Tryz.func262 rfl rfl (enters_of Tryz.func262 (by kernel_rfl) rfl) rfl (Nat.le_of_ble_eq_true rfl) rfl (.two .no (.two .no (.join [.slot 7 (.num .i64)] .no (.two (.two .no (.loop [.slot 7 (.num .i64),.slot 21 (.num .i64)] (.two .no (.two .no (.join [.slot 7 (.num .i64)] .no .no))))) (.two .no (.two (.two .no (.loop [.slot 10 (.num .i64),.slot 39 (.num .i64)] (.two .no (.two .no (.join [.slot 10 (.num .i64)] .no .no))))) .no)))))) (fun d=>by kernel_rfl)
theorem tf:FOk Tryz.prog 261 mw:=fok (V:=⟨tt,[(262,kQ)],[],15,[]⟩) aq ⟨qR,trivial⟩ mixed Tryz.func261 rfl rfl (enters_of Tryz.func261 (by kernel_rfl) rfl) rfl (Nat.le_of_ble_eq_true rfl) rfl .no (fun d=>by kernel_rfl)
theorem xa:FOk Tryz.prog 218 oX:=fok (V:=⟨tt,[(259,jY),(260,jN),(261,mw)],[],13,[]⟩) aq ⟨oc,pa,tf,trivial⟩ mixed Tryz.func218 rfl rfl (enters_of Tryz.func218 (by kernel_rfl) rfl) rfl (Nat.le_of_ble_eq_true rfl) rfl .no (fun d=>by kernel_rfl)
theorem ko:FOk Tryz.prog 345 a8:=B9 (f:=a8) (ij (f:=⟨a8.ps,a8.rs,a8.m,none⟩) (enters_of Tryz.func345 (by kernel_rfl) rfl) rfl (fun d=>rfl)) (Fs (V:=⟨tt,[],[(5,.raw)],8,[]⟩) aq trivial mixed Tryz.func345 rfl rfl (enters_of Tryz.func345 (by kernel_rfl) rfl) (Nat.le_of_ble_eq_true rfl) .no (fun E bn xs=>by cases bn <;> kernel_rfl))
theorem rW:FOk Tryz.prog 327 lM:=fok (V:=⟨tt,[(345,a8)],[],48,[]⟩) aq ⟨ko,trivial⟩ mixed Tryz.func327 rfl rfl (enters_of Tryz.func327 (by kernel_rfl) rfl) rfl (Nat.le_of_ble_eq_true rfl) rfl (.two .no (.two .no (.two (.two .no (.loop [.slot 4 .boo,.row 3 4 y4] (.two .no (.two .no (.two .no (.loop [.slot 4 .boo,.slot 16 (.num .i64),.row 3 4 y4] (.two .no (.two .no (.two (.two .no (.two .no (.loop [.slot 4 .boo,.slot 23 (.num .i64),.row 3 4 y4] (.two .no (.two .no (.two (.at [.slot 4 .boo,.row 3 4 y4] .no) .no)))))) .no))))))))) .no))) (fun d=>by kernel_rfl)
theorem gY:FOk Tryz.prog 346 c8:=fok (V:=⟨tt,[],[],19,[]⟩) aq trivial mixed Tryz.func346 rfl rfl (enters_of Tryz.func346 (by kernel_rfl) rfl) rfl (Nat.le_of_ble_eq_true rfl) rfl (.two .no (.two (.two .no (.loop [.slot 8 (.num .i64)] .no)) .no)) (fun d=>by kernel_rfl)
end R
namespace R
open Go.RowKit
open D
theorem oj:FOk Tryz.prog 347 iR:=fok (V:=⟨tt,[(107,b9)],[],7,[]⟩) aq ⟨db,trivial⟩ mixed Tryz.func347 rfl rfl (enters_of Tryz.func347 (by kernel_rfl) rfl) rfl (Nat.le_of_ble_eq_true rfl) rfl .no (fun d=>by kernel_rfl)
theorem pV:FOk Tryz.prog 328 j7:=fok (V:=⟨tt,[(346,c8),(347,iR)],[],70,[]⟩) aq ⟨gY,oj,trivial⟩ mixed Tryz.func328 rfl rfl (enters_of Tryz.func328 (by kernel_rfl) rfl) rfl (Nat.le_of_ble_eq_true rfl) rfl (.two .no (.two .no (.two .no (.two (.two .no (.loop [.slot 6 (.own 91 y91),.slot 7 (.own 3 y3),.slot 18 (.num .i64)] (.two .no (.two .no (.join [.slot 6 (.own 91 y91),.slot 7 (.own 3 y3)] (.two .no (.two .no (.two .no (.two (.two .no (.loop [.slot 36 (.num .i64),.box 10 [(.own 3 y3)]] (.two .no (.two .no (.two (.two .no (.join [.slot 12 (.num .i64)] .no .no)) .no))))) (.two .no (.join [.slot 6 (.own 91 y91),.slot 13 (.num .i64),.gone 10] .no .no)))))) .no))))) .no)))) (fun d=>by kernel_rfl)
theorem pb:FOk Tryz.prog 295 jO:=fok (V:=⟨tt,[(327,lM),(328,j7)],[],49,[]⟩) aq ⟨rW,pV,trivial⟩ mixed Tryz.func295 rfl rfl (enters_of Tryz.func295 (by kernel_rfl) rfl) rfl (Nat.le_of_ble_eq_true rfl) rfl (.two .no (.two .no (.two (.two .no (.loop [.slot 3 (.own 3 y3),.slot 13 (.num .i64)] (.two .no (.two .no (.join [.slot 3 (.own 3 y3)] .no .no))))) (.two .no (.loop [.slot 3 (.own 3 y3),.slot 6 (.num .i64)] .no))))) (fun d=>by kernel_rfl)
theorem qS:FOk Tryz.prog 354 kR:=fok (V:=⟨tt,[],[],17,[]⟩) aq trivial mixed Tryz.func354 rfl rfl (enters_of Tryz.func354 (by kernel_rfl) rfl) rfl (Nat.le_of_ble_eq_true rfl) rfl .no (fun d=>by kernel_rfl)
theorem qT:FOk Tryz.prog 355 kS:=fok (V:=⟨tt,[],[],51,[]⟩) aq trivial mixed Tryz.func355 rfl rfl (enters_of Tryz.func355 (by kernel_rfl) rfl) rfl (Nat.le_of_ble_eq_true rfl) rfl .no (fun d=>by kernel_rfl)
theorem tg:FOk Tryz.prog 348 my:=fok (V:=⟨tt,[(354,kR),(355,kS)],[],30,[]⟩) aq ⟨qS,qT,trivial⟩ mixed Tryz.func348 rfl rfl (enters_of Tryz.func348 (by kernel_rfl) rfl) rfl (Nat.le_of_ble_eq_true rfl) rfl .no (fun d=>by kernel_rfl)
theorem kY:FOk Tryz.prog 329 fG:=fok (V:=⟨tt,[(348,my)],[(44,.bool)],48,[]⟩) aq ⟨tg,trivial⟩ mixed Tryz.func329 rfl rfl (enters_of Tryz.func329 (by kernel_rfl) rfl) rfl (Nat.le_of_ble_eq_true rfl) rfl (.two .no (.two .no (.two .no (.two .no (.two .no (.two .no (.two (.loop [.slot 8 (.num .i64),.row 7 3 (.int .i64)] .no) .no))))))) (fun d=>by kernel_rfl)
theorem DY:FOk Tryz.prog 296 wM:=fok (V:=⟨tt,[(329,fG)],[],6,[]⟩) aq ⟨kY,trivial⟩ mixed Tryz.func296 rfl rfl (enters_of Tryz.func296 (by kernel_rfl) rfl) rfl (Nat.le_of_ble_eq_true rfl) rfl .no (fun d=>by kernel_rfl)
theorem lj:FOk Tryz.prog 298 fX:=fok (V:=⟨tt,[],[],19,[]⟩) aq trivial mixed Tryz.func298 rfl rfl (enters_of Tryz.func298 (by kernel_rfl) rfl) rfl (Nat.le_of_ble_eq_true rfl) rfl (.two .no (.two (.two .no (.loop [.slot 8 (.num .i64)] .no)) .no)) (fun d=>by kernel_rfl)
theorem mG:FOk Tryz.prog 297 gQ:=fok (V:=⟨tt,[(298,fX)],[],7,[]⟩) aq ⟨lj,trivial⟩ mixed Tryz.func297 rfl rfl (enters_of Tryz.func297 (by kernel_rfl) rfl) rfl (Nat.le_of_ble_eq_true rfl) rfl .no (fun d=>by kernel_rfl)
theorem mH:FOk Tryz.prog 299 gR:=fok (V:=⟨tt,[],[],12,[]⟩) aq trivial mixed Tryz.func299 rfl rfl (enters_of Tryz.func299 (by kernel_rfl) rfl) rfl (Nat.le_of_ble_eq_true rfl) rfl .no (fun d=>by kernel_rfl)
theorem rX:FOk Tryz.prog 301 lN:=fok (V:=⟨tt,[(326,oV)],[],22,[]⟩) aq ⟨uk,trivial⟩ mixed Tryz.func301 rfl rfl (enters_of Tryz.func301 (by kernel_rfl) rfl) rfl (Nat.le_of_ble_eq_true rfl) rfl .no (fun d=>by kernel_rfl)
theorem mI:FOk Tryz.prog 300 gS:=fok (V:=⟨tt,[(301,lN)],[],29,[]⟩) aq ⟨rX,trivial⟩ mixed Tryz.func300 rfl rfl (enters_of Tryz.func300 (by kernel_rfl) rfl) rfl (Nat.le_of_ble_eq_true rfl) rfl .no (fun d=>by kernel_rfl)
theorem om:FOk Tryz.prog 263 iS:=fok (V:=⟨tt,[(259,jY),(295,jO),(296,wM),(297,gQ),(299,gR),(300,gS)],[],31,[]⟩) aq ⟨oc,pb,DY,mG,mH,mI,trivial⟩ mixed Tryz.func263 rfl rfl (enters_of Tryz.func263 (by kernel_rfl) rfl) rfl (Nat.le_of_ble_eq_true rfl) rfl .no (fun d=>by kernel_rfl)
theorem JJ:FOk Tryz.prog 219 Cc:=fok (V:=⟨tt,[(263,iS)],[],13,[]⟩) aq ⟨om,trivial⟩ mixed Tryz.func219 rfl rfl (enters_of Tryz.func219 (by kernel_rfl) rfl) rfl (Nat.le_of_ble_eq_true rfl) rfl .no (fun d=>by kernel_rfl)
theorem xb:FOk Tryz.prog 162 oY:=fok (V:=⟨tt,[(217,lL),(218,oX),(219,Cc)],[],28,[]⟩) aq ⟨rV,xa,JJ,trivial⟩ mixed Tryz.func162 rfl rfl (enters_of Tryz.func162 (by kernel_rfl) rfl) rfl (Nat.le_of_ble_eq_true rfl) rfl .no (fun d=>by kernel_rfl)
theorem e7:FOk Tryz.prog 163 b8:=fok (V:=⟨tt,[],[],19,[]⟩) aq trivial mixed Tryz.func163 rfl rfl (enters_of Tryz.func163 (by kernel_rfl) rfl) rfl (Nat.le_of_ble_eq_true rfl) rfl (.two .no (.two (.two .no (.loop [.slot 8 (.num .i64)] .no)) .no)) (fun d=>by kernel_rfl)
end R
namespace R
open Go.RowKit
open D
theorem kp:FOk Tryz.prog 220 fg:=fok (V:=⟨tt,[],[],26,[]⟩) aq trivial mixed Tryz.func220 rfl rfl (enters_of Tryz.func220 (by kernel_rfl) rfl) rfl (Nat.le_of_ble_eq_true rfl) rfl (.two .no (.two .no (.two (.two .no (.loop [.slot 13 (.num .i64)] .no)) .no))) (fun d=>by kernel_rfl)
theorem dx:FOk Tryz.prog 221 bD:=fok (V:=⟨tt,[],[],32,[]⟩) aq trivial mixed Tryz.func221 rfl rfl (enters_of Tryz.func221 (by kernel_rfl) rfl) rfl (Nat.le_of_ble_eq_true rfl) rfl (.two .no (.two .no (.two (.two .no (.loop [.slot 17 (.num .i64)] .no)) .no))) (fun d=>by kernel_rfl)
theorem qU:FOk Tryz.prog 222 kT:=fok (V:=⟨tt,[(107,b9)],[],8,[]⟩) aq ⟨db,trivial⟩ mixed Tryz.func222 rfl rfl (enters_of Tryz.func222 (by kernel_rfl) rfl) rfl (Nat.le_of_ble_eq_true rfl) rfl .no (fun d=>by kernel_rfl)
theorem mJ:FOk Tryz.prog 165 jf:=fok (V:=⟨tt,[(220,fg),(221,bD),(222,kT)],[],24,[]⟩) aq ⟨kp,dx,qU,trivial⟩ mixed Tryz.func165 rfl rfl (enters_of Tryz.func165 (by kernel_rfl) rfl) rfl (Nat.le_of_ble_eq_true rfl) rfl .no (fun d=>by kernel_rfl)
theorem Co:FOk Tryz.prog 164 ua:=fok (V:=⟨tt,[(165,jf)],[],7,[]⟩) aq ⟨mJ,trivial⟩ mixed Tryz.func164 rfl rfl (enters_of Tryz.func164 (by kernel_rfl) rfl) rfl (Nat.le_of_ble_eq_true rfl) rfl .no (fun d=>by kernel_rfl)
theorem Cp:FOk Tryz.prog 166 ub:=fok (V:=⟨tt,[],[],8,[]⟩) aq trivial mixed Tryz.func166 rfl rfl (enters_of Tryz.func166 (by kernel_rfl) rfl) rfl (Nat.le_of_ble_eq_true rfl) rfl .no (fun d=>by kernel_rfl)
theorem GX:FOk Tryz.prog 108 yY:=fok (V:=⟨tt,[(53,fV),(162,oY),(163,b8),(164,ua),(166,ub)],[],80,[]⟩) aq ⟨gT,xb,e7,Co,Cp,trivial⟩ mixed Tryz.func108 rfl rfl (enters_of Tryz.func108 (by kernel_rfl) rfl) rfl (Nat.le_of_ble_eq_true rfl) rfl (.two .no (.two .no (.two (.two .no (.loop [.slot 13 (.num .i64),.box 4 [(.own 189 lG),(.own 137 CP)]] (.two .no (.two .no (.two (.two .no (.two .no (.two .no (.two .no (.join [.slot 9 (.num .i64),.box 4 [(.own 189 lG),(.own 137 CP)],.gone 7] .no .no))))) .no))))) .no))) (fun d=>by kernel_rfl)
theorem bT:FOk Tryz.prog 167 aV:=fok (V:=⟨tt,[],[],32,[]⟩) aq trivial mixed Tryz.func167 rfl rfl (enters_of Tryz.func167 (by kernel_rfl) rfl) rfl (Nat.le_of_ble_eq_true rfl) rfl (.two .no (.two .no (.two (.two .no (.loop [.slot 17 (.num .i64)] .no)) .no))) (fun d=>by kernel_rfl)
theorem bJ:FOk Tryz.prog 168 aR:=fok (V:=⟨tt,[],[],32,[]⟩) aq trivial mixed Tryz.func168 rfl rfl (enters_of Tryz.func168 (by kernel_rfl) rfl) rfl (Nat.le_of_ble_eq_true rfl) rfl (.two .no (.two .no (.two (.two .no (.loop [.slot 17 (.num .i64)] .no)) .no))) (fun d=>by kernel_rfl)
theorem jQ:FOk Tryz.prog 264 eD:=fok (V:=⟨tt,[],[],26,[]⟩) aq trivial mixed Tryz.func264 rfl rfl (enters_of Tryz.func264 (by kernel_rfl) rfl) rfl (Nat.le_of_ble_eq_true rfl) rfl (.two .no (.two .no (.two (.two .no (.loop [.slot 13 (.num .i64)] .no)) .no))) (fun d=>by kernel_rfl)
theorem xW:FOk Tryz.prog 223 qf:=fok (V:=⟨tt,[(264,eD)],[],10,[]⟩) aq ⟨jQ,trivial⟩ mixed Tryz.func223 rfl rfl (enters_of Tryz.func223 (by kernel_rfl) rfl) rfl (Nat.le_of_ble_eq_true rfl) rfl .no (fun d=>by kernel_rfl)
theorem uN:FOk Tryz.prog 169 nT:=fok (V:=⟨tt,[(223,qf)],[],24,[]⟩) aq ⟨xW,trivial⟩ mixed Tryz.func169 rfl rfl (enters_of Tryz.func169 (by kernel_rfl) rfl) rfl (Nat.le_of_ble_eq_true rfl) rfl .no (fun d=>by kernel_rfl)
theorem qV:FOk Tryz.prog 109 kU:=fok (V:=⟨tt,[(165,jf),(167,aV),(168,aR),(169,nT)],[],17,[]⟩) aq ⟨mJ,bT,bJ,uN,trivial⟩ mixed Tryz.func109 rfl rfl (enters_of Tryz.func109 (by kernel_rfl) rfl) rfl (Nat.le_of_ble_eq_true rfl) rfl .no (fun d=>by kernel_rfl)
theorem qW:FOk Tryz.prog 51 kV:=fok (V:=⟨tt,[(108,yY),(109,kU)],[],17,[]⟩) aq ⟨GX,qV,trivial⟩ mixed Tryz.func51 rfl rfl (enters_of Tryz.func51 (by kernel_rfl) rfl) rfl (Nat.le_of_ble_eq_true rfl) rfl .no (fun d=>by kernel_rfl)
theorem th:FOk Tryz.prog 52 mz:=fok (V:=⟨tt,[(50,iI)],[],13,[]⟩) aq ⟨lP,trivial⟩ mixed Tryz.func52 rfl rfl (enters_of Tryz.func52 (by kernel_rfl) rfl) rfl (Nat.le_of_ble_eq_true rfl) rfl .no (fun d=>by kernel_rfl)
theorem eu:FOk Tryz.prog 110 bS:=fok (V:=⟨tt,[],[],19,[]⟩) aq trivial mixed Tryz.func110 rfl rfl (enters_of Tryz.func110 (by kernel_rfl) rfl) rfl (Nat.le_of_ble_eq_true rfl) rfl (.two .no (.two (.two .no (.loop [.slot 8 (.num .i64)] .no)) .no)) (fun d=>by kernel_rfl)
theorem xc:FOk Tryz.prog 111 oZ:=fok (V:=⟨tt,[],[],8,[]⟩) aq trivial mixed Tryz.func111 rfl rfl (enters_of Tryz.func111 (by kernel_rfl) rfl) rfl (Nat.le_of_ble_eq_true rfl) rfl .no (fun d=>by kernel_rfl)
end R
namespace R
open Go.RowKit
open D
theorem As:FOk Tryz.prog 54 rQ:=fok (V:=⟨tt,[(110,bS),(111,oZ)],[],9,[]⟩) aq ⟨eu,xc,trivial⟩ mixed Tryz.func54 rfl rfl (enters_of Tryz.func54 (by kernel_rfl) rfl) rfl (Nat.le_of_ble_eq_true rfl) rfl .no (fun d=>by kernel_rfl)
theorem pc:FOk Tryz.prog 112 jP:=Ai Ak (enters_of Tryz.func112 (by kernel_rfl) rfl)
theorem uO:FOk Tryz.prog 195 nU:=M2 Fv (enters_of Tryz.func195 (by kernel_rfl) rfl)
theorem rY:FOk Tryz.prog 131 nB:=fok (V:=⟨tt,[(195,nU)],[],5,[]⟩) aq ⟨uO,trivial⟩ mixed Tryz.func131 rfl rfl (enters_of Tryz.func131 (by kernel_rfl) rfl) rfl (Nat.le_of_ble_eq_true rfl) rfl .no (fun d=>by kernel_rfl)
theorem ql:FOk Tryz.prog 193 lY:=fok (V:=⟨tt,[(131,nB),(161,sU)],[],25,[]⟩) aq ⟨rY,ze,trivial⟩ mixed Tryz.func193 rfl rfl (enters_of Tryz.func193 (by kernel_rfl) rfl) rfl (Nat.le_of_ble_eq_true rfl) rfl .no (fun d=>by kernel_rfl)
theorem uP:FOk Tryz.prog 194 nV:=M3 M4 JH 9 (enters_of Tryz.func194 (by kernel_rfl) rfl)
theorem pd:FOk Tryz.prog 130 kW:=fok (V:=⟨tt,[(193,lY),(194,nV)],[],39,[]⟩) aq ⟨ql,uP,trivial⟩ mixed Tryz.func130 rfl rfl (enters_of Tryz.func130 (by kernel_rfl) rfl) rfl (Nat.le_of_ble_eq_true rfl) rfl (.two .no (.two .no (.two .no (.two (.two .no (.loop [.slot 3 (.own 9 y9),.slot 15 (.num .i64)] (.two .no (.two .no (.two (.atX [.slot 3 (.own 9 y9)] .no) .no))))) .no)))) (fun d=>by kernel_rfl)
theorem Cq:FOk Tryz.prog 132 uc:=fok (V:=⟨tt,[],[],21,[]⟩) aq trivial mixed Tryz.func132 rfl rfl (enters_of Tryz.func132 (by kernel_rfl) rfl) rfl (Nat.le_of_ble_eq_true rfl) rfl (.two .no (.two .no (.two (.two .no (.loop [.slot 3 (.num .i64),.slot 4 (.num .i64)] .no)) .no))) (fun d=>by kernel_rfl)
theorem uQ:FOk Tryz.prog 73 nW:=fok (V:=⟨tt,[(53,fV),(130,kW),(131,nB),(132,uc)],[],34,[]⟩) aq ⟨gT,pd,rY,Cq,trivial⟩ mixed Tryz.func73 rfl rfl (enters_of Tryz.func73 (by kernel_rfl) rfl) rfl (Nat.le_of_ble_eq_true rfl) rfl .no (fun d=>by kernel_rfl)
theorem mK:FOk Tryz.prog 171 jg:=JE JG (by kernel_rfl) (by kernel_rfl) (enters_of Tryz.func171 (by kernel_rfl) rfl)
theorem xd (n a b:Int) (w:World):Calls Tryz.prog 53 #[.int .i64 n,.int .i64 a,.int .i64 b] w fun e w'=>e= .returned (.bool (decide (a≤n∧n≤b)))∧w'=w:=by
 by_cases h:a≤n
 ·go_enter Tryz.func53,Tryz.ntmps53
  go_wp2
  go_ret
  simp[h]
 ·go_enter Tryz.func53,Tryz.ntmps53
  go_wp2
  go_ret
  simp
  try (intro k;omega)
theorem DZ (s:ByteArray) (r:Int×Bool) (w:World) (hr:oH s=some r) (hL:LayW Tryz.prog w):Calls Tryz.prog 172 #[.string s] w fun e w'=>e= .returned (.tuple #[.int .i64 r.1,.bool r.2])∧Below w.heap.size w w':=by
 unfold oH at hr
 by_cases h10:10<s.size
 ·rw[if_pos h10] at hr
  obtain rfl:=Option.some.inj hr
  go_enter Tryz.func172,Tryz.ntmps172
  go_wp2
  go_ret2
  exact ⟨rfl,Below.refl _ _⟩
 ·rw[if_neg h10] at hr
  have h18:s.size≤18:=by omega
  cases ha:Lib.atoi s.data.toList with
  | none =>
   rw[ha] at hr
   obtain rfl:=Option.some.inj hr
   obtain ⟨tp,p,hv⟩:=hL.syn
   have hcon:=Any.strconv_Atoi_err_var Fw s h18 ha tp p w hv
   go_enter Tryz.func172,Tryz.ntmps172
   go_wp2_with (go_at_call 226;refine hcon.mono ?_;rintro e w' ⟨N,rfl,hN,hh,hb⟩)
   go_ret2
   exact ⟨rfl,hb⟩
  | some n =>
   rw[ha] at hr
   have hB:=Lib.atoi_bound ha (by simpa using h18)
   have hA:=Any.strconv_Atoi { Fw with } s n h18 ha w
   have hI:=fun t=>Any.strconv_Itoa Fv n (by omega) (by omega) (Lib.bytesWorld w 5 t) (Lib.bytesWorld_var w 5 t hL.tab)
   have hz: ∀t k os,Below w.heap.size w (Go.Sort.grow ((Lib.bytesWorld w 5 t).drewN k) os):=fun t k os=>by
    have h1:=Lib.bytesWorld_below w 5 t
    exact ⟨h1.os,h1.tape,h1.output,by have:=h1.size;simp only[Go.Sort.grow,Array.size_append];exact Nat.le_trans this (Nat.le_add_right _ _),fun b hb=>(Go.Sort.heap_grow_old ((Lib.bytesWorld w 5 t).drewN k) os (Nat.lt_of_lt_of_le hb h1.size:b<((Lib.bytesWorld w 5 t).drewN k).heap.size)).trans (h1.block b hb)⟩
   replace hr:(if (⟨(Lib.itoa n).toArray⟩:ByteArray)=s∧ -999999999≤n∧n≤999999999 then some (n,true) else some (0,false))=some r:=hr
   generalize (⟨(Lib.itoa n).toArray⟩:ByteArray)=q at hr hI
   by_cases e1:q=s
   ·subst e1
    by_cases e2: -999999999≤n∧n≤999999999
    ·rw[if_pos ⟨rfl,e2.1,e2.2⟩] at hr
     obtain rfl:=Option.some.inj hr
     go_enter Tryz.func172,Tryz.ntmps172
     go_wp2_with (first | (go_at_call 226;refine hA.mono ?_;rintro e w' ⟨rfl,t,rfl⟩) | (go_at_call 195;refine (hI _).mono ?_;rintro e w' ⟨rfl,k,os,rfl⟩) | (go_at_call 53;refine (xd _ _ _ _).mono ?_;rintro e w' ⟨rfl,rfl⟩))
     go_ret2
     exact ⟨rfl,hz _ _ _⟩
    ·rw[if_neg fun k=>e2 k.2] at hr
     obtain rfl:=Option.some.inj hr
     go_enter Tryz.func172,Tryz.ntmps172
     go_wp2_with (first | (go_at_call 226;refine hA.mono ?_;rintro e w' ⟨rfl,t,rfl⟩) | (go_at_call 195;refine (hI _).mono ?_;rintro e w' ⟨rfl,k,os,rfl⟩) | (go_at_call 53;refine (xd _ _ _ _).mono ?_;rintro e w' ⟨rfl,rfl⟩))
     go_ret2
     exact ⟨rfl,hz _ _ _⟩
   ·rw[if_neg fun k=>e1 k.1] at hr
    obtain rfl:=Option.some.inj hr
    have e2: ¬q.toList=s.toList:=fun k=>e1 (Go.WideShapes.bytes_inj (by rw[←ByteArray.toList_eq,←ByteArray.toList_eq];exact k))
    go_enter Tryz.func172,Tryz.ntmps172
    go_wp2_with (first | (go_at_call 226;refine hA.mono ?_;rintro e w' ⟨rfl,t,rfl⟩) | (go_at_call 195;refine (hI _).mono ?_;rintro e w' ⟨rfl,k,os,rfl⟩) | (go_at_call 53;refine (xd _ _ _ _).mono ?_;rintro e w' ⟨rfl,rfl⟩))
    go_ret2
    exact ⟨rfl,hz _ _ _⟩
theorem uo:FOk Tryz.prog 172 o0:=JF (enters_of Tryz.func172 (by kernel_rfl) rfl) DZ
theorem xe:FOk Tryz.prog 270 o6:=QH QJ (by kernel_rfl) (enters_of Tryz.func270 (by kernel_rfl) rfl)
theorem At:FOk Tryz.prog 227 rR:=fok (V:=⟨tt,[(172,o0),(193,lY),(270,o6)],[],43,[]⟩) aq ⟨uo,ql,xe,trivial⟩ mixed Tryz.func227 rfl rfl (enters_of Tryz.func227 (by kernel_rfl) rfl) rfl (Nat.le_of_ble_eq_true rfl) rfl .no (fun d=>by kernel_rfl)
theorem xX:FOk Tryz.prog 173 qg:=fok (V:=⟨tt,[(130,kW),(171,jg),(227,rR)],[],49,[]⟩) aq ⟨pd,mK,At,trivial⟩ mixed Tryz.func173 rfl rfl (enters_of Tryz.func173 (by kernel_rfl) rfl) rfl (Nat.le_of_ble_eq_true rfl) rfl (.two .no (.two .no (.two .no (.two (.two .no (.loop [.slot 16 (.num .i64),.box 4 [(.own 170 (.prod y4 DJ))]] .no)) .no)))) (fun d=>by kernel_rfl)
theorem uR:FOk Tryz.prog 113 nX:=fok (V:=⟨tt,[(73,nW),(171,jg),(172,o0),(173,qg)],[],46,[]⟩) aq ⟨uQ,mK,uo,xX,trivial⟩ mixed Tryz.func113 rfl rfl (enters_of Tryz.func113 (by kernel_rfl) rfl) rfl (Nat.le_of_ble_eq_true rfl) rfl .no (fun d=>by kernel_rfl)
theorem D0:FOk Tryz.prog 55 wN:=Fu (ps:=[.rd y9]) (A:=y91) (E:=73) (t:=y73) (B:=y3) (m:=m_i_ScanLog) (fok (V:=⟨tt,[(112,jP),(113,nX)],[],68,[]⟩) aq ⟨pc,uR,trivial⟩ mixed Tryz.func55 rfl rfl (enters_of Tryz.func55 (by kernel_rfl) rfl) rfl (Nat.le_of_ble_eq_true rfl) rfl (.two .no (.two .no (.two .no (.two .no (.two (.loop [.slot 5 (.own 3 y3),.slot 6 (.own 73 y73),.slot 7 (.num .i64)] .no) .no))))) (fun d=>by kernel_rfl))
theorem tj:FOk Tryz.prog 14 mA:=fok (V:=⟨tt,[(50,iI),(51,kV),(52,mz),(53,fV),(54,rQ),(55,wN)],[],105,[]⟩) aq ⟨lP,qW,th,gT,As,D0,trivial⟩ mixed Tryz.func14 rfl rfl (enters_of Tryz.func14 (by kernel_rfl) rfl) rfl (Nat.le_of_ble_eq_true rfl) rfl (.two .no (.two .no (.two .no (.two (.two .no (.loop [.slot 37 (.num .i64)] .no)) .no)))) (fun d=>by kernel_rfl)
end R
namespace R
open Go.RowKit
open D
theorem zf:FOk Tryz.prog 228 sV:=fok (V:=⟨tt,[],[],26,[]⟩) aq trivial mixed Tryz.func228 rfl rfl (enters_of Tryz.func228 (by kernel_rfl) rfl) rfl (Nat.le_of_ble_eq_true rfl) rfl (.two .no (.two .no (.two (.two .no (.loop [.slot 5 (.num .i64)] .no)) .no))) (fun d=>by kernel_rfl)
theorem GY:FOk Tryz.prog 205 yZ:=fok (V:=⟨tt,[],[],25,[]⟩) aq trivial mixed Tryz.func205 rfl rfl (enters_of Tryz.func205 (by kernel_rfl) rfl) rfl (Nat.le_of_ble_eq_true rfl) rfl .no (fun d=>by kernel_rfl)
theorem D1:FOk Tryz.prog 229 wO:=fok (V:=⟨tt,[(205,yZ)],[],27,[]⟩) aq ⟨GY,trivial⟩ mixed Tryz.func229 rfl rfl (enters_of Tryz.func229 (by kernel_rfl) rfl) rfl (Nat.le_of_ble_eq_true rfl) rfl (.two .no (.two .no (.two (.two .no (.loop [.slot 5 (.num .i64)] .no)) .no))) (fun d=>by kernel_rfl)
theorem D2:FOk Tryz.prog 174 wP:=fok (V:=⟨tt,[(228,sV),(229,wO)],[],17,[]⟩) aq ⟨zf,D1,trivial⟩ mixed Tryz.func174 rfl rfl (enters_of Tryz.func174 (by kernel_rfl) rfl) rfl (Nat.le_of_ble_eq_true rfl) rfl .no (fun d=>by kernel_rfl)
theorem Cr:FOk Tryz.prog 114 ud:=fok (V:=⟨tt,[(174,wP)],[],27,[]⟩) aq ⟨D2,trivial⟩ mixed Tryz.func114 rfl rfl (enters_of Tryz.func114 (by kernel_rfl) rfl) rfl (Nat.le_of_ble_eq_true rfl) rfl (.two .no (.two .no (.two (.two .no (.loop [.slot 5 (.num .i64)] .no)) .no))) (fun d=>by kernel_rfl)
theorem Au:FOk Tryz.prog 56 rS:=fok (V:=⟨tt,[(114,ud)],[],16,[]⟩) aq ⟨Cr,trivial⟩ mixed Tryz.func56 rfl rfl (enters_of Tryz.func56 (by kernel_rfl) rfl) rfl (Nat.le_of_ble_eq_true rfl) rfl .no (fun d=>by kernel_rfl)
theorem D3:FOk Tryz.prog 230 wQ:=fok (V:=⟨tt,[],[],26,[]⟩) aq trivial mixed Tryz.func230 rfl rfl (enters_of Tryz.func230 (by kernel_rfl) rfl) rfl (Nat.le_of_ble_eq_true rfl) rfl (.two .no (.two .no (.two (.two .no (.loop [.slot 5 (.num .i64)] .no)) .no))) (fun d=>by kernel_rfl)
theorem D4:FOk Tryz.prog 231 wR:=fok (V:=⟨tt,[(228,sV)],[],27,[]⟩) aq ⟨zf,trivial⟩ mixed Tryz.func231 rfl rfl (enters_of Tryz.func231 (by kernel_rfl) rfl) rfl (Nat.le_of_ble_eq_true rfl) rfl (.two .no (.two .no (.two (.two .no (.loop [.slot 5 (.num .i64)] .no)) .no))) (fun d=>by kernel_rfl)
theorem xf:FOk Tryz.prog 175 o7:=fok (V:=⟨tt,[(230,wQ),(231,wR)],[],22,[]⟩) aq ⟨D3,D4,trivial⟩ mixed Tryz.func175 rfl rfl (enters_of Tryz.func175 (by kernel_rfl) rfl) rfl (Nat.le_of_ble_eq_true rfl) rfl .no (fun d=>by kernel_rfl)
theorem uS:FOk Tryz.prog 115 nY:=fok (V:=⟨tt,[(175,o7)],[],27,[]⟩) aq ⟨xf,trivial⟩ mixed Tryz.func115 rfl rfl (enters_of Tryz.func115 (by kernel_rfl) rfl) rfl (Nat.le_of_ble_eq_true rfl) rfl (.two .no (.two .no (.two (.two .no (.loop [.slot 5 (.num .i64)] .no)) .no))) (fun d=>by kernel_rfl)
theorem D5:FOk Tryz.prog 141 wS:=fok (V:=⟨tt,[],[],25,[]⟩) aq trivial mixed Tryz.func141 rfl rfl (enters_of Tryz.func141 (by kernel_rfl) rfl) rfl (Nat.le_of_ble_eq_true rfl) rfl .no (fun d=>by kernel_rfl)
theorem Cs:FOk Tryz.prog 86 ue:=fok (V:=⟨tt,[(141,wS)],[],27,[]⟩) aq ⟨D5,trivial⟩ mixed Tryz.func86 rfl rfl (enters_of Tryz.func86 (by kernel_rfl) rfl) rfl (Nat.le_of_ble_eq_true rfl) rfl (.two .no (.two .no (.two (.two .no (.loop [.slot 5 (.num .i64)] .no)) .no))) (fun d=>by kernel_rfl)
theorem GZ:FOk Tryz.prog 32 y6:=fok (V:=⟨tt,[(86,ue)],[],11,[]⟩) aq ⟨Cs,trivial⟩ mixed Tryz.func32 rfl rfl (enters_of Tryz.func32 (by kernel_rfl) rfl) rfl (Nat.le_of_ble_eq_true rfl) rfl .no (fun d=>by kernel_rfl)
theorem uT:FOk Tryz.prog 176 nZ:=fok (V:=⟨tt,[(32,y6)],[],21,[]⟩) aq ⟨GZ,trivial⟩ mixed Tryz.func176 rfl rfl (enters_of Tryz.func176 (by kernel_rfl) rfl) rfl (Nat.le_of_ble_eq_true rfl) rfl .no (fun d=>by kernel_rfl)
theorem tk:FOk Tryz.prog 116 mB:=fok (V:=⟨tt,[(176,nZ)],[],27,[]⟩) aq ⟨uT,trivial⟩ mixed Tryz.func116 rfl rfl (enters_of Tryz.func116 (by kernel_rfl) rfl) rfl (Nat.le_of_ble_eq_true rfl) rfl (.two .no (.two .no (.two (.two .no (.loop [.slot 5 (.num .i64)] .no)) .no))) (fun d=>by kernel_rfl)
theorem xY:FOk Tryz.prog 57 qi:=fok (V:=⟨tt,[(115,nY),(116,mB)],[],17,[]⟩) aq ⟨uS,tk,trivial⟩ mixed Tryz.func57 rfl rfl (enters_of Tryz.func57 (by kernel_rfl) rfl) rfl (Nat.le_of_ble_eq_true rfl) rfl .no (fun d=>by kernel_rfl)
theorem uU:FOk Tryz.prog 117 n7:=fok (V:=⟨tt,[],[],20,[]⟩) aq trivial mixed Tryz.func117 rfl rfl (enters_of Tryz.func117 (by kernel_rfl) rfl) rfl (Nat.le_of_ble_eq_true rfl) rfl .no (fun d=>by kernel_rfl)
end R
namespace R
open Go.RowKit
open D
theorem tl:FOk Tryz.prog 58 mC:=fok (V:=⟨tt,[(117,n7)],[],27,[]⟩) aq ⟨uU,trivial⟩ mixed Tryz.func58 rfl rfl (enters_of Tryz.func58 (by kernel_rfl) rfl) rfl (Nat.le_of_ble_eq_true rfl) rfl (.two .no (.two .no (.two (.two .no (.loop [.slot 5 (.num .i64)] .no)) .no))) (fun d=>by kernel_rfl)
theorem Ct:FOk Tryz.prog 15 uf:=fok (V:=⟨tt,[(56,rS),(57,qi),(58,mC)],[],28,[]⟩) aq ⟨Au,xY,tl,trivial⟩ mixed Tryz.func15 rfl rfl (enters_of Tryz.func15 (by kernel_rfl) rfl) rfl (Nat.le_of_ble_eq_true rfl) rfl .no (fun d=>by kernel_rfl)
theorem mL:FOk Tryz.prog 3 mD:=fok (V:=⟨tt,[(11,tS),(12,mq),(13,tZ),(14,mA),(15,uf)],[],27,[]⟩) aq ⟨Cf,sY,Cn,tj,Ct,trivial⟩ mixed Tryz.func3 rfl rfl (enters_of Tryz.func3 (by kernel_rfl) rfl) rfl (Nat.le_of_ble_eq_true rfl) rfl .no (fun d=>by kernel_rfl)
end R
namespace R
open Go.RowKit
open D
end R
namespace R
open Go.RowKit
open D
end R
namespace R
open Go.RowKit
open D
end R
namespace R
open Go.RowKit
open D
end R
namespace R
open Go.RowKit
open D
end R
namespace R
open Go.RowKit
open D
end R
namespace D
open Go.RowKit
theorem mM (x0:(Int×(List ((List Int)×(List (Int×Int×Int×Int)))))×((List (Int×(List Bool)×(List (List Int))))×(List (Int×((List (Int×Int×Int×Int)))×Int)))×(List (Int×Int×Int))×ByteArray) (r:Bool) (hm:cE x0=some r) {I:Hp} {w0:World} (v0_0:Value) (v0_1:Value) (v0_2:Value) (v0_3:Value) (r0_0:(aa 179 (ak (aa 3 aI) (aa 172 (ak aI (ak aI (ak aI aI)))))).rd I [v0_0] x0.1.2) (r0_1:(aa 184 (ak aI (ak (aa 4 lh) (aa 91 (aa 3 aI))))).rd I [v0_1] x0.2.1.1) (r0_2:(aa 187 (ak aI (ak (aa 163 (ak aI (ak aI (ak aI aI)))) aI))).rd I [v0_2] x0.2.1.2) (r0_3:(aa 133 (ak aI (ak aI aI))).rd I [v0_3] x0.2.2.1) (hL:Lay Tryz.prog I):Con Tryz.prog 3 #[.agg #[.int .i64 x0.1.1,v0_0,v0_1,v0_2,v0_3,.string x0.2.2.2]] I w0 [] (fun v=>v= .bool r) (fun _=>[]):=fun w C hs =>
 ((R.mL).con w0 I [.agg #[.int .i64 x0.1.1,v0_0,v0_1,v0_2,v0_3,.string x0.2.2.2]] (x0,()) r hL ⟨_,_,rfl,⟨[.int .i64 x0.1.1,v0_0,v0_1,v0_2,v0_3,.string x0.2.2.2],rfl,⟨_,_,rfl,⟨_,_,rfl,rfl,r0_0⟩,⟨_,_,rfl,⟨_,_,rfl,r0_1,r0_2⟩,⟨_,_,rfl,r0_3,rfl⟩⟩⟩⟩,rfl⟩ hm w C hs).mono fun e w' ⟨v,he,_,hst⟩=>by
  obtain ⟨h1,h2⟩:=R.rr (h1:=fun _=>rfl) (show St I w0 w' (Ch.own R.Ty.bool.rep [v] r::C) from hst)
  exact ⟨v,he,(List.cons.inj h1).1,h2⟩
end D
namespace D
open Go.RowKit
end D
namespace D
open Go.RowKit
end D
namespace D
open Go.RowKit
end D
namespace D
open Go.RowKit
end D
namespace D
open Go.RowKit
end D
namespace D
open Go.RowKit
end D
namespace D
open Go.RowKit
end D
namespace D
open Go.RowKit
def I64 (n:Int):Prop:= -9223372036854775808≤n∧n≤9223372036854775807
class Data (α:Type) where
 lim:α→Prop
 sm:α→Prop
instance:Data Int:=⟨I64,fun _=>True⟩
instance:Data Bool:=⟨fun _=>True,fun _=>True⟩
instance:Data ByteArray:=⟨fun s=>s.size≤9223372036854775807,fun s=>s.size≤1048576⟩
instance {α β:Type} [Data α] [Data β] :Data (α×β):=⟨fun x=>Data.lim x.1∧Data.lim x.2,fun x=>Data.sm x.1∧Data.sm x.2⟩
instance {α:Type} [Data α] :Data (List α):=⟨fun xs=>xs.length≤9223372036854775807∧ ∀x,x∈xs→Data.lim x,fun xs=>xs.length≤1048576∧ ∀x,x∈xs→Data.sm x⟩
structure Opens (P:Program) (t:TypeId) {α:Type} [Data α] (R:Rep α):Prop where
 out: ∀ {H:Type} (enc:TypeId×Value→H) (w:World) (fuel:Nat) (cs:List Value) (x:DataW H×List MemPlace),DataW.trod enc P w 0 (fun _=>true) true fuel t cs=some x→ ∃a:α,R.rd (hp w) cs a∧Data.lim a
theorem JK {P:Program} {t:TypeId} (h:P.underlying t=some (.int .i64)):Opens P t aI:=by
 constructor
 intro H enc w fuel cs x hx
 obtain ⟨n,rfl,-,hw⟩:=DataW.trod_int h hx
 refine ⟨n,rfl,show I64 n from ?_⟩
 simp[Lit.wf,IntKind.min,IntKind.max,IntKind.signed,IntKind.bits] at hw
 unfold I64
 omega
theorem G0 {P:Program} {t:TypeId} (h:P.underlying t=some .bool):Opens P t lh:=by
 constructor
 intro H enc w fuel cs x hx
 obtain ⟨n,rfl,-⟩:=DataW.trod_bool h hx
 exact ⟨n,rfl,trivial⟩
theorem Cu {P:Program} {t:TypeId} (h:P.underlying t=some .string):Opens P t zn:=by
 constructor
 intro H enc w fuel cs x hx
 obtain ⟨n,rfl,-,hm⟩:=DataW.trod_string h hx
 exact ⟨n,rfl,show n.size≤_ by unfold maxLen at hm;omega⟩
theorem eT {P:Program} {t e:TypeId} {α:Type} [Data α] {R:Rep α} {E:TypeId} (h:P.underlying t=some (.slice e)) (hc:P.cellsOf e=R.size) (h0:0<R.size) (he:Opens P e R):Opens P t (aa E R):=by
 constructor
 intro H enc w fuel cs x hx
 rcases Go.Deep.open_slice h hx with ⟨rfl,-⟩ | ⟨a,len,cap,m,n,D,Pl,rfl,-,hl,hm,hmm,-,hel⟩
 ·exact ⟨[],⟨none,0,rfl,by simp,.inl rfl⟩,Nat.zero_le _,fun x hx=>by cases hx⟩
 have hlm:m=cap:=by simpa using hmm
 subst hlm
 rw[hc] at hel
 by_cases hz:len=0
 ·subst hz
  exact ⟨[],⟨some a,m,rfl,by simp,.inl rfl⟩,Nat.zero_le _,fun x hx=>by cases hx⟩
 ·have hone: ∀i,i<len→ ∃c:List Value,∃y:α,c.length=R.size∧(∀j,j<R.size→w.cell? ((a.add (i*R.size)).add j)=c[j]?)∧R.rd (hp w) c y∧Data.lim y:=by
   intro i hi
   obtain ⟨c,h1,h2⟩:=hel i (by omega)
   obtain ⟨-,h3,h4⟩:=World.cells?_some h1
   obtain ⟨y,hy⟩:=he.out enc w _ _ _ h2
   exact ⟨c,y,h3,h4,hy⟩
  obtain ⟨c0,y0,hc0,hr0,-⟩:=hone 0 (by omega)
  have h00:=hr0 0 h0
  have hsome: ∃v,c0[0]? =some v:=⟨_,List.getElem?_eq_getElem (by omega)⟩
  obtain ⟨v,hv⟩:=hsome
  rw[hv] at h00
  have ha:(a.add (0*R.size)).add 0=a:=by simp[Addr.add]
  rw[ha] at h00
  obtain ⟨b,off,spot⟩:=a
  have hb: ∃ccs T fr,w.heap[b]? =some (.cells ccs T fr)∧spot=none:=by
   simp only[World.cell?] at h00
   split at h00
   ·rename_i ccs T fr heq
    cases spot with
    | none=>exact ⟨ccs,T,fr,heq,rfl⟩
    | some s=>simp at h00
   ·simp at h00
  obtain ⟨ccs,T,fr,hh,rfl⟩:=hb
  have hadd: ∀i j,(Addr.add ⟨b,off,none⟩ i).add j=⟨b,off+i+j,none⟩:=by
   intro i j
   by_cases h1:i=0 <;> by_cases h2:j=0 <;> simp[Addr.add,h1,h2,Nat.add_assoc]
  haveI:Inhabited α:=⟨y0⟩
  obtain ⟨X,hX⟩:=Go.Deep.choose_lt (α:=α) (n:=len) (p:=fun i y=> ∃c:List Value,c.length=R.size∧(∀j,j<R.size→ccs.toList[off+i*R.size+j]? =c[j]?)∧R.rd (hp w) c y∧Data.lim y) (fun i hi=>by
   obtain ⟨c,y,h1,h2,h3⟩:=hone i hi
   refine ⟨y,c,h1,fun j hj=>?_,h3⟩
   have:=h2 j hj
   rw[hadd] at this
   simp only[World.cell?,hh] at this
   simpa using this)
  have hlen:((List.range len).map X).length=len:=by simp
  have hel2: ∀i y,((List.range len).map X)[i]? =some y→i<len∧y=X i:=fun i y hy=>by
   have hi:i<len:=by have:=(List.getElem?_eq_some_iff.1 hy).1;omega
   exact ⟨hi,by simpa [hi] using hy.symm⟩
  refine ⟨(List.range len).map X,⟨some ⟨b,off,none⟩,m,by rw[hlen],by rw[hlen];unfold maxLen at hm;unfold lim;omega,.inr ⟨b,off,ccs,T,fr,rfl,hh,fun i y hy=>?_⟩⟩,by rw[hlen];unfold maxLen at hm;omega,fun y hy=>?_⟩
  ·obtain ⟨hi,rfl⟩:=hel2 i y hy
   obtain ⟨c,e1,e2,e3,-⟩:=hX i hi
   exact ⟨c,e1,e2,e3⟩
  ·obtain ⟨i,hi,he⟩:=List.mem_iff_getElem?.1 hy |>.imp fun i hi=>hel2 i y hi
   obtain ⟨-,-,-,-,e4⟩:=hX i hi
   rw[he];exact e4
structure OpensFs (P:Program) (fs:List Field) (o:Nat) {α:Type} [Data α] (R:Rep α):Prop where
 out: ∀ {H:Type} (enc:TypeId×Value→H) (w:World) (fuel:Nat) (cs:List Value),cs.length=o+R.size→
  (∀f∈fs,∃x,DataW.trod enc P w 0 (fun _=>true) true fuel f.type ((cs.drop f.offset).take (P.cellsOf f.type))=some x)→ ∃a:α,R.rd (hp w) (cs.drop o) a∧Data.lim a
theorem fa {P:Program} {f:Field} {o:Nat} {α:Type} [Data α] {R:Rep α} (ho:f.offset=o) (hc:P.cellsOf f.type=R.size) (h:Opens P f.type R):OpensFs P [f] o R:=by
 constructor
 intro H enc w fuel cs hl hx
 obtain ⟨x,hx⟩:=hx f (by simp)
 rw[ho,hc,List.take_of_length_le (by rw[List.length_drop];omega)] at hx
 exact h.out enc w _ _ _ hx
theorem bE {P:Program} {f:Field} {fs:List Field} {o:Nat} {α β:Type} [Data α] [Data β] {R:Rep α} {S:Rep β} (ho:f.offset=o) (hc:P.cellsOf f.type=R.size) (h:Opens P f.type R) (hs:OpensFs P fs (o+R.size) S):OpensFs P (f::fs) o (ak R S):=by
 constructor
 intro H enc w fuel cs hl hx
 have hl':cs.length=o+(R.size+S.size):=hl
 obtain ⟨b,hb,hlb⟩:=hs.out enc w fuel cs (by omega) (fun g hg=>hx g (by simp[hg]))
 obtain ⟨x,hx⟩:=hx f (by simp)
 rw[ho,hc] at hx
 obtain ⟨a,ha,hla⟩:=h.out enc w _ _ _ hx
 refine ⟨(a,b),⟨(cs.drop o).take R.size,cs.drop (o+R.size),?_,ha,hb⟩,hla,hlb⟩
 rw[←List.drop_drop,List.take_append_drop]
theorem cQ {P:Program} {t:TypeId} {fs:Array Field} {α:Type} [Data α] {R:Rep α} (h:P.underlying t=some (.struct fs)) (hc:P.cellsOf t=R.size) (hf:OpensFs P fs.toList 0 R):Opens P t R:=by
 constructor
 intro H enc w fuel cs x hx
 obtain ⟨xs,n,-,-,hl,hn,hel⟩:=DataW.trod_struct h hx
 have:=hf.out enc w n cs (by omega) (fun f hm=>by
  obtain ⟨i,hi,rfl⟩:=List.getElem_of_mem hm
  have h1:fs[i]? =some fs.toList[i]:=by simp
  exact ⟨_,(hel i _ h1).trans (List.getElem?_eq_getElem (by simp at hi;omega))⟩)
 simpa using this
theorem St.below {w0 w:World} {cs:List Ch} (h:St (hp w0) w0 w cs):Below w0.heap.size w0 w:=by
 obtain ⟨⟨h1,h2,h3,h4⟩,h5,-⟩:=h
 refine ⟨h1,h2,h3,h4,fun b hb=>?_⟩
 have e:w0.heap[b]? =some w0.heap[b]:=Array.getElem?_eq_getElem hb
 rw[e];exact h5 b _ e
end D
namespace D
open Go.RowKit
theorem dC {n:Int} (h1: -9223372036854775808≤n) (h2:n≤9223372036854775807):IntKind.i64.wrap n=n:=by
 simp only[IntKind.wrap,IntKind.bits,IntKind.signed,Bool.true_and]
 split <;> rename_i h <;> simp at h <;> omega
theorem ae {i:Nat} (h:i<9223372036854775807):IntKind.i64.wrap ((i:Int)+1)=((i+1:Nat):Int):=by
 rw[dC (by omega) (by omega)];rfl
theorem al {α:Type} {xs:List α} {i:Nat} (h:i<xs.length):aF xs (i:Int)=some (xs[i]):=by
 unfold aF
 rw[if_pos (Int.natCast_nonneg _)]
 simp[h]
theorem bp {i n:Nat} (h:i<n):decide ((i:Int)<(n:Int))=true:=by simp[h]
theorem ba {n:Nat} :decide ((n:Int)<(n:Int))=false:=by simp
theorem fH (k:Nat) (h:k≤9223372036854775807):k<aN:=by unfold aN;omega
theorem rZ {α:Type} {b n:Nat} {z:α} (h:n*b≤140737488355328):mkI b (n:Int) z=some (List.replicate n z):=by
 unfold mkI
 rw[if_pos ⟨Int.natCast_nonneg _,by simpa using h⟩];simp
theorem Cv {R S:Type} {f:S→Option (Out R S)} (inv:Nat→S) (N:Nat) (h: ∀i,i<N→f (inv i)=some (.nxt (inv (i+1)))): ∀(m i k:Nat),i+m=N→ai f (k+m) (inv i)=ai f k (inv N)
 | 0,i,k,e=>by rw[show i=N by omega];rfl
 | m+1,i,k,e=>by
  rw[←Nat.add_assoc,ai,h i (by omega)]
  exact Cv inv N h m (i+1) k (by omega)
theorem Cw {R S:Type} {f:S→Option (Out R S)} (inv:Nat→S) (N:Nat) {s:S} (h: ∀i,i<N→f (inv i)=some (.nxt (inv (i+1)))) (he:f (inv N)=some (.brk s)) (hN:N<aN):ai f aN (inv 0)=some (.brk s):=by
 have e:aN=(aN - N - 1)+1+N:=by omega
 rw[e,Cv inv N h N 0 _ (by omega),ai,he]
theorem toL {R α:Type} {f:List α×Int→Option (Out R (List α×Int))} {z:α} (xs:List α) (hN:xs.length≤9223372036854775807)
  (hstep: ∀ys i (h:i<xs.length),ys.length=xs.length→f (ys,(i:Int))=some (.nxt (ys.set i xs[i],((i+1:Nat):Int)))) (hend: ∀ys,ys.length=xs.length→f (ys,(xs.length:Int))=some (.brk (ys,(xs.length:Int)))) :
  ai f aN (List.replicate xs.length z,0)=some (.brk (xs,(xs.length:Int))):=by
 have h0:(List.replicate xs.length z,(0:Int))=(fun i:Nat=>(xs.take i++(List.replicate xs.length z).drop i,(i:Int))) 0:=by simp
 rw[h0]
 refine Cw (fun i:Nat=>(xs.take i++(List.replicate xs.length z).drop i,(i:Int))) xs.length (fun i hi=>?_) ?_ (fH _ hN)
 ·have hl:(xs.take i++(List.replicate xs.length z).drop i).length=xs.length:=by
   rw[List.length_append,List.length_take,List.length_drop,List.length_replicate];omega
  rw[hstep _ i hi hl]
  congr 3
  have ht:(xs.take i).length=i:=by rw[List.length_take];omega
  rw[List.set_append_right _ _ (by omega),ht,Nat.sub_self,List.drop_eq_getElem_cons (by rw[List.length_replicate];exact hi),List.set_cons_zero,List.take_succ_eq_append_getElem hi,List.append_assoc]
  rfl
 ·have:=hend xs rfl
  rw[List.take_of_length_le (Nat.le_refl _),List.drop_of_length_le (by rw[List.length_replicate];exact Nat.le_refl _),List.append_nil]
  exact this
def CQ {α:Type} [Data α] (m:α→Int→Option Int):Prop:= ∀x l,Data.lim x→0≤l→l≤1048576→ ∃r,m x l=some r∧(r<0∨(0≤r∧r≤l∧Data.sm x))
def Av {α:Type} [Data α] (m:α→Option α):Prop:= ∀x,Data.sm x→m x=some x
def Aw {α:Type} [Data α] [DecidableEq α] (m:α→α→Option Bool):Prop:= ∀x y,Data.sm x→Data.sm y→m x y=some (decide (x=y))
theorem UG {α:Type} [Data α] {f:Int×Int→Option (Out Int (Int×Int))} (xs:List α)
  (hstep: ∀i (h:i<xs.length) l,0≤l→l≤1048576→ ∃r,f (l,(i:Int))=some (if r<0 then .ret (-1) else .nxt (r,((i+1:Nat):Int)))∧(r<0∨(0≤r∧r≤l∧Data.sm xs[i])))
  (hend: ∀l,f (l,(xs.length:Int))=some (.brk (l,(xs.length:Int)))): ∀(m i k:Nat) (l:Int),i+m=xs.length→m<k→0≤l→l≤1048576→
   ai f k (l,(i:Int))=some (.ret (-1))∨ ∃r,ai f k (l,(i:Int))=some (.brk (r,(xs.length:Int)))∧0≤r∧r≤l∧ ∀j (h:j<xs.length),i≤j→Data.sm xs[j]
 | 0,i,k,l,e,hk,h0,h1=>by
  obtain ⟨k,rfl⟩: ∃q,k=q+1:=⟨k - 1,by omega⟩
  obtain rfl:i=xs.length:=by omega
  exact .inr ⟨l,by rw[ai,hend],h0,Int.le_refl _,fun j hj hi=>by omega⟩
 | m+1,i,k,l,e,hk,h0,h1=>by
  obtain ⟨k,rfl⟩: ∃q,k=q+1:=⟨k - 1,by omega⟩
  obtain ⟨r,e1,e2⟩:=hstep i (by omega) l h0 h1
  rw[ai,e1]
  rcases e2 with e2 | ⟨e2,e3,e4⟩
  ·rw[if_pos e2];exact .inl rfl
  ·rw[if_neg (by omega)]
   rcases UG xs hstep hend m (i+1) k r (by omega) (by omega) e2 (by omega) with h | ⟨q,g1,g2,g3,g4⟩
   ·exact .inl h
   ·refine .inr ⟨q,g1,g2,by omega,fun j hj hi=>?_⟩
    by_cases hji:j=i
    ·subst hji;exact e4
    ·exact g4 j hj (by omega)
theorem szL {α:Type} [Data α] {f:Int×Int→Option (Out Int (Int×Int))} (xs:List α) {l:Int} (hN:xs.length≤9223372036854775807)
  (hstep: ∀i (h:i<xs.length) l,0≤l→l≤1048576→ ∃r,f (l,(i:Int))=some (if r<0 then .ret (-1) else .nxt (r,((i+1:Nat):Int)))∧(r<0∨(0≤r∧r≤l∧Data.sm xs[i])))
  (hend: ∀l,f (l,(xs.length:Int))=some (.brk (l,(xs.length:Int)))) (h0:0≤l) (h1:l≤1048576) :
  ∃r,(if decide (IntKind.i64.wrap (l - (xs.length:Int))<0) then (some (-1)) else (aC (ai f aN (IntKind.i64.wrap (l - (xs.length:Int)),0)) (fun r=>some r) (fun s4=>some s4.1)))=some r∧(r<0∨(0≤r∧r≤l∧Data.sm xs)):=by
 rw[dC (by omega) (by omega)]
 by_cases h:l - (xs.length:Int)<0
 ·exact ⟨-1,by rw[if_pos (decide_eq_true h)],.inl (by decide)⟩
 ·rw[if_neg (by simpa using h)]
  rcases UG xs hstep hend xs.length 0 aN (l - xs.length) (by omega) (fH _ hN) (by omega) (by omega) with e | ⟨r,e,g1,g2,g3⟩
  ·exact ⟨-1,by rw[show ((0:Int))=((0:Nat):Int) from rfl,e];rfl,.inl (by decide)⟩
  ·refine ⟨r,by rw[show ((0:Int))=((0:Nat):Int) from rfl,e];rfl,.inr ⟨g1,by omega,by omega,fun x hx=>?_⟩⟩
   obtain ⟨j,hj,rfl⟩:=List.getElem_of_mem hx
   exact g3 j hj (Nat.zero_le _)
theorem szF {α:Type} [Data α] (xs:List α) {l:Int} (hN:xs.length≤9223372036854775807) (hf: ∀x:α,Data.sm x) (h0:0≤l) (h1:l≤1048576) :
  ∃r,(if decide (IntKind.i64.wrap (l - (xs.length:Int))<0) then (some (-1)) else (some (IntKind.i64.wrap (l - (xs.length:Int)))))=some r∧(r<0∨(0≤r∧r≤l∧Data.sm xs)):=by
 rw[dC (by omega) (by omega)]
 by_cases h:l - (xs.length:Int)<0
 ·exact ⟨-1,by rw[if_pos (decide_eq_true h)],.inl (by decide)⟩
 ·exact ⟨_,by rw[if_neg (by simpa using h)],.inr ⟨by omega,by omega,by omega,fun x _=>hf x⟩⟩
theorem TX {α:Type} [DecidableEq α] {f:Int→Option (Out Bool Int)} (xs ys:List α) (hl:xs.length=ys.length)
  (hstep: ∀i (h:i<xs.length) (h':i<ys.length),f (i:Int)=some (if xs[i] =ys[i] then .nxt ((i+1:Nat):Int) else .ret false)) (hend:f (xs.length:Int)=some (.brk (xs.length:Int))): ∀(m i k:Nat),i+m=xs.length→m<k→
   ai f k (i:Int)=some (if xs.drop i=ys.drop i then .brk (xs.length:Int) else .ret false)
 | 0,i,k,e,hk=>by
  obtain ⟨k,rfl⟩: ∃q,k=q+1:=⟨k - 1,by omega⟩
  obtain rfl:i=xs.length:=by omega
  rw[ai,hend,List.drop_of_length_le (Nat.le_refl _),List.drop_of_length_le (by omega),if_pos rfl]
 | m+1,i,k,e,hk=>by
  obtain ⟨k,rfl⟩: ∃q,k=q+1:=⟨k - 1,by omega⟩
  have hi:i<xs.length:=by omega
  have hi':i<ys.length:=by omega
  have d1:=List.drop_eq_getElem_cons hi
  have d2:=List.drop_eq_getElem_cons hi'
  rw[ai,hstep i hi hi',d1,d2]
  by_cases h:xs[i] =ys[i]
  ·rw[if_pos h]
   simp only
   rw[TX xs ys hl hstep hend m (i+1) k (by omega) (by omega)]
   simp only[List.cons.injEq,h,true_and]
  ·rw[if_neg h]
   simp only[List.cons.injEq,h,false_and,if_false]
theorem eqL {α:Type} [DecidableEq α] {f:Int→Option (Out Bool Int)} (xs ys:List α) (hN:xs.length≤9223372036854775807)
  (hstep: ∀i (h:i<xs.length) (h':i<ys.length),f (i:Int)=some (if xs[i] =ys[i] then .nxt ((i+1:Nat):Int) else .ret false)) (hend:f (xs.length:Int)=some (.brk (xs.length:Int))) :
  (if (xs.length:Int) !=(ys.length:Int) then (some false) else (aC (ai f aN 0) (fun r=>some r) (fun s4=>some true)))=some (decide (xs=ys)):=by
 by_cases hl:xs.length=ys.length
 ·rw[if_neg (by rw[hl];simp),show ((0:Int))=((0:Nat):Int) from rfl,TX xs ys hl hstep hend xs.length 0 aN (by omega) (fH _ hN)]
  by_cases h:xs=ys
  ·subst h;simp[aC]
  ·simp[aC,h]
 ·have:xs≠ys:=fun e=>hl (by rw[e])
  rw[if_pos (by simp;omega)];simp[this]
theorem ep {α:Type} {c d:Prop} [Decidable c] [Decidable d] {a b:α} (h:c↔d):(if c then some a else some b)=some (if d then a else b):=by
 by_cases k:c
 ·rw[if_pos k,if_pos (h.1 k)]
 ·rw[if_neg k,if_neg (fun e=>k (h.2 e))]
theorem nD {α:Type} {c d:Prop} [Decidable c] [Decidable d] {a b:α} (h:c↔ ¬d):(if c then some b else some a)=some (if d then a else b):=by
 by_cases k:d
 ·rw[if_neg (fun e=>h.1 e k),if_pos k]
 ·rw[if_pos (h.2 k),if_neg k]
theorem eqB {α:Type} [DecidableEq α] {f:Int→Option (Out Bool Int)} {K:Option Bool} (xs ys:List α) (hN:xs.length≤9223372036854775807) (hl:xs.length=ys.length)
  (hstep: ∀i (h:i<xs.length) (h':i<ys.length),f (i:Int)=some (if xs[i] =ys[i] then .nxt ((i+1:Nat):Int) else .ret false)) (hend:f (xs.length:Int)=some (.brk (xs.length:Int))) :
  aC (ai f aN 0) (fun r=>some r) (fun s4=>K)=(if xs=ys then K else some false):=by
 rw[show ((0:Int))=((0:Nat):Int) from rfl,TX xs ys hl hstep hend xs.length 0 aN (by omega) (fH _ hN)]
 by_cases h:xs=ys
 ·subst h;simp[aC]
 ·simp[aC,h]
theorem Sk {f:Int→Option (Out Int Int)} (xs ys:List Int)
  (hstep: ∀i (h:i<xs.length) (h':i<ys.length),f (i:Int)=some (if xs[i] < ys[i] then .ret (-1) else if xs[i] > ys[i] then .ret 1 else .nxt ((i+1:Nat):Int))) (hend: ∀i,xs.length≤i∨ys.length≤i→f (i:Int)=some (.brk (i:Int))): ∀(m i k:Nat),i+m=xs.length→m<k→
   (∃r,ai f k (i:Int)=some (.ret r)∧r≠0∧xs≠ys)∨ ∃s,ai f k (i:Int)=some (.brk s)∧(xs.length=ys.length→xs.drop i=ys.drop i)
 | 0,i,k,e,hk=>by
  obtain ⟨k,rfl⟩: ∃q,k=q+1:=⟨k - 1,by omega⟩
  exact .inr ⟨_,by rw[ai,hend i (.inl (by omega))],fun h=>by rw[List.drop_of_length_le (by omega),List.drop_of_length_le (by omega)]⟩
 | m+1,i,k,e,hk=>by
  obtain ⟨k,rfl⟩: ∃q,k=q+1:=⟨k - 1,by omega⟩
  have hi:i<xs.length:=by omega
  by_cases hi':i<ys.length
  ·have hne: ∀h:xs[i] ≠ys[i],xs≠ys:=fun h e=>h (by subst e;rfl)
   rw[ai,hstep i hi hi']
   by_cases h1:xs[i] < ys[i]
   ·rw[if_pos h1];exact .inl ⟨-1,rfl,by decide,hne (by omega)⟩
   ·rw[if_neg h1]
    by_cases h2:xs[i] > ys[i]
    ·rw[if_pos h2];exact .inl ⟨1,rfl,by decide,hne (by omega)⟩
    ·rw[if_neg h2]
     rcases Sk xs ys hstep hend m (i+1) k (by omega) (by omega) with h | ⟨s,g1,g2⟩
     ·exact .inl h
     ·refine .inr ⟨s,g1,fun hl=>?_⟩
      have h3:xs[i] =ys[i]:=by omega
      rw[List.drop_eq_getElem_cons hi,List.drop_eq_getElem_cons hi',g2 hl,h3]
  ·exact .inr ⟨_,by rw[ai,hend i (.inr (by omega))],fun h=>by omega⟩
instance:LawfulBEq ByteArray where
 eq_of_beq {a b} h:=ByteArray.ext (eq_of_beq (show (a.data==b.data)=true from h))
 rfl {a}:=beq_self_eq_true a.data
theorem UH {α β γ δ:Type} {a b:α×β×γ×δ} :(a.1=b.1∧a.2.1=b.2.1∧a.2.2.1=b.2.2.1∧a.2.2.2=b.2.2.2)↔a=b:=by rw[Prod.ext_iff,Prod.ext_iff,Prod.ext_iff]
theorem ez {α β:Type} (p:α×β):(p.1,p.2)=p:=rfl
theorem aG {α:Type} [Data α] {xs:List α} (h:Data.sm xs):xs.length≤1048576∧ ∀x,x∈xs→Data.sm x:=h
theorem dy {α:Type} [Data α] {xs:List α} (h:Data.lim xs):xs.length≤9223372036854775807∧ ∀x,x∈xs→Data.lim x:=h
end D
set_option synthInstance.maxSize 20000
set_option synthInstance.maxHeartbeats 2000000
namespace D
open Go.RowKit
theorem Fz:CQ pC:=fun xs l hl h0 h1=>szF xs (dy hl).1 (fun _=>trivial) h0 h1
theorem JL:CQ qB:=fun xs l hl h0 h1=>szF xs (dy hl).1 (fun _=>⟨trivial,trivial,trivial,trivial⟩) h0 h1
theorem JM:CQ nf:=by
 intro x l hl h0 h1
 unfold nf
 try simp only[ez]
 obtain ⟨r1,e1,k1⟩:=Fz x.1 l hl.1 (by omega) (by omega)
 rw[e1];simp only[Option.bind_some]
 rcases k1 with k1 | ⟨k1,j1,s1⟩
 ·exact ⟨-1,by rw[if_pos (decide_eq_true k1)],.inl (by decide)⟩
 rw[if_neg (by simpa using k1)]
 obtain ⟨r2,e2,k2⟩:=JL x.2 r1 hl.2 (by omega) (by omega)
 rw[e2];simp only[Option.bind_some]
 rcases k2 with k2 | ⟨k2,j2,s2⟩
 ·exact ⟨-1,by rw[if_pos (decide_eq_true k2)],.inl (by decide)⟩
 rw[if_neg (by simpa using k2)]
 exact ⟨_,rfl,.inr ⟨by omega,by omega,⟨s1,s2⟩⟩⟩
theorem G5:CQ oJ:=fun xs l hl h0 h1=>szL (f:=il xs) xs (dy hl).1 (fun i h l k0 k1=>by
 obtain ⟨r,e,hr⟩:=JM xs[i] l ((dy hl).2 _ (List.getElem_mem h)) k0 k1
 refine ⟨r,?_,hr⟩
 simp only[il,bp h,if_true,al h,Option.bind_some,ez,e,ae (show i<9223372036854775807 by have:=(dy hl).1;omega)]
 exact ep (by simp)) (fun l=>by simp only[il,ba];rfl) h0 h1
theorem D6:CQ ka:=by
 intro x l hl h0 h1
 unfold ka
 try simp only[ez]
 obtain ⟨r1,e1,k1⟩:=G5 x.2 l hl.2 (by omega) (by omega)
 rw[e1];simp only[Option.bind_some]
 rcases k1 with k1 | ⟨k1,j1,s1⟩
 ·exact ⟨-1,by rw[if_pos (decide_eq_true k1)],.inl (by decide)⟩
 rw[if_neg (by simpa using k1)]
 exact ⟨_,rfl,.inr ⟨by omega,by omega,⟨trivial,s1⟩⟩⟩
theorem JN:CQ qC:=fun xs l hl h0 h1=>szF xs (dy hl).1 (fun _=>trivial) h0 h1
theorem JO:CQ qD:=fun xs l hl h0 h1=>szL (f:=jl xs) xs (dy hl).1 (fun i h l k0 k1=>by
 obtain ⟨r,e,hr⟩:=Fz xs[i] l ((dy hl).2 _ (List.getElem_mem h)) k0 k1
 refine ⟨r,?_,hr⟩
 simp only[jl,bp h,if_true,al h,Option.bind_some,ez,e,ae (show i<9223372036854775807 by have:=(dy hl).1;omega)]
 exact ep (by simp)) (fun l=>by simp only[jl,ba];rfl) h0 h1
theorem Ax:CQ im:=by
 intro x l hl h0 h1
 unfold im
 try simp only[ez]
 obtain ⟨r1,e1,k1⟩:=JN x.2.1 l hl.2.1 (by omega) (by omega)
 rw[e1];simp only[Option.bind_some]
 rcases k1 with k1 | ⟨k1,j1,s1⟩
 ·exact ⟨-1,by rw[if_pos (decide_eq_true k1)],.inl (by decide)⟩
 rw[if_neg (by simpa using k1)]
 obtain ⟨r2,e2,k2⟩:=JO x.2.2 r1 hl.2.2 (by omega) (by omega)
 rw[e2];simp only[Option.bind_some]
 rcases k2 with k2 | ⟨k2,j2,s2⟩
 ·exact ⟨-1,by rw[if_pos (decide_eq_true k2)],.inl (by decide)⟩
 rw[if_neg (by simpa using k2)]
 exact ⟨_,rfl,.inr ⟨by omega,by omega,⟨trivial,s1,s2⟩⟩⟩
theorem xZ:CQ jU:=fun xs l hl h0 h1=>szL (f:=eH xs) xs (dy hl).1 (fun i h l k0 k1=>by
 obtain ⟨r,e,hr⟩:=Ax xs[i] l ((dy hl).2 _ (List.getElem_mem h)) k0 k1
 refine ⟨r,?_,hr⟩
 simp only[eH,bp h,if_true,al h,Option.bind_some,ez,e,ae (show i<9223372036854775807 by have:=(dy hl).1;omega)]
 exact ep (by simp)) (fun l=>by simp only[eH,ba];rfl) h0 h1
theorem G6:CQ oK:=fun xs l hl h0 h1=>szF xs (dy hl).1 (fun _=>⟨trivial,trivial,trivial,trivial⟩) h0 h1
theorem M7:CQ pD:=by
 intro x l hl h0 h1
 unfold pD
 try simp only[ez]
 obtain ⟨r1,e1,k1⟩:=G6 x l hl (by omega) (by omega)
 rw[e1];simp only[Option.bind_some]
 rcases k1 with k1 | ⟨k1,j1,s1⟩
 ·exact ⟨-1,by rw[if_pos (decide_eq_true k1)],.inl (by decide)⟩
 rw[if_neg (by simpa using k1)]
 exact ⟨_,rfl,.inr ⟨by omega,by omega,s1⟩⟩
theorem ya:CQ gl:=by
 intro x l hl h0 h1
 unfold gl
 try simp only[ez]
 obtain ⟨r1,e1,k1⟩:=M7 x.2.1 l hl.2.1 (by omega) (by omega)
 rw[e1];simp only[Option.bind_some]
 rcases k1 with k1 | ⟨k1,j1,s1⟩
 ·exact ⟨-1,by rw[if_pos (decide_eq_true k1)],.inl (by decide)⟩
 rw[if_neg (by simpa using k1)]
 exact ⟨_,rfl,.inr ⟨by omega,by omega,⟨trivial,s1,trivial⟩⟩⟩
theorem xg:CQ iV:=fun xs l hl h0 h1=>szL (f:=dG xs) xs (dy hl).1 (fun i h l k0 k1=>by
 obtain ⟨r,e,hr⟩:=ya xs[i] l ((dy hl).2 _ (List.getElem_mem h)) k0 k1
 refine ⟨r,?_,hr⟩
 simp only[dG,bp h,if_true,al h,Option.bind_some,ez,e,ae (show i<9223372036854775807 by have:=(dy hl).1;omega)]
 exact ep (by simp)) (fun l=>by simp only[dG,ba];rfl) h0 h1
theorem Cx:CQ jm:=by
 intro x l hl h0 h1
 unfold jm
 try simp only[ez]
 obtain ⟨r1,e1,k1⟩:=xZ x.1 l hl.1 (by omega) (by omega)
 rw[e1];simp only[Option.bind_some]
 rcases k1 with k1 | ⟨k1,j1,s1⟩
 ·exact ⟨-1,by rw[if_pos (decide_eq_true k1)],.inl (by decide)⟩
 rw[if_neg (by simpa using k1)]
 obtain ⟨r2,e2,k2⟩:=xg x.2 r1 hl.2 (by omega) (by omega)
 rw[e2];simp only[Option.bind_some]
 rcases k2 with k2 | ⟨k2,j2,s2⟩
 ·exact ⟨-1,by rw[if_pos (decide_eq_true k2)],.inl (by decide)⟩
 rw[if_neg (by simpa using k2)]
 exact ⟨_,rfl,.inr ⟨by omega,by omega,⟨s1,s2⟩⟩⟩
theorem xh:CQ iW:=fun xs l hl h0 h1=>szF xs (dy hl).1 (fun _=>⟨trivial,trivial,trivial⟩) h0 h1
theorem G7:CQ lx:=by
 intro x l hl h0 h1
 unfold lx
 try simp only[ez]
 obtain ⟨r1,e1,k1⟩:=D6 x.1 l hl.1 (by omega) (by omega)
 rw[e1];simp only[Option.bind_some]
 rcases k1 with k1 | ⟨k1,j1,s1⟩
 ·exact ⟨-1,by rw[if_pos (decide_eq_true k1)],.inl (by decide)⟩
 rw[if_neg (by simpa using k1)]
 obtain ⟨r2,e2,k2⟩:=Cx x.2.1 r1 hl.2.1 (by omega) (by omega)
 rw[e2];simp only[Option.bind_some]
 rcases k2 with k2 | ⟨k2,j2,s2⟩
 ·exact ⟨-1,by rw[if_pos (decide_eq_true k2)],.inl (by decide)⟩
 rw[if_neg (by simpa using k2)]
 obtain ⟨r3,e3,k3⟩:=xh x.2.2.1 r2 hl.2.2.1 (by omega) (by omega)
 rw[e3];simp only[Option.bind_some]
 rcases k3 with k3 | ⟨k3,j3,s3⟩
 ·exact ⟨-1,by rw[if_pos (decide_eq_true k3)],.inl (by decide)⟩
 rw[if_neg (by simpa using k3)]
 rw[dC (by have:x.2.2.2.size≤9223372036854775807:=hl.2.2.2;omega) (by omega)]
 by_cases k4:r3 - (x.2.2.2.size:Int)<0
 ·exact ⟨-1,by rw[if_pos (decide_eq_true k4)],.inl (by decide)⟩
 rw[if_neg (by simpa using k4)]
 have s4:x.2.2.2.size≤1048576:=by omega
 exact ⟨_,rfl,.inr ⟨by omega,by omega,⟨s1,s2,s3,s4⟩⟩⟩
theorem FA:Av mi:=by
 intro xs hx
 have hn:=(aG hx).1
 unfold mi
 rw[rZ (by omega)];simp only[Option.bind_some]
 rw[toL (f:=kd xs) xs (by omega) (fun ys i h hy=>by simp only[kd,bp h,if_true,al h,al (show i<ys.length by omega),Option.bind_some,ez,ae (show i<9223372036854775807 by omega),Int.toNat_natCast]) (fun ys hy=>by simp only[kd,ba];rfl)]
 rfl
theorem M8:Av pF:=by
 intro x hx
 unfold pF
 simp only[ez,Option.bind_some]
theorem JP:Av nh:=by
 intro xs hx
 have hn:=(aG hx).1
 unfold nh
 rw[rZ (by omega)];simp only[Option.bind_some]
 rw[toL (f:=ju xs) xs (by omega) (fun ys i h hy=>by simp only[ju,bp h,if_true,al h,al (show i<ys.length by omega),Option.bind_some,ez,M8 xs[i] ((aG hx).2 _ (List.getElem_mem h)),ae (show i<9223372036854775807 by omega),Int.toNat_natCast]) (fun ys hy=>by simp only[ju,ba];rfl)]
 rfl
theorem JQ:Av ni:=by
 intro x hx
 unfold ni
 simp only[ez,Option.bind_some,FA x.1 hx.1,JP x.2 hx.2]
theorem G8:Av lD:=by
 intro xs hx
 have hn:=(aG hx).1
 unfold lD
 rw[rZ (by omega)];simp only[Option.bind_some]
 rw[toL (f:=ix xs) xs (by omega) (fun ys i h hy=>by simp only[ix,bp h,if_true,al h,al (show i<ys.length by omega),Option.bind_some,ez,JQ xs[i] ((aG hx).2 _ (List.getElem_mem h)),ae (show i<9223372036854775807 by omega),Int.toNat_natCast]) (fun ys hy=>by simp only[ix,ba];rfl)]
 rfl
theorem D7:Av ke:=by
 intro x hx
 unfold ke
 simp only[ez,Option.bind_some,G8 x.2 hx.2]
theorem JR:Av nj:=by
 intro xs hx
 have hn:=(aG hx).1
 unfold nj
 rw[rZ (by omega)];simp only[Option.bind_some]
 rw[toL (f:=jv xs) xs (by omega) (fun ys i h hy=>by simp only[jv,bp h,if_true,al h,al (show i<ys.length by omega),Option.bind_some,ez,ae (show i<9223372036854775807 by omega),Int.toNat_natCast]) (fun ys hy=>by simp only[jv,ba];rfl)]
 rfl
theorem JS:Av nk:=by
 intro xs hx
 have hn:=(aG hx).1
 unfold nk
 rw[rZ (by omega)];simp only[Option.bind_some]
 rw[toL (f:=jw xs) xs (by omega) (fun ys i h hy=>by simp only[jw,bp h,if_true,al h,al (show i<ys.length by omega),Option.bind_some,ez,FA xs[i] ((aG hx).2 _ (List.getElem_mem h)),ae (show i<9223372036854775807 by omega),Int.toNat_natCast]) (fun ys hy=>by simp only[jw,ba];rfl)]
 rfl
theorem Ay:Av iy:=by
 intro x hx
 unfold iy
 simp only[ez,Option.bind_some,JR x.2.1 hx.2.1,JS x.2.2 hx.2.2]
theorem yc:Av gq:=by
 intro xs hx
 have hn:=(aG hx).1
 unfold gq
 rw[rZ (by omega)];simp only[Option.bind_some]
 rw[toL (f:=eL xs) xs (by omega) (fun ys i h hy=>by simp only[eL,bp h,if_true,al h,al (show i<ys.length by omega),Option.bind_some,ez,Ay xs[i] ((aG hx).2 _ (List.getElem_mem h)),ae (show i<9223372036854775807 by omega),Int.toNat_natCast]) (fun ys hy=>by simp only[eL,ba];rfl)]
 rfl
theorem JT:Av nl:=by
 intro x hx
 unfold nl
 simp only[ez,Option.bind_some]
theorem G9:Av lE:=by
 intro xs hx
 have hn:=(aG hx).1
 unfold lE
 rw[rZ (by omega)];simp only[Option.bind_some]
 rw[toL (f:=iz xs) xs (by omega) (fun ys i h hy=>by simp only[iz,bp h,if_true,al h,al (show i<ys.length by omega),Option.bind_some,ez,JT xs[i] ((aG hx).2 _ (List.getElem_mem h)),ae (show i<9223372036854775807 by omega),Int.toNat_natCast]) (fun ys hy=>by simp only[iz,ba];rfl)]
 rfl
theorem M9:Av pG:=by
 intro x hx
 unfold pG
 simp only[ez,Option.bind_some,G9 x hx]
theorem yd:Av gr:=by
 intro x hx
 unfold gr
 simp only[ez,Option.bind_some,M9 x.2.1 hx.2.1]
theorem xi:Av fR:=by
 intro xs hx
 have hn:=(aG hx).1
 unfold fR
 rw[rZ (by omega)];simp only[Option.bind_some]
 rw[toL (f:=dJ xs) xs (by omega) (fun ys i h hy=>by simp only[dJ,bp h,if_true,al h,al (show i<ys.length by omega),Option.bind_some,ez,yd xs[i] ((aG hx).2 _ (List.getElem_mem h)),ae (show i<9223372036854775807 by omega),Int.toNat_natCast]) (fun ys hy=>by simp only[dJ,ba];rfl)]
 rfl
theorem Cy:Av jx:=by
 intro x hx
 unfold jx
 simp only[ez,Option.bind_some,yc x.1 hx.1,xi x.2 hx.2]
theorem ye:Av gu:=by
 intro x hx
 unfold gu
 simp only[ez,Option.bind_some]
theorem xj:Av fS:=by
 intro xs hx
 have hn:=(aG hx).1
 unfold fS
 rw[rZ (by omega)];simp only[Option.bind_some]
 rw[toL (f:=dK xs) xs (by omega) (fun ys i h hy=>by simp only[dK,bp h,if_true,al h,al (show i<ys.length by omega),Option.bind_some,ez,ye xs[i] ((aG hx).2 _ (List.getElem_mem h)),ae (show i<9223372036854775807 by omega),Int.toNat_natCast]) (fun ys hy=>by simp only[dK,ba];rfl)]
 rfl
theorem Ha:Av gL:=by
 intro x hx
 unfold gL
 simp only[ez,Option.bind_some,D7 x.1 hx.1,Cy x.2.1 hx.2.1,xj x.2.2.1 hx.2.2.1]
theorem FC:Aw pJ:=fun xs ys hx hy=>eqL (f:=kg xs ys) xs ys (by have:=(aG hx).1;omega) (fun i h h'=>by
 simp only[kg,bp h,if_true,al h,al h',Option.bind_some,ez,ae (show i<9223372036854775807 by have:=(aG hx).1;omega)]
 first | exact ep (by simp) | exact nD (by simp) | exact ep (by simp[Prod.ext_iff])) (by simp only[kg,ba];rfl)
theorem Na:Aw pK:=by
 intro x y hx hy
 unfold pK
 try simp only[ez,Option.bind_some]
 repeat' split
 all_goals simp_all[Prod.ext_iff]
theorem JU:Aw qI:=fun xs ys hx hy=>eqL (f:=jA xs ys) xs ys (by have:=(aG hx).1;omega) (fun i h h'=>by
 simp only[jA,bp h,if_true,al h,al h',Option.bind_some,ez,Na xs[i] ys[i] ((aG hx).2 _ (List.getElem_mem h)) ((aG hy).2 _ (List.getElem_mem h')),ae (show i<9223372036854775807 by have:=(aG hx).1;omega)]
 first | exact ep (by simp) | exact nD (by simp) | exact ep (by simp[Prod.ext_iff])) (by simp only[jA,ba];rfl)
theorem JV:Aw nw:=by
 intro x y hx hy
 unfold nw
 try simp only[ez,Option.bind_some,FC x.1 y.1 hx.1 hy.1,JU x.2 y.2 hx.2 hy.2]
 repeat' split
 all_goals simp_all[Prod.ext_iff]
theorem Hb:Aw oL:=fun xs ys hx hy=>eqL (f:=iE xs ys) xs ys (by have:=(aG hx).1;omega) (fun i h h'=>by
 simp only[iE,bp h,if_true,al h,al h',Option.bind_some,ez,JV xs[i] ys[i] ((aG hx).2 _ (List.getElem_mem h)) ((aG hy).2 _ (List.getElem_mem h')),ae (show i<9223372036854775807 by have:=(aG hx).1;omega)]
 first | exact ep (by simp) | exact nD (by simp) | exact ep (by simp[Prod.ext_iff])) (by simp only[iE,ba];rfl)
theorem D8:Aw kh:=by
 intro x y hx hy
 unfold kh
 try simp only[ez,Option.bind_some,Hb x.2 y.2 hx.2 hy.2]
 repeat' split
 all_goals simp_all[Prod.ext_iff]
theorem JW:Aw qJ:=fun xs ys hx hy=>eqL (f:=jB xs ys) xs ys (by have:=(aG hx).1;omega) (fun i h h'=>by
 simp only[jB,bp h,if_true,al h,al h',Option.bind_some,ez,ae (show i<9223372036854775807 by have:=(aG hx).1;omega)]
 first | exact ep (by simp) | exact nD (by simp) | exact ep (by simp[Prod.ext_iff])) (by simp only[jB,ba];rfl)
theorem JX:Aw qK:=fun xs ys hx hy=>eqL (f:=jC xs ys) xs ys (by have:=(aG hx).1;omega) (fun i h h'=>by
 simp only[jC,bp h,if_true,al h,al h',Option.bind_some,ez,FC xs[i] ys[i] ((aG hx).2 _ (List.getElem_mem h)) ((aG hy).2 _ (List.getElem_mem h')),ae (show i<9223372036854775807 by have:=(aG hx).1;omega)]
 first | exact ep (by simp) | exact nD (by simp) | exact ep (by simp[Prod.ext_iff])) (by simp only[jC,ba];rfl)
theorem Az:Aw iF:=by
 intro x y hx hy
 unfold iF
 try simp only[ez,Option.bind_some,JW x.2.1 y.2.1 hx.2.1 hy.2.1,JX x.2.2 y.2.2 hx.2.2 hy.2.2]
 repeat' split
 all_goals simp_all[Prod.ext_iff]
theorem yf:Aw jW:=fun xs ys hx hy=>eqL (f:=eR xs ys) xs ys (by have:=(aG hx).1;omega) (fun i h h'=>by
 simp only[eR,bp h,if_true,al h,al h',Option.bind_some,ez,Az xs[i] ys[i] ((aG hx).2 _ (List.getElem_mem h)) ((aG hy).2 _ (List.getElem_mem h')),ae (show i<9223372036854775807 by have:=(aG hx).1;omega)]
 first | exact ep (by simp) | exact nD (by simp) | exact ep (by simp[Prod.ext_iff])) (by simp only[eR,ba];rfl)
theorem JY:Aw ny:=by
 intro x y hx hy
 unfold ny
 try simp only[ez,Option.bind_some]
 repeat' split
 all_goals simp_all[Prod.ext_iff]
theorem Hc:Aw oM:=fun xs ys hx hy=>eqL (f:=iG xs ys) xs ys (by have:=(aG hx).1;omega) (fun i h h'=>by
 simp only[iG,bp h,if_true,al h,al h',Option.bind_some,ez,JY xs[i] ys[i] ((aG hx).2 _ (List.getElem_mem h)) ((aG hy).2 _ (List.getElem_mem h')),ae (show i<9223372036854775807 by have:=(aG hx).1;omega)]
 first | exact ep (by simp) | exact nD (by simp) | exact ep (by simp[Prod.ext_iff])) (by simp only[iG,ba];rfl)
theorem Nb:Aw pL:=by
 intro x y hx hy
 unfold pL
 try simp only[ez,Option.bind_some,Hc x y hx hy]
 repeat' split
 all_goals simp_all[Prod.ext_iff]
theorem yg:Aw gz:=by
 intro x y hx hy
 unfold gz
 try simp only[ez,Option.bind_some,Nb x.2.1 y.2.1 hx.2.1 hy.2.1]
 repeat' split
 all_goals simp_all[Prod.ext_iff]
theorem xk:Aw jb:=fun xs ys hx hy=>eqL (f:=dL xs ys) xs ys (by have:=(aG hx).1;omega) (fun i h h'=>by
 simp only[dL,bp h,if_true,al h,al h',Option.bind_some,ez,yg xs[i] ys[i] ((aG hx).2 _ (List.getElem_mem h)) ((aG hy).2 _ (List.getElem_mem h')),ae (show i<9223372036854775807 by have:=(aG hx).1;omega)]
 first | exact ep (by simp) | exact nD (by simp) | exact ep (by simp[Prod.ext_iff])) (by simp only[dL,ba];rfl)
theorem Cz:Aw jD:=by
 intro x y hx hy
 unfold jD
 try simp only[ez,Option.bind_some,yf x.1 y.1 hx.1 hy.1,xk x.2 y.2 hx.2 hy.2]
 repeat' split
 all_goals simp_all[Prod.ext_iff]
theorem yh:Aw gA:=by
 intro x y hx hy
 unfold gA
 try simp only[ez,Option.bind_some]
 repeat' split
 all_goals simp_all[Prod.ext_iff]
theorem xl:Aw jc:=fun xs ys hx hy=>eqL (f:=dM xs ys) xs ys (by have:=(aG hx).1;omega) (fun i h h'=>by
 simp only[dM,bp h,if_true,al h,al h',Option.bind_some,ez,yh xs[i] ys[i] ((aG hx).2 _ (List.getElem_mem h)) ((aG hy).2 _ (List.getElem_mem h')),ae (show i<9223372036854775807 by have:=(aG hx).1;omega)]
 first | exact ep (by simp) | exact nD (by simp) | exact ep (by simp[Prod.ext_iff])) (by simp only[dM,ba];rfl)
theorem He:Aw lF:=by
 intro x y hx hy
 unfold lF
 try simp only[ez,Option.bind_some,D8 x.1 y.1 hx.1 hy.1,Cz x.2.1 y.2.1 hx.2.1 hy.2.1,xl x.2.2.1 y.2.2.1 hx.2.2.1 hy.2.2.1]
 repeat' split
 all_goals simp_all[Prod.ext_iff]
end D
namespace D
open Go.RowKit
theorem cq {R S:Type} {f:S→Option (Out R S)} (Inv:Nat→S→Prop) (Q:Out R S→Prop) (N:Nat)
  (h: ∀i s,i≤N→Inv i s→(i<N∧ ∃s',f s=some (.nxt s')∧Inv (i+1) s')∨ ∃o,f s=some o∧(∀s',o≠ .nxt s')∧Q o) {s:S} (h0:Inv 0 s) (hN:N<aN): ∃o,ai f aN s=some o∧Q o:=by
 have key: ∀(k i:Nat) (s:S),i≤N→N<i+k→Inv i s→ ∃o,ai f k s=some o∧Q o:=by
  intro k
  induction k with
  | zero=>intro i s h1 h2;omega
  | succ k ih =>
   intro i s h1 h2 hI
   rcases h i s h1 hI with ⟨hi,s',e,hI'⟩ | ⟨o,e,hn,hq⟩
   ·obtain ⟨o,e',hq⟩:=ih (i+1) s' (by omega) (by omega) hI'
    exact ⟨o,by rw[ai,e];exact e',hq⟩
   ·refine ⟨o,?_,hq⟩
    rw[ai,e]
    cases o with
    | nxt s'=>exact absurd rfl (hn s')
    | brk s'=>rfl
    | ret r=>rfl
 exact key aN 0 s (by omega) (by omega) h0
theorem kZ {R S:Type} {f:S→Option (Out R S)} (Inv:Nat→S→Prop) (N:Nat) (h: ∀i s,i<N→Inv i s→ ∃s',f s=some (.nxt s')∧Inv (i+1) s') (he: ∀s,Inv N s→f s=some (.brk s)) {s:S} (h0:Inv 0 s) (hN:N<aN): ∃s',ai f aN s=some (.brk s')∧Inv N s':=by
 obtain ⟨o,e,s',rfl,h⟩:=cq (f:=f) Inv (fun o=> ∃s',o= .brk s'∧Inv N s') N (fun i s hi hI=>by
  by_cases h1:i<N
  ·exact .inl ⟨h1,h i s h1 hI⟩
  ·obtain rfl:i=N:=by omega
   exact .inr ⟨_,he s hI,(fun s' e=>by cases e),s,rfl,hI⟩) h0 hN
 exact ⟨s',e,h⟩
theorem bg {R S:Type} {f:S→Option (Out R S)} (st:Nat→S) (N:Nat) (h: ∀i,i<N→f (st i)=some (.nxt (st (i+1)))) (he:f (st N)=some (.brk (st N))) (hN:N<aN):ai f aN (st 0)=some (.brk (st N)):=Cw st N h he hN
theorem q9 {k:Nat} (h:k≤9223372036854775807):k<aN:=fH k h
theorem mN {i:Nat} (h:i≤9223372036854775807):IntKind.i64.wrap ((i:Int) - 1)=(i:Int) - 1:=dC (by omega) (by omega)
theorem az {α:Type} {b:Nat} {xs ys:List α} (h:(xs.length+ys.length)*b≤140737488355328):cN b xs ys=some (xs++ys):=by unfold cN;rw[if_pos h]
theorem bR {R S T:Type} {x:Option (Out R S)} {r:R} {kr:R→Option T} {k:S→Option T} (h:x=some (.ret r)):aC x kr k=kr r:=by rw[h];rfl
theorem aj {R S T:Type} {x:Option (Out R S)} {s:S} {kr:R→Option T} {k:S→Option T} (h:x=some (.brk s)):aC x kr k=k s:=by rw[h];rfl
def nth {α:Type} [Inhabited α] (xs:List α) (i:Int):α:=xs.getD i.toNat default
section
variable {α:Type} [Inhabited α] {xs ys:List α}
theorem aw {i:Int} (h0:0≤i) (h1:i<xs.length):aF xs i=some (nth xs i):=by
 unfold aF nth
 rw[if_pos h0]
 have:i.toNat<xs.length:=by omega
 simp[List.getD_eq_getElem?_getD,this]
theorem bG {i:Nat} (h:i<xs.length):nth xs (i:Int)=xs[i]:=by simp[nth,List.getD_eq_getElem?_getD,h]
theorem iK {i:Int} (h0:0≤i) (h1:i<xs.length):nth xs i∈xs:=by
 have:i.toNat<xs.length:=by omega
 have e:nth xs i=xs[i.toNat]:=by simp[nth,List.getD_eq_getElem?_getD,this]
 rw[e];exact List.getElem_mem this
theorem fI {i:Int} (h0:0≤i) (h1:i<xs.length):nth (xs++ys) i=nth xs i:=by
 have:i.toNat<xs.length:=by omega
 simp[nth,List.getD_eq_getElem?_getD,List.getElem?_append_left this]
theorem D9 {x:α} (h:x∈xs): ∃i:Nat,i<xs.length∧nth xs (i:Int)=x:=by
 obtain ⟨i,hi,rfl⟩:=List.getElem_of_mem h
 exact ⟨i,hi,bG hi⟩
theorem CA {i:Int} {x:α} (h0:0≤i) (h1:i<xs.length):nth (xs.set i.toNat x) i=x:=by
 have:i.toNat<xs.length:=by omega
 simp[nth,List.getD_eq_getElem?_getD,this]
theorem QK (h:xs.length=ys.length) (k: ∀i:Nat,i<xs.length→nth xs (i:Int)=nth ys (i:Int)):xs=ys:=by
 refine List.ext_getElem h fun i h1 h2=>?_
 have:=k i h1
 rwa [bG h1,bG h2] at this
end
section
variable {κ:Type} [DecidableEq κ]
def nbL (l:List κ):Option κ→List κ
 | none=>l
 | some x=>if x∈l then l else l++ [x]
def nbI (l:List κ):Option κ→Int
 | none=> -1
 | some x=>(l.idxOf x:Int)
def nbS (l:List κ) (os:List (Option κ)):List κ:=os.foldl nbL l
def nbR (l:List κ):List (Option κ)→List Int
 | [] =>[]
 | o::os=>nbI l o::nbR (nbL l o) os
theorem sa (l:List κ) (os:List (Option κ)) (o:Option κ):nbS l (os++ [o])=nbL (nbS l os) o:=by simp[nbS]
theorem pN: ∀(l:List κ) (os:List (Option κ)) (o:Option κ),nbR l (os++ [o])=nbR l os++ [nbI (nbS l os) o]
 | l,[],o=>rfl
 | l,p::os,o=>by
  show nbI l p::nbR (nbL l p) (os++ [o])=nbI l p::nbR (nbL l p) os++ [nbI (nbS (nbL l p) os) o]
  rw[pN (nbL l p) os o];rfl
theorem dj: ∀(l:List κ) (os:List (Option κ)),(nbR l os).length=os.length
 | l,[] =>rfl
 | l,o::os=>by show (nbR (nbL l o) os).length+1=_;rw[dj];rfl
theorem Hf (l : List κ) (o : Option κ) : l <+: nbL l o := by
  cases o with
  | none => exact List.prefix_refl l
  | some x => unfold nbL; simp only; split
              · exact List.prefix_refl l
              · exact List.prefix_append l [x]
theorem jh: ∀(l:List κ) (os:List (Option κ)),l <+:nbS l os
 | l,[] =>List.prefix_refl l
 | l,o::os=>(Hf l o).trans (jh (nbL l o) os)
theorem JZ {l : List κ} {o : Option κ} (h : l.Nodup) : (nbL l o).Nodup := by
  cases o with
  | none => exact h
  | some x => unfold nbL; simp only; split
              · exact h
              · rename_i hx; exact List.nodup_append.2 ⟨h, by simp, by rintro a ha b hb rfl; simp at hb; exact hx (hb ▸ ha)⟩
theorem pe: ∀ {l:List κ} {os:List (Option κ)},l.Nodup→(nbS l os).Nodup
 | l,[],h=>h
 | l,o::os,h=>pe (l:=nbL l o) (os:=os) (JZ h)
theorem J4 {l : List κ} {o : Option κ} {x : κ} : x ∈ nbL l o ↔ x ∈ l ∨ o = some x := by
  cases o with
  | none => simp [nbL]
  | some y => unfold nbL; simp only; split
              · rename_i h; constructor
                · exact .inl
                · rintro (h' | h')
                  · exact h'
                  · simp at h'; exact h' ▸ h
              · simp; exact or_congr Iff.rfl eq_comm
theorem tm: ∀ {l:List κ} {os:List (Option κ)} {x:κ},x∈nbS l os↔x∈l∨some x∈os
 | l,[],x=>by simp[nbS]
 | l,o::os,x=>by
  show x∈nbS (nbL l o) os↔_
  rw[tm,J4,List.mem_cons,or_assoc]
  exact or_congr Iff.rfl (or_congr eq_comm Iff.rfl)
theorem j4 {l:List κ} {x:κ} (h:x∈l):nbL l (some x)=l:=by simp[nbL,h]
theorem ji {l:List κ} {x:κ} (h:x∉l):nbL l (some x)=l++ [x]:=by simp[nbL,h]
theorem mO {l:List κ} {x:κ} (h:x∉l):l.idxOf x=l.length:=List.idxOf_eq_length h
def bfS (nx:κ→List (Option κ)) (first:κ):Nat→List κ
 | 0=>[first]
 | i+1=>match (bfS nx first i)[i]? with
  | some x=>nbS (bfS nx first i) (nx x)
  | none=>bfS nx first i
def bfR (nx:κ→List (Option κ)) (first:κ):Nat→List (List Int)
 | 0=>[]
 | i+1=>bfR nx first i++(match (bfS nx first i)[i]? with
  | some x=>[nbR (bfS nx first i) (nx x)]
  | none=>[])
variable {nx:κ→List (Option κ)} {first:κ}
theorem AA {i:Nat} (h:i<(bfS nx first i).length):bfS nx first (i+1)=nbS (bfS nx first i) (nx ((bfS nx first i)[i])):=by
 rw[bfS,List.getElem?_eq_getElem h]
theorem sb {i:Nat} (h:i<(bfS nx first i).length):bfR nx first (i+1)=bfR nx first i++ [nbR (bfS nx first i) (nx ((bfS nx first i)[i]))]:=by
 rw[bfR,List.getElem?_eq_getElem h]
theorem be (i:Nat):bfS nx first i <+:bfS nx first (i+1):=by
 rw[bfS]
 split
 ·exact jh _ _
 ·exact List.prefix_refl _
theorem tn {i j:Nat} (h:i≤j):bfS nx first i <+:bfS nx first j:=by
 induction h with
 | refl=>exact List.prefix_refl _
 | step _ ih=>exact ih.trans (be _)
theorem k7: ∀i,(bfS nx first i).Nodup
 | 0=>by simp[bfS]
 | i+1=>by
  rw[bfS]
  split
  ·exact pe (k7 i)
  ·exact k7 i
theorem iL {G:κ→Prop} (h0:G first) (h: ∀x,G x→ ∀y,some y∈nx x→G y): ∀i,∀x∈bfS nx first i,G x
 | 0=>by simp[bfS];exact h0
 | i+1=>by
  rw[bfS]
  split
  ·rename_i y hy
   intro x hx
   rcases tm.1 hx with hx | hx
   ·exact iL h0 h i x hx
   ·exact h y (iL h0 h i y (List.mem_of_getElem? hy)) x hx
  ·exact iL h0 h i
theorem CB (i:Nat):(bfS nx first i)[0]? =some first:=by
 obtain ⟨t,ht⟩:=tn (nx:=nx) (first:=first) (Nat.zero_le i)
 rw[←ht];rfl
theorem gU: ∀ {i:Nat},(∀j,j<i→j<(bfS nx first j).length)→(bfR nx first i).length=i
 | 0,_=>rfl
 | i+1,h=>by rw[sb (h i (by omega)),List.length_append,gU fun j hj=>h j (by omega)];rfl
def bfE (nx:κ→List (Option κ)) (first:κ) (N:Nat):Prop:=N=(bfS nx first N).length∧ ∀i,i<N→i<(bfS nx first i).length
theorem OA {B:Nat} (hB: ∀i,(bfS nx first i).length≤B): ∃N,N≤B∧bfE nx first N:=by
 have key: ∀m i,i+m=B→(∀j,j<i→j<(bfS nx first j).length)→ ∃N,N≤B∧bfE nx first N:=by
  intro m
  induction m with
  | zero =>
   intro i hi hj
   have h1:=hB i
   have h2:i≤(bfS nx first i).length:=by
    cases i with
    | zero=>omega
    | succ i =>
     have:=hj i (by omega)
     have hp:=(be (nx:=nx) (first:=first) i).length_le
     omega
   exact ⟨i,by omega,by omega,hj⟩
  | succ m ih =>
   intro i hi hj
   by_cases h:i<(bfS nx first i).length
   ·exact ih (i+1) (by omega) fun j hj'=>by
     by_cases e:j=i
     ·subst e;exact h
     ·exact hj j (by omega)
   ·have h2:i≤(bfS nx first i).length:=by
     cases i with
     | zero=>omega
     | succ i =>
      have:=hj i (by omega)
      have hp:=(be (nx:=nx) (first:=first) i).length_le
      omega
    exact ⟨i,by omega,by omega,hj⟩
 exact key B 0 (by omega) (by omega)
theorem Nc {N M:Nat} (h:bfE nx first N) (k:bfE nx first M):N=M:=by
 rcases Nat.lt_trichotomy N M with e | e | e
 ·have:=k.2 N e;have:=h.1;omega
 ·exact e
 ·have:=h.2 M e;have:=k.1;omega
end
end D
namespace D
abbrev Pr:=Int×Int
def ltP (a b:Pr):Prop:=a.1<b.1∨a.1=b.1∧a.2<b.2
instance (a b:Pr):Decidable (ltP a b):=inferInstanceAs (Decidable (_∨_))
end D
namespace D
open Go.RowKit
section
variable {l m:List Pr} {p:Pr}
end
end D
namespace D
open Go.RowKit
end D
set_option synthInstance.maxSize 20000
set_option synthInstance.maxHeartbeats 2000000
namespace D
open Go.RowKit
end D
set_option synthInstance.maxSize 20000
set_option synthInstance.maxHeartbeats 2000000
namespace D
open Go.RowKit
def mkB (l:List UInt8):ByteArray:=⟨l.toArray⟩
theorem QL (a b:List UInt8):mkB a++mkB b=mkB (a++b):=ByteArray.ext (by simp[mkB])
theorem bc (a:List UInt8):(mkB a).size=a.length:=by simp[mkB,ByteArray.size]
theorem dz (a:List UInt8):(mkB a).data.toList=a:=by simp[mkB]
theorem AB (a b:List UInt8) (h:a.length+b.length≤9223372036854775807):jS (mkB a) (mkB b)=some (mkB (a++b)):=by
 unfold jS chk
 rw[bc,bc,if_pos h,Option.bind_some,QL]
theorem UV: ∀d:Fin 10,IntKind.u8.wrap (IntKind.i64.wrap (48+(d.val:Int)))=48+(d.val:Int):=by decide
theorem UW {d:Nat} (h:d<10):tK [IntKind.u8.wrap (IntKind.i64.wrap (48+(d:Int)))] =mkB [UInt8.ofNat (48+d)]:=by
 rw[UV ⟨d,h⟩]
 show ByteArray.empty.push (UInt8.ofNat (48+(d:Int)).toNat)=_
 rw[show (48+(d:Int)).toNat=48+d by omega];rfl
theorem UX (m:Int):(if decide ((Int.tmod m 10)<0) then (some (IntKind.i64.wrap (-(Int.tmod m 10)))) else (some (Int.tmod m 10)):Option Int)=some ((m.natAbs % 10:Nat):Int):=by
 by_cases h:m<0
 ·obtain ⟨k,rfl⟩: ∃k:Nat,m= -(k:Int):=⟨m.natAbs,by omega⟩
  have e:Int.tmod (-(k:Int)) 10= -((k % 10:Nat):Int):=by rw[Int.neg_tmod];rfl
  rw[e,Int.natAbs_neg,Int.natAbs_natCast]
  by_cases h0:k % 10=0
  ·rw[h0];rfl
  ·rw[if_pos (decide_eq_true (by omega)),Int.neg_neg,dC (by omega) (by omega)]
 ·obtain ⟨k,rfl⟩: ∃k:Nat,m=(k:Int):=⟨m.natAbs,by omega⟩
  have e:Int.tmod (k:Int) 10=((k % 10:Nat):Int):=rfl
  rw[e,if_neg (by simp;omega),Int.natAbs_natCast]
theorem UI {m:Int} (h:I64 m):K8 m 10=m.tdiv 10∧(m.tdiv 10).natAbs=m.natAbs / 10:=by
 have k:(m.tdiv 10).natAbs=m.natAbs / 10:=Int.natAbs_tdiv m 10
 unfold I64 at h
 refine ⟨?_,k⟩
 unfold K8
 exact dC (by omega) (by omega)
theorem QM {m:Int} {out:List UInt8} (h0:m≠0) (h:I64 m) (hl:out.length≤1000):cF (m,mkB out)=some (.nxt (m.tdiv 10,mkB (UInt8.ofNat (48+m.natAbs % 10)::out))):=by
 unfold cF
 simp only[]
 rw[if_pos (by simpa using h0),UX,Option.bind_some,UW (Nat.mod_lt _ (by omega)),AB _ _ (by simp;omega),Option.bind_some,(UI h).1];rfl
theorem OB (u:Nat):1≤Lib.nDigits u:=by
 by_cases h:u<10
 ·rw[Lib.nDigits_small h];omega
 ·rw[Lib.nDigits_big h];omega
theorem J5: ∀(k:Nat) (m:Int) (out:List UInt8),m≠0→I64 m→Lib.nDigits m.natAbs≤k→out.length+Lib.nDigits m.natAbs≤100→ai cF (k+1) (m,mkB out)=some (.brk (0,mkB (Lib.decDigits m.natAbs++out)))
 | 0,m,out,_,_,h,_=>by have:=OB m.natAbs;omega
 | k+1,m,out,h0,hm,h,hl=>by
  rw[ai,QM h0 hm (by omega)]
  show ai cF (k+1) (m.tdiv 10,_)=_
  have hq:=(UI hm).2
  by_cases h1:m.natAbs<10
  ·have hz:m.tdiv 10=0:=by
    have:(m.tdiv 10).natAbs=0:=by rw[hq];omega
    omega
   rw[hz,ai]
   have:cF (0,mkB (UInt8.ofNat (48+m.natAbs % 10)::out))=some (.brk (0,mkB (UInt8.ofNat (48+m.natAbs % 10)::out))):=rfl
   rw[this,Lib.decDigits_one h1,Nat.mod_eq_of_lt h1];rfl
  ·have hz:m.tdiv 10≠0:=by
    intro e
    rw[e] at hq
    have:m.natAbs / 10=0:=by simpa using hq.symm
    omega
   have hn:=Lib.nDigits_big h1
   have hi:I64 (m.tdiv 10):=by unfold I64 at hm⊢;omega
   rw[J5 k _ _ hz hi (by rw[hq];omega) (by rw[hq,List.length_cons];omega),hq]
   have:Lib.decDigits m.natAbs=Lib.decDigits (m.natAbs / 10)++ [UInt8.ofNat (48+m.natAbs % 10)]:=by rw[Lib.decDigits,dif_neg h1]
   rw[this,List.append_assoc];rfl
theorem od {n:Int} (h:I64 n):(Lib.itoa n).length≤21:=Lib.itoa_length_le n h.1 h.2
theorem TY {n:Int} (h:I64 n):Lib.nDigits n.natAbs≤21:=by
 have:=od h
 unfold Lib.itoa at this
 split at this
 ·rw[List.length_cons,Lib.decDigits_length] at this;omega
 ·rw[Lib.decDigits_length] at this
  rw[show n.natAbs=n.toNat by omega];exact this
theorem pO {n:Int} (h:I64 n):bt n=some (mkB (Lib.itoa n)):=by
 unfold bt
 by_cases h0:n=0
 ·subst h0
  rw[if_pos (by rfl:((0:Int)==0)=true)]
  have:Lib.itoa 0= [48]:=by unfold Lib.itoa;rw[if_neg (by decide)];exact Lib.decDigits_one (by decide)
  rw[this];rfl
 rw[if_neg (by simpa using h0)]
 have hn:=TY h
 have hf:=fH 100 (by omega)
 obtain ⟨k,hk⟩: ∃k,aN=k+1:=⟨aN - 1,by omega⟩
 have hL:ai cF aN (n,(⟨#[]⟩:ByteArray))=some (.brk (0,mkB (Lib.decDigits n.natAbs++ []))):=by
  rw[hk];exact J5 k n [] h0 h (by omega) (by simp;omega)
 rw[aj hL,List.append_nil]
 have hd:(Lib.decDigits n.natAbs).length≤21:=by rw[Lib.decDigits_length];exact hn
 unfold Lib.itoa
 by_cases h1:n<0
 ·rw[if_pos (decide_eq_true h1),if_pos h1]
  show (jS (mkB [45]) _).bind _=_
  rw[AB _ _ (by simp;omega)];rfl
 ·rw[if_neg (by simpa using h1),if_neg h1,show n.natAbs=n.toNat by omega]
theorem sd {n:Int} (h:I64 n):cn n=some (mkB (Lib.itoa n)):=by
 unfold cn jV R.M0 chk
 rw[if_pos (show -9223372036854775808≤n∧n≤9223372036854775807 from h)];rfl
theorem J6 (xs:List (List UInt8)) (y sep:List UInt8):Lib.join (xs++ [y]) sep=if xs= [] then y else Lib.join xs sep++sep++y:=by
 cases xs with
 | nil=>rw[if_pos rfl];exact Lib.join_one _ _
 | cons x r =>
  rw[if_neg (by simp),List.cons_append,Lib.join_cons,Lib.join_cons]
  simp[Lib.joinTail,List.append_assoc]
end D
namespace D
open Go.RowKit
theorem xm: ∀(a:List UInt8) (acc:Nat) (b:List UInt8),Lib.decFrom acc (a++b)=(Lib.decFrom acc a).bind fun m=>Lib.decFrom m b
 | [],acc,b=>rfl
 | x::a,acc,b=>by
  rw[List.cons_append,Lib.decFrom,Lib.decFrom]
  cases Lib.digitVal x with
  | none=>rfl
  | some d=>exact xm a _ b
theorem J7 {d:Nat} (h:d<10):Lib.digitVal (UInt8.ofNat (48+d))=some d:=by
 have e:(UInt8.ofNat (48+d)).toNat=48+d:=by simp;omega
 unfold Lib.digitVal
 rw[e,if_pos ⟨by omega,by omega⟩]
 congr 1;omega
theorem vm {u:Nat} (h: ¬u<10):Lib.decDigits u=Lib.decDigits (u / 10)++ [UInt8.ofNat (48+u % 10)]:=by rw[Lib.decDigits,dif_neg h]
theorem Ea (u:Nat):Lib.decFrom 0 (Lib.decDigits u)=some u:=by
 induction u using Nat.strongRecOn with
 | _ u ih =>
  by_cases h:u<10
  ·rw[Lib.decDigits_one h,Lib.decFrom,J7 h]
   simp[Lib.decFrom]
  ·rw[vm h,xm,ih (u / 10) (by omega),Option.bind_some,Lib.decFrom,J7 (Nat.mod_lt _ (by omega))]
   simp only[Lib.decFrom]
   congr 1;omega
theorem Sl (u:Nat):Lib.decDigits u≠ []:=fun h=>by
 have:=Lib.decDigits_length u
 rw[h] at this
 have:=OB u
 simp at *;omega
theorem zg (u:Nat):Lib.decNat (Lib.decDigits u)=some u:=by
 unfold Lib.decNat
 rw[if_neg (by simpa using Sl u),Ea]
theorem FD (u:Nat): ∃d r,d<10∧Lib.decDigits u=UInt8.ofNat (48+d)::r:=by
 induction u using Nat.strongRecOn with
 | _ u ih =>
  by_cases h:u<10
  ·exact ⟨u,[],h,Lib.decDigits_one h⟩
  ·obtain ⟨d,r,hd,e⟩:=ih (u / 10) (by omega)
   exact ⟨d,_,hd,by rw[vm h,e];rfl⟩
theorem Eb {d:Nat} (h:d<10):(UInt8.ofNat (48+d)==45)=false∧(UInt8.ofNat (48+d)==43)=false:=by
 have: ∀d:Fin 10,(UInt8.ofNat (48+d.val)==45)=false∧(UInt8.ofNat (48+d.val)==43)=false:=by decide
 exact this ⟨d,h⟩
theorem J8 (n:Int):Lib.atoi (Lib.itoa n)=some n:=by
 unfold Lib.itoa
 by_cases h:n<0
 ·rw[if_pos h]
  show (Lib.decNat (Lib.decDigits n.natAbs)).map (fun (m:Nat)=> -(m:Int))=_
  rw[zg]
  simp;omega
 ·rw[if_neg h]
  obtain ⟨d,r,hd,e⟩:=FD n.toNat
  have k:=zg n.toNat
  rw[e] at k⊢
  show (if (UInt8.ofNat (48+d)==45)=true then _ else if (UInt8.ofNat (48+d)==43)=true then _ else _)=_
  rw[if_neg (by rw[(Eb hd).1];decide),if_neg (by rw[(Eb hd).2];decide),k]
  simp;omega
def dst (p:Nat×Nat) (b:UInt8):Nat×Nat:=if 48≤b.toNat∧b.toNat≤57 then (p.1*10+(b.toNat - 48),p.2+1) else p
theorem J9 {d:Nat} (h:d<10) (p:Nat×Nat):dst p (UInt8.ofNat (48+d))=(p.1*10+d,p.2+1):=by
 have e:(UInt8.ofNat (48+d)).toNat=48+d:=by simp;omega
 unfold dst
 rw[e,if_pos ⟨by omega,by omega⟩,show 48+d - 48=d by omega]
theorem Ka (u:Nat):(Lib.decDigits u).foldl dst (0,0)=(u,Lib.nDigits u):=by
 induction u using Nat.strongRecOn with
 | _ u ih =>
  by_cases h:u<10
  ·rw[Lib.decDigits_one h,List.foldl_cons,List.foldl_nil,J9 h,Lib.nDigits_small h];simp
  ·rw[vm h,List.foldl_append,ih (u / 10) (by omega),List.foldl_cons,List.foldl_nil,J9 (Nat.mod_lt _ (by omega)),Lib.nDigits_big h]
   congr 1
   show u / 10*10+u % 10=u
   omega
theorem Nd (n:Int):(Lib.itoa n).foldl dst (0,0)=(n.natAbs,Lib.nDigits n.natAbs):=by
 unfold Lib.itoa
 split
 ·rw[List.foldl_cons,show dst (0,0) 45=(0,0) from rfl,Ka]
 ·rw[Ka,show n.toNat=n.natAbs by omega]
theorem OC: ∀(l:List UInt8) (p:Nat×Nat),p.1<10 ^ p.2→(l.foldl dst p).1<10 ^ (l.foldl dst p).2
 | [],p,h=>h
 | b::l,p,h=>by
  rw[List.foldl_cons]
  refine OC l _ ?_
  unfold dst
  split
  ·rename_i k
   show p.1*10+(b.toNat - 48)<10 ^ (p.2+1)
   rw[Nat.pow_succ];omega
  ·exact h
theorem OD: ∀(l:List UInt8) (p:Nat×Nat),(l.foldl dst p).2≤p.2+l.length
 | [],p=>by simp
 | b::l,p=>by
  rw[List.foldl_cons]
  have:=OD l (dst p b)
  have h:(dst p b).2≤p.2+1:=by unfold dst;split <;> simp
  rw[List.length_cons];omega
end D
namespace D
open Go.RowKit
theorem Sn: ∀(k u:Nat),1≤k→u<10 ^ k→Lib.nDigits u≤k
 | 0,u,h,_=>by omega
 | k+1,u,_,h=>by
  by_cases h1:u<10
  ·rw[Lib.nDigits_small h1];omega
  ·rw[Lib.nDigits_big h1]
   rw[Nat.pow_succ] at h
   have hk:1≤k:=by
    rcases k with _ | k
    ·simp at h;omega
    ·omega
   have:=Sn k (u / 10) hk (by omega)
   omega
theorem u8W: ∀d:Fin 10,IntKind.i64.wrap (IntKind.u8.wrap (d.val:Int))=(d.val:Int):=by decide
theorem vn {s:ByteArray} {i:Nat} (h:i<s.size):gG s (i:Int)=some (((s.data.toList[i]'(by simpa using h)).toNat:Nat):Int):=by
 unfold gG chk
 rw[if_pos ⟨by omega,by omega⟩]
 simp only[Option.bind_some]
 rw[show (i:Int).toNat=i by omega,List.getD_eq_getElem?_getD,List.getElem?_eq_getElem (by simpa using h)]
 rfl
def dtk (s:ByteArray) (i:Nat):Nat×Nat:=(s.data.toList.take i).foldl dst (0,0)
theorem Kb (s:ByteArray) (i:Nat):(dtk s i).1<10 ^ (dtk s i).2∧(dtk s i).2≤i:=by
 refine ⟨OC _ _ (by decide),?_⟩
 have:=OD (s.data.toList.take i) (0,0)
 rw[List.length_take] at this
 unfold dtk
 omega
theorem QN (s:ByteArray):ai (fB s) aN (0,0,0)=some (.brk (((dtk s (min s.size 11)).1:Int),((dtk s (min s.size 11)).2:Int),((min s.size 11:Nat):Int))):=by
 refine bg (f:=fB s) (fun i=>(((dtk s i).1:Int),((dtk s i).2:Int),(i:Int))) (min s.size 11) (fun i hi=>?_) ?_ (fH _ (by omega))
 ·have h1:i<s.size:=by omega
  have hl:i<s.data.toList.length:=by simpa using h1
  have hd:dtk s (i+1)=dst (dtk s i) (s.data.toList[i]):=by
   unfold dtk
   rw[List.take_succ_eq_append_getElem hl,List.foldl_append];rfl
  obtain ⟨b1,b2⟩:=Kb s i
  have b3:10 ^ (dtk s i).2≤10 ^ 10:=Nat.pow_le_pow_right (by omega) (by omega)
  unfold fB
  simp only[]
  rw[if_pos (decide_eq_true (by omega)),if_pos (decide_eq_true (by omega)),vn h1,hd]
  generalize s.data.toList[i] =b
  generalize dtk s i=p at *
  simp only[Option.bind_some]
  unfold dst
  by_cases c1:48≤b.toNat
  ·rw[if_pos (decide_eq_true (by omega))]
   by_cases c2:b.toNat≤57
   ·rw[if_pos (decide_eq_true (by omega)),if_pos ⟨c1,c2⟩]
    obtain ⟨d,hd,e⟩: ∃d,d<10∧b.toNat=48+d:=⟨b.toNat - 48,by omega,by omega⟩
    rw[e,show ((48+d:Nat):Int) - 48=(d:Int) by omega,u8W ⟨d,hd⟩]
    simp only[Option.bind_some]
    rw[dC (n:=(p.1:Int)*10) (by omega) (by omega),dC (by show _≤_+(d:Int);omega) (by show _+(d:Int)≤_;omega),ae (by omega),ae (by omega)]
    congr 4
    show (p.1:Int)*10+(d:Int)=((p.1*10+(48+d - 48):Nat):Int)
    omega
   ·rw[if_neg (by simp;omega),if_neg (by omega)]
    simp only[Option.bind_some]
    rw[ae (by omega)]
  ·rw[if_neg (by simp;omega),if_neg (by omega)]
   simp only[Option.bind_some]
   rw[ae (by omega)]
 ·unfold fB
  simp only[]
  by_cases h:s.size≤11
  ·rw[Nat.min_eq_left h,if_neg (by simp)]
  ·rw[Nat.min_eq_right (by omega),if_pos (decide_eq_true (by omega)),if_neg (by simp)]
def sgn (s:ByteArray):Int:=if s.data.toList.head? =some 45 then -((dtk s (min s.size 11)).1:Int) else ((dtk s (min s.size 11)).1:Int)
theorem OE (s:ByteArray):(sgn s).natAbs<10 ^ (dtk s (min s.size 11)).2∧(sgn s).natAbs<10 ^ 11:=by
 obtain ⟨b1,b2⟩:=Kb s (min s.size 11)
 have b3:10 ^ (dtk s (min s.size 11)).2≤10 ^ 11:=Nat.pow_le_pow_right (by omega) (by omega)
 have:(sgn s).natAbs=(dtk s (min s.size 11)).1:=by unfold sgn;split <;> omega
 omega
theorem OF (s:ByteArray):eB s=if 9<(dtk s (min s.size 11)).2∨10<s.size then some (0,false) else if mkB (Lib.itoa (sgn s))=s then some (sgn s,true) else some (0,false):=by
 have hs:=(OE s).2
 have hi:I64 (sgn s):=by unfold I64;omega
 obtain ⟨b1,b2⟩:=Kb s (min s.size 11)
 have b3:10 ^ (dtk s (min s.size 11)).2≤10 ^ 11:=Nat.pow_le_pow_right (by omega) (by omega)
 have fin: ∀z:Int,z=sgn s→(if decide (((dtk s (min s.size 11)).2:Int)>9) then (some (0,false)) else (if decide (((s.size:Nat):Int)>10) then (some (0,false)) else ((bt z).bind fun r10=>if r10 !=s then (some (0,false)) else (some (z,true)))):Option (Int×Bool))=if 9<(dtk s (min s.size 11)).2∨10<s.size then some (0,false) else if mkB (Lib.itoa (sgn s))=s then some (sgn s,true) else some (0,false):=by
  rintro z rfl
  by_cases c1:9<(dtk s (min s.size 11)).2
  ·rw[if_pos (decide_eq_true (by omega)),if_pos (Or.inl c1)]
  ·rw[if_neg (by simp;omega)]
   by_cases c2:10<s.size
   ·rw[if_pos (decide_eq_true (by omega)),if_pos (Or.inr c2)]
   ·rw[if_neg (by simp;omega),if_neg (by omega),pO hi,Option.bind_some]
    by_cases c3:mkB (Lib.itoa (sgn s))=s
    ·rw[if_pos c3,if_neg (by simp[c3])]
    ·rw[if_neg c3,if_pos (by simpa using c3)]
 unfold eB
 rw[aj (QN s)]
 simp only[]
 by_cases h0:0<s.size
 ·rw[if_pos (decide_eq_true (by omega))]
  have hl:0<s.data.toList.length:=by simpa using h0
  have e0:gG s 0=some (((s.data.toList[0]).toNat:Nat):Int):=vn (i:=0) h0
  have eh:s.data.toList.head? =some s.data.toList[0]:=by rw[List.head?_eq_getElem?,List.getElem?_eq_getElem hl]
  rw[e0,Option.bind_some]
  by_cases c:s.data.toList[0] =45
  ·rw[if_pos (by rw[c];rfl),Option.bind_some,dC (by omega) (by omega)]
   exact fin _ (by unfold sgn;rw[eh,if_pos (by rw[c])])
  ·have hn:(s.data.toList[0]).toNat≠45:=fun e=>c (UInt8.toNat_inj.1 e)
   rw[if_neg (fun e=>hn (by have:=eq_of_beq e;omega)),Option.bind_some]
   exact fin _ (by unfold sgn;rw[eh,if_neg (by simpa using c)])
 ·rw[if_neg (by rw[decide_eq_true_eq];omega)]
  have he:s.data.toList.head? =none:=by
   have:s.data.toList= []:=List.eq_nil_of_length_eq_zero (by
    have:s.data.toList.length=s.size:=by simp
    omega)
   rw[this];rfl
  exact fin _ (by unfold sgn;rw[he,if_neg (by simp)])
theorem Nf {n:Int} (h: -999999999≤n∧n≤999999999):Lib.nDigits n.natAbs≤9∧(Lib.itoa n).length≤10:=by
 have k:Lib.nDigits n.natAbs≤9:=Sn 9 _ (by omega) (by omega)
 refine ⟨k,?_⟩
 unfold Lib.itoa
 split
 ·rw[List.length_cons,Lib.decDigits_length];omega
 ·rw[Lib.decDigits_length,show n.toNat=n.natAbs by omega];omega
theorem Kc (n:Int):((Lib.itoa n).head? =some 45)↔n<0:=by
 unfold Lib.itoa
 split
 ·rename_i h;simp[h]
 ·rename_i h
  obtain ⟨d,r,hd,e⟩:=FD n.toNat
  rw[e]
  have:=(Eb hd).1
  simp only[List.head?_cons,Option.some.injEq]
  constructor
  ·intro k;rw[k] at this;simp at this
  ·intro k;omega
theorem AC {n:Int} (h: -999999999≤n∧n≤999999999):eB (mkB (Lib.itoa n))=some (n,true)∧eC (mkB (Lib.itoa n))=some (n,true):=by
 obtain ⟨h9,h10⟩:=Nf h
 constructor
 ·have ed:dtk (mkB (Lib.itoa n)) (min (mkB (Lib.itoa n)).size 11)=(n.natAbs,Lib.nDigits n.natAbs):=by
   unfold dtk
   rw[dz,bc,Nat.min_eq_left (by omega),List.take_length,Nd]
  have es:sgn (mkB (Lib.itoa n))=n:=by
   unfold sgn
   rw[ed,dz]
   by_cases c:n<0
   ·rw[if_pos ((Kc n).2 c)];show -(n.natAbs:Int)=n;omega
   ·rw[if_neg fun k=>c ((Kc n).1 k)];show (n.natAbs:Int)=n;omega
  rw[OF,ed,es,bc,if_neg (by show¬(9<Lib.nDigits n.natAbs∨_);omega),if_pos rfl]
 ·unfold eC R.oH
  rw[bc,dz,if_neg (by omega),J8]
  show (if _ then _ else _)=_
  rw[if_pos ⟨rfl,h.1,h.2⟩]
theorem FE {s:ByteArray} (h: ¬ ∃n:Int,(-999999999≤n∧n≤999999999)∧s=mkB (Lib.itoa n)):eB s=some (0,false)∧eC s=some (0,false):=by
 constructor
 ·rw[OF]
  by_cases c:9<(dtk s (min s.size 11)).2∨10<s.size
  ·rw[if_pos c]
  ·rw[if_neg c,if_neg]
   intro e
   have b1:=(OE s).1
   have b3:10 ^ (dtk s (min s.size 11)).2≤10 ^ 9:=Nat.pow_le_pow_right (by omega) (by omega)
   exact h ⟨sgn s,by omega,e.symm⟩
 ·unfold eC R.oH
  by_cases c:10<s.size
  ·rw[if_pos c]
  ·rw[if_neg c]
   cases ha:Lib.atoi s.data.toList with
   | none=>rfl
   | some n =>
    show (if _ then _ else _)=_
    rw[if_neg fun k=>h ⟨n,k.2,k.1.symm⟩]
theorem nE (s:ByteArray): ∃r:Int×Bool,eB s=some r∧eC s=some r∧((r.2=true∧(-999999999≤r.1∧r.1≤999999999)∧s=mkB (Lib.itoa r.1))∨r=(0,false)):=by
 by_cases h: ∃n:Int,(-999999999≤n∧n≤999999999)∧s=mkB (Lib.itoa n)
 ·obtain ⟨n,hn,rfl⟩:=h
  exact ⟨_,(AC hn).1,(AC hn).2,.inl ⟨rfl,hn,rfl⟩⟩
 ·exact ⟨_,(FE h).1,(FE h).2,.inr rfl⟩
end D
namespace D
open Go.RowKit
abbrev AutT:=Int×(List Bool)×(List (List Int))
structure VA (a:AutT) (n:Nat):Prop where
 len:a.2.1.length=n
 start:0≤a.1∧a.1<n
 nlen:a.2.2.length=n
 row: ∀r∈a.2.2,r.length=9
 ent: ∀r∈a.2.2,∀t∈r,-1≤t∧t<n
def mv (a:AutT) (s:Int) (k:Nat):Int:=nth (nth a.2.2 s) k
theorem Ke (x l h:Int):bV x l h=some (decide (l≤x∧x≤h)):=by
 unfold bV
 by_cases c:l≤x
 ·simp[c]
 ·have: ¬l≤x∧True:=⟨c,trivial⟩
  simp[c]
theorem Ec (x l h:Int):bu x l h=some (decide (l≤x∧x≤h)):=by
 unfold bu
 by_cases c:l≤x
 ·simp[c]
 ·simp[c]
theorem scan {α R:Type} [Inhabited α] {f:Int→Option (Out R Int)} (xs:List α) (p:α→Prop) [DecidablePred p] (r:R) (hN:xs.length≤9223372036854775807)
  (h: ∀i:Nat,i<xs.length→f (i:Int)=some (if p (nth xs i) then .nxt ((i+1:Nat):Int) else .ret r)) (he:f (xs.length:Int)=some (.brk (xs.length:Int))) :
  (ai f aN 0=some (.brk (xs.length:Int))∧ ∀x∈xs,p x)∨(ai f aN 0=some (.ret r)∧ ¬ ∀x∈xs,p x):=by
 obtain ⟨o,e,hq⟩:=cq (f:=f) (fun i s=>s=(i:Int)∧ ∀j:Nat,j<i→p (nth xs j)) (fun o=>(o= .brk (xs.length:Int)∧ ∀x∈xs,p x)∨(o= .ret r∧ ¬ ∀x∈xs,p x)) xs.length (s:=0) (by
  rintro i s hi ⟨rfl,hp⟩
  by_cases hl:i<xs.length
  ·by_cases c:p (nth xs i)
   ·refine .inl ⟨hl,_,by rw[h i hl,if_pos c],rfl,fun j hj=>?_⟩
    by_cases e:j=i
    ·subst e;exact c
    ·exact hp j (by omega)
   ·refine .inr ⟨_,by rw[h i hl,if_neg c],(fun s' e=>by cases e),.inr ⟨rfl,fun hx=>c (hx _ (iK (by omega) (by omega)))⟩⟩
  ·obtain rfl:i=xs.length:=by omega
   refine .inr ⟨_,he,(fun s' e=>by cases e),.inl ⟨rfl,fun x hx=>?_⟩⟩
   obtain ⟨j,hj,rfl⟩:=D9 hx
   exact hp j hj) ⟨rfl,by omega⟩ (q9 hN)
 rcases hq with ⟨rfl,hq⟩ | ⟨rfl,hq⟩
 ·exact .inl ⟨e,hq⟩
 ·exact .inr ⟨e,hq⟩
section
variable {a:AutT} {n:Nat} (V:VA a n)
include V
theorem VA.pos:0<n:=by have:=V.start;omega
theorem VA.rowAt {s:Int} (h0:0≤s) (h1:s<n):(nth a.2.2 s).length=9:=V.row _ (iK h0 (by rw[V.nlen];exact h1))
theorem VA.mv {s:Int} {k:Nat} (h0:0≤s) (h1:s<n) (hk:k<9): -1≤mv a s k∧mv a s k<n:=
 V.ent _ (iK h0 (by rw[V.nlen];exact h1)) _ (iK (by omega) (by rw[V.rowAt h0 h1];omega))
theorem VA.get {s:Int} (h0:0≤s) (h1:s<n):aF a.2.2 s=some (nth a.2.2 s):=aw h0 (by rw[V.nlen];exact h1)
theorem VA.get2 {s:Int} {k:Nat} (h0:0≤s) (h1:s<n) (hk:k<9):aF (nth a.2.2 s) (k:Int)=some (D.mv a s k):=aw (by omega) (by rw[V.rowAt h0 h1];omega)
theorem VA.acc {s:Int} (h0:0≤s) (h1:s<n):aF a.2.1 s=some (nth a.2.1 s):=aw h0 (by rw[V.len];exact h1)
theorem So {s:Int} {k:Nat} (h0:0≤s) (h1:s<n) (hk:k<9):dt a s (k:Int)=some (mv a s k):=by
 unfold dt gN
 rw[if_neg (by simp;omega),Ec];simp only[Option.bind_some]
 rw[if_pos (by simp;omega),V.get h0 h1];simp only[Option.bind_some]
 rw[V.get2 h0 h1 hk];rfl
end
end D
namespace D
open Go.RowKit
theorem AD (s:ByteArray):eA s=gP s:=by
 have e:dX s=kM s:=by
  funext p
  unfold dX kM
  rw[Int.mul_comm p.1 257]
 unfold eA gP
 rw[e]
theorem CC (s:ByteArray) (h:s.size≤9223372036854775806): ∃r:Int,eA s=some r∧gP s=some r∧0≤r∧r≤9972:=by
 obtain ⟨p,e,h1,h2,h3⟩:=kZ (f:=dX s) (fun i p=>p.2=(i:Int)∧0≤p.1∧p.1≤9972) s.size (fun i p hi hI=>by
  obtain ⟨n,j⟩:=p
  obtain ⟨h1,h2,h3⟩:=hI
  simp only at h1 h2 h3
  subst h1
  unfold dX
  simp only[]
  rw[if_pos (decide_eq_true (by omega)),vn hi]
  simp only[Option.bind_some]
  generalize s.data.toList[i] =b
  have hb:b.toNat<256:=b.toNat_lt
  rw[dC (n:=((b.toNat:Nat):Int)) (by omega) (by omega),dC (n:=n*257) (by omega) (by omega),dC (n:=n*257+(b.toNat:Int)) (by omega) (by omega),dC (n:=n*257+(b.toNat:Int)+1) (by omega) (by omega),ae (by omega)]
  refine ⟨_,rfl,rfl,?_,?_⟩
  ·exact Int.tmod_nonneg _ (by omega)
  ·have:Int.tmod (n*257+(b.toNat:Int)+1) 9973<9973:=Int.tmod_lt_of_pos _ (by decide)
   show Int.tmod (n*257+(b.toNat:Int)+1) 9973≤9972
   omega) (fun p hI=>by
  obtain ⟨n,j⟩:=p
  obtain ⟨h1,-⟩:=hI
  simp only at h1
  subst h1
  unfold dX
  simp only[]
  rw[if_neg (by simp)]) (s:=(1,0)) ⟨rfl,by decide,by decide⟩ (fH _ (by omega))
 have k:eA s=some p.1:=by
  unfold eA
  rw[aj e]
 exact ⟨p.1,k,by rw[←AD];exact k,h2,h3⟩
def edOk (e:Int×Int×Int×Int):Prop:=(1≤e.1∧e.1≤99)∧(0≤e.2.1∧e.2.1≤4)∧(0≤e.2.2.1∧e.2.2.1≤4)∧(0≤e.2.2.2∧e.2.2.2≤2)
instance (e:Int×Int×Int×Int):Decidable (edOk e):=inferInstanceAs (Decidable (_∧_))
def pf (e:Int×Int×Int×Int):List UInt8:=Lib.itoa e.1++ [58] ++Lib.itoa e.2.1++ [UInt8.ofNat (97+e.2.2.2.toNat)] ++Lib.itoa e.2.2.1
theorem Ng: ∀k:Fin 3,df (IntKind.i64.wrap (2*(k.val:Int)))=some (mkB [UInt8.ofNat (97+k.val)]):=by
 intro k
 match k with
 | ⟨0,_⟩=>rfl
 | ⟨1,_⟩=>rfl
 | ⟨2,_⟩=>rfl
theorem Nh: ∀k:Fin 3,oe (⟨#[97,98,99]⟩) (k.val:Int) (IntKind.i64.wrap ((k.val:Int)+1))=some (mkB [UInt8.ofNat (97+k.val)]):=by
 intro k
 match k with
 | ⟨0,_⟩=>rfl
 | ⟨1,_⟩=>rfl
 | ⟨2,_⟩=>rfl
theorem Kf (e:Int×Int×Int×Int):gj e=some (if edOk e then mkB (pf e) else mkB []):=by
 unfold gj
 rw[Ke,Ke,Ke,Ke]
 simp only[Option.bind_some]
 by_cases h:edOk e
 ·obtain ⟨h1,h2,h3,h4⟩:=h
  rw[if_pos (decide_eq_true h1),if_pos (decide_eq_true h2),if_pos (decide_eq_true h3),if_pos (decide_eq_true h4),if_pos ⟨h1,h2,h3,h4⟩]
  have i1:I64 e.1:=by unfold I64;omega
  have i2:I64 e.2.1:=by unfold I64;omega
  have i3:I64 e.2.2.1:=by unfold I64;omega
  have n1:=od i1
  have n2:=od i2
  have n3:=od i3
  obtain ⟨k,hk,ek⟩: ∃k:Nat,k<3∧e.2.2.2=(k:Int):=⟨e.2.2.2.toNat,by omega,by omega⟩
  rw[pO i1,pO i2,pO i3,ek,Ng ⟨k,hk⟩]
  simp only[Option.bind_some]
  have c1:jS (mkB (Lib.itoa e.1)) (⟨#[58]⟩)=some (mkB (Lib.itoa e.1++ [58])):=AB _ [58] (by simp;omega)
  rw[c1]
  simp only[Option.bind_some]
  rw[AB _ _ (by simp;omega)]
  simp only[Option.bind_some]
  rw[AB _ _ (by simp;omega)]
  simp only[Option.bind_some]
  rw[AB _ _ (by simp;omega)]
  simp only[Option.bind_some]
  unfold pf
  rw[ek];rfl
 ·rw[if_neg h]
  split
  ·split
   ·split
    ·split
     ·rename_i a b c d
      exact absurd ⟨of_decide_eq_true a,of_decide_eq_true b,of_decide_eq_true c,of_decide_eq_true d⟩ h
     ·rfl
    ·rfl
   ·rfl
  ·rfl
theorem Kg (e:Int×Int×Int×Int):gk e=some (if edOk e then mkB (pf e) else mkB []):=by
 have h5:IntKind.i64.wrap (5 - 1)=4:=by decide
 have hok:gM (e.1,e.2.1,e.2.2.1,e.2.2.2) 5=some (decide (edOk e)):=by
  unfold gM
  rw[h5,Ec,Ec,Ec,Ec]
  simp only[Option.bind_some]
  by_cases h1:1≤e.1∧e.1≤99
  ·rw[if_pos (decide_eq_true h1)]
   by_cases h2:0≤e.2.1∧e.2.1≤4
   ·rw[if_pos (decide_eq_true h2)]
    by_cases h3:0≤e.2.2.1∧e.2.2.1≤4
    ·rw[if_pos (decide_eq_true h3)]
     congr 1
     exact decide_eq_decide.2 ⟨fun h4=>⟨h1,h2,h3,h4⟩,fun h=>h.2.2.2⟩
    ·rw[if_neg (by simpa using h3),decide_eq_false (fun h:edOk e=>h3 h.2.2.1)]
   ·rw[if_neg (by simpa using h2),decide_eq_false (fun h:edOk e=>h2 h.2.1)]
  ·rw[if_neg (by simpa using h1),decide_eq_false (fun h:edOk e=>h1 h.1)]
 unfold gk
 rw[hok]
 simp only[Option.bind_some]
 by_cases h:edOk e
 ·rw[if_pos (decide_eq_true h),if_pos h]
  obtain ⟨h1,h2,h3,h4⟩:=h
  have i1:I64 e.1:=by unfold I64;omega
  have i2:I64 e.2.1:=by unfold I64;omega
  have i3:I64 e.2.2.1:=by unfold I64;omega
  have n1:=od i1
  have n2:=od i2
  have n3:=od i3
  obtain ⟨k,hk,ek⟩: ∃k:Nat,k<3∧e.2.2.2=(k:Int):=⟨e.2.2.2.toNat,by omega,by omega⟩
  rw[sd i1,sd i2,sd i3,ek,Nh ⟨k,hk⟩]
  simp only[Option.bind_some]
  have c1:jS (mkB (Lib.itoa e.1)) (⟨#[58]⟩)=some (mkB (Lib.itoa e.1++ [58])):=AB _ [58] (by simp;omega)
  rw[c1]
  simp only[Option.bind_some]
  rw[AB _ _ (by simp;omega)]
  simp only[Option.bind_some]
  rw[AB _ _ (by simp;omega)]
  simp only[Option.bind_some]
  rw[AB _ _ (by simp;omega)]
  simp only[Option.bind_some]
  unfold pf
  rw[ek];rfl
 ·rw[if_neg (by simpa using h),if_neg h];rfl
end D
namespace D
open Go.RowKit
abbrev ChT:Type:=Bool×Int×Int×Int×Int
def l5 (c:ChT):List UInt8:=(if c.1 then 43 else 45)::pf c.2
def btx (l:List ChT):List UInt8:=Lib.join (l.map l5) [32]
def vo (l:List ChT):Prop:= ∀c,c∈l→edOk c.2
theorem pP {e:Int×Int×Int×Int} (h:edOk e):(pf e).length≤70:=by
 obtain ⟨h1,h2,h3,h4⟩:=h
 have n1:=od (n:=e.1) (by unfold I64;omega)
 have n2:=od (n:=e.2.1) (by unfold I64;omega)
 have n3:=od (n:=e.2.2.1) (by unfold I64;omega)
 unfold pf
 simp only[List.length_append,List.length_cons,List.length_nil];omega
theorem Kh (e:Int×Int×Int×Int):(mkB (pf e)==(⟨#[]⟩:ByteArray))=false:=by
 rw[beq_eq_false_iff_ne]
 intro k
 have:=congrArg ByteArray.size k
 rw[bc] at this
 unfold pf at this
 simp only[List.length_append,List.length_cons,List.length_nil] at this
 have e0:(⟨#[]⟩:ByteArray).size=0:=rfl
 omega
theorem Ki: ∀(r:List ChT),vo r→(Lib.joinTail [32] (r.map l5)).length≤72*r.length
 | [],_=>by simp[Lib.joinTail]
 | c::r,h=>by
  have h1:=Ki r fun q hq=>h q (List.mem_cons_of_mem _ hq)
  have h2:=pP (h c (by simp))
  have e:Lib.joinTail [32] ((c::r).map l5)=([32] ++l5 c)++Lib.joinTail [32] (r.map l5):=by simp[Lib.joinTail]
  rw[e,List.length_append,List.length_append,List.length_cons]
  unfold l5
  simp only[List.length_cons,List.length_nil]
  unfold l5 at h1
  omega
theorem AE {l:List ChT} (h:vo l):(btx l).length≤72*l.length:=by
 cases l with
 | nil=>simp[btx,Lib.join_nil]
 | cons c r =>
  have h1:=Ki r fun q hq=>h q (List.mem_cons_of_mem _ hq)
  have h2:=pP (h c (by simp))
  unfold btx
  rw[List.map_cons,Lib.join_cons,List.length_append,List.length_cons]
  have:(l5 c).length=(pf c.2).length+1:=by unfold l5;rw[List.length_cons]
  omega
theorem Ni {l:List ChT} {i:Nat} (hi:i<l.length):btx (l.take (i+1))=if i=0 then l5 l[i] else btx (l.take i)++ [32] ++l5 l[i]:=by
 unfold btx
 rw[List.take_succ_eq_append_getElem hi,List.map_append,List.map_cons,List.map_nil,J6]
 by_cases h:i=0
 ·subst h;rw[if_pos (by simp),if_pos rfl]
 ·rw[if_neg (by
   intro e
   have:=congrArg List.length e
   rw[List.length_map,List.length_take,List.length_nil] at this
   omega),if_neg h]
theorem CD {l:List ChT} {i:Nat} (hi:i<l.length) (h:vo (l.take i)) (k:edOk l[i].2):vo (l.take (i+1)):=by
 rw[List.take_succ_eq_append_getElem hi]
 intro c hc
 rcases List.mem_append.1 hc with hc | hc
 ·exact h c hc
 ·obtain rfl:=List.mem_singleton.1 hc;exact k
theorem QO {l:List ChT} (hl:l.length≤6):(vo l∧ai (dw l) aN (([] :List ByteArray),0)=some (.brk (l.map (fun c=>mkB (l5 c)),(l.length:Int))))∨(¬vo l∧ai (dw l) aN (([] :List ByteArray),0)=some (.ret (mkB []))):=by
 obtain ⟨o,e,hQ⟩:=cq (f:=dw l) (fun i s=>s=((l.take i).map (fun c=>mkB (l5 c)),(i:Int))∧vo (l.take i)) (fun o=>(vo l∧o= .brk (l.map (fun c=>mkB (l5 c)),(l.length:Int)))∨(¬vo l∧o= .ret (mkB []))) l.length (fun i s hi hI=>by
  obtain ⟨rfl,hb⟩:=hI
  unfold dw
  simp only[]
  by_cases h1:i<l.length
  ·rw[bp h1,if_pos rfl,al h1]
   simp only[Option.bind_some]
   rw[Kg]
   simp only[Option.bind_some]
   by_cases k:edOk l[i].2
   ·have n1:=pP k
    have c1:jS (⟨#[43]⟩) (mkB (pf l[i].2))=some (mkB (43::pf l[i].2)):=AB [43] _ (by simp;omega)
    have c2:jS (⟨#[45]⟩) (mkB (pf l[i].2))=some (mkB (45::pf l[i].2)):=AB [45] _ (by simp;omega)
    have hx: ∀z:ByteArray,cN 16 ((l.take i).map (fun c=>mkB (l5 c))) [z] =some ((l.take i).map (fun c=>mkB (l5 c))++ [z]):=fun z=>az (by rw[List.length_map,List.length_take];simp only[List.length_cons,List.length_nil];omega)
    refine .inl ⟨h1,((l.take (i+1)).map (fun c=>mkB (l5 c)),((i+1:Nat):Int)),?_,rfl,CD h1 hb k⟩
    rw[if_pos k,if_neg (by rw[Kh];decide),c1,c2]
    simp only[Option.bind_some]
    rw[hx,hx,List.take_succ_eq_append_getElem h1,List.map_append,List.map_cons,List.map_nil,←ae (show i<9223372036854775807 by omega)]
    have ec:l5 l[i] =(if l[i].1=true then 43 else 45)::pf l[i].2:=rfl
    rw[ec]
    generalize l[i].1=t
    cases t <;> rfl
   ·refine .inr ⟨.ret (mkB []),?_,fun s' h=>(by simp at h),.inr ⟨fun h=>k (h _ (List.getElem_mem h1)),rfl⟩⟩
    rw[if_neg k];rfl
  ·obtain rfl:i=l.length:=by omega
   rw[List.take_length] at hb
   refine .inr ⟨_,by rw[ba];rfl,fun s' h=>(by simp at h),.inl ⟨hb,by rw[List.take_length]⟩⟩) (s:=([],0)) ⟨rfl,fun c hc=>by simp at hc⟩ (fH _ (by omega))
 rcases hQ with ⟨h,rfl⟩ | ⟨h,rfl⟩
 ·exact .inl ⟨h,e⟩
 ·exact .inr ⟨h,e⟩
theorem QP {l:List ChT} (hl:l.length≤6):(vo l∧ai (dm l) aN ((⟨#[]⟩:ByteArray),0)=some (.brk (mkB (btx l),(l.length:Int))))∨(¬vo l∧ai (dm l) aN ((⟨#[]⟩:ByteArray),0)=some (.ret (mkB []))):=by
 obtain ⟨o,e,hQ⟩:=cq (f:=dm l) (fun i s=>s=(mkB (btx (l.take i)),(i:Int))∧vo (l.take i)) (fun o=>(vo l∧o= .brk (mkB (btx l),(l.length:Int)))∨(¬vo l∧o= .ret (mkB []))) l.length (fun i s hi hI=>by
  obtain ⟨rfl,hb⟩:=hI
  have hn:=AE hb
  rw[List.length_take] at hn
  unfold dm
  simp only[]
  by_cases h1:i<l.length
  ·rw[bp h1,if_pos rfl,al h1]
   simp only[Option.bind_some]
   rw[Kf]
   simp only[Option.bind_some]
   by_cases k:edOk l[i].2
   ·have n1:=pP k
    refine .inl ⟨h1,(mkB (btx (l.take (i+1))),((i+1:Nat):Int)),?_,rfl,CD h1 hb k⟩
    rw[if_pos k,if_neg (by rw[Kh];decide),Ni h1,←ae (show i<9223372036854775807 by omega)]
    have ec:l5 l[i] =(if l[i].1=true then 43 else 45)::pf l[i].2:=rfl
    rw[ec]
    generalize l[i].1=t
    have g1: ∀(a:List UInt8) (b:UInt8),a.length≤1000→jS (mkB a) (mkB [b])=some (mkB (a++ [b])):=fun a b ha=>AB _ _ (by simp;omega)
    have g2: ∀(a:List UInt8) (b:UInt8),a.length≤1000→jS (mkB (a++ [b])) (mkB (pf l[i].2))=some (mkB (a++b::pf l[i].2)):=fun a b ha=>by
     rw[AB _ _ (by simp;omega),List.append_assoc];rfl
    by_cases h0:i=0
    ·subst h0
     have eb:btx (l.take 0)= []:=rfl
     have q1:=g1 [] 43 (by simp)
     have q2:=g1 [] 45 (by simp)
     have q3:=g2 [] 43 (by simp)
     have q4:=g2 [] 45 (by simp)
     have l1:(⟨#[43]⟩:ByteArray)=mkB [43]:=rfl
     have l2:(⟨#[45]⟩:ByteArray)=mkB [45]:=rfl
     rw[eb,if_pos rfl,if_neg (by simp)]
     simp only[Option.bind_some]
     rw[l1,l2,q1,q2]
     simp only[Option.bind_some]
     rw[q3,q4]
     cases t <;> rfl
    ·have hs:=g1 (btx (l.take i)) 32 (by omega)
     have q1:=g1 (btx (l.take i)++ [32]) 43 (by simp;omega)
     have q2:=g1 (btx (l.take i)++ [32]) 45 (by simp;omega)
     have q3:=g2 (btx (l.take i)++ [32]) 43 (by simp;omega)
     have q4:=g2 (btx (l.take i)++ [32]) 45 (by simp;omega)
     have l1:(⟨#[43]⟩:ByteArray)=mkB [43]:=rfl
     have l2:(⟨#[45]⟩:ByteArray)=mkB [45]:=rfl
     have l3:(⟨#[32]⟩:ByteArray)=mkB [32]:=rfl
     rw[if_neg h0,if_pos (decide_eq_true (by omega)),l1,l2,l3,hs]
     simp only[Option.bind_some]
     rw[q1,q2]
     simp only[Option.bind_some]
     rw[q3,q4]
     cases t <;> rfl
   ·refine .inr ⟨.ret (mkB []),?_,fun s' h=>(by simp at h),.inr ⟨fun h=>k (h _ (List.getElem_mem h1)),rfl⟩⟩
    rw[if_neg k];rfl
  ·obtain rfl:i=l.length:=by omega
   rw[List.take_length] at hb
   refine .inr ⟨_,by rw[ba];rfl,fun s' h=>(by simp at h),.inl ⟨hb,by rw[List.take_length]⟩⟩) (s:=((⟨#[]⟩:ByteArray),0)) ⟨rfl,fun c hc=>by simp at hc⟩ (fH _ (by omega))
 rcases hQ with ⟨h,rfl⟩ | ⟨h,rfl⟩
 ·exact .inl ⟨h,e⟩
 ·exact .inr ⟨h,e⟩
open Classical in
theorem pQ (l:List ChT):bX l=some (if l.length≤6∧vo l then mkB (btx l) else mkB [])∧cW l=some (if l.length≤6∧vo l then mkB (btx l) else mkB []):=by
 unfold bX cW
 by_cases h6:l.length≤6
 ·have hd: ¬decide ((l.length:Int)>6)=true:=by rw[decide_eq_true_eq];omega
  constructor
  ·rw[if_neg hd]
   rcases QP h6 with ⟨h,e⟩ | ⟨h,e⟩
   ·rw[aj e,if_pos ⟨h6,h⟩]
   ·rw[bR e,if_neg fun k=>h k.2]
  ·rw[if_neg hd]
   rcases QO h6 with ⟨h,e⟩ | ⟨h,e⟩
   ·have hn:=AE h
    rw[aj e,if_pos ⟨h6,h⟩]
    show (gx (l.map fun p=>mkB (l5 p)) (mkB [32])).bind _=_
    unfold gx R.MZ chk
    have e:(l.map fun p=>mkB (l5 p)).map (·.data.toList)=l.map l5:=by
     rw[List.map_map]
     exact List.map_congr_left fun p _=>dz _
    rw[e,dz,List.length_map,if_pos ⟨by omega,by show (btx l).length≤_;omega⟩];rfl
   ·rw[bR e,if_neg fun k=>h k.2]
 ·have hd:decide ((l.length:Int)>6)=true:=decide_eq_true (by omega)
  constructor
  ·rw[if_pos hd,if_neg fun k=>h6 k.1];rfl
  ·rw[if_pos hd,if_neg fun k=>h6 k.1];rfl
end D
namespace D
open Go.RowKit
theorem xn (v:Int) (l:List ChT): ∃r:ByteArray,dh v l=some r∧eZ v l=some r∧r.size≤1000:=by
 obtain ⟨es,ei⟩:=pQ l
 obtain ⟨t,et,hn⟩: ∃t:List UInt8,(bX l=some (mkB t)∧cW l=some (mkB t))∧t.length≤432:=by
  by_cases h:l.length≤6∧vo l
  ·have:=AE h.2
   refine ⟨btx l,⟨?_,?_⟩,by omega⟩
   ·rw[es,if_pos h]
   ·rw[ei,if_pos h]
  ·refine ⟨[],⟨?_,?_⟩,by simp⟩
   ·rw[es,if_neg h]
   ·rw[ei,if_neg h]
 obtain ⟨e1,e2⟩:=et
 unfold dh eZ
 rw[e1,e2,Ke,Ec]
 simp only[Option.bind_some]
 by_cases hv:1≤v∧v≤999
 ·have iv:I64 v:=by unfold I64;omega
  have nv:=od iv
  have c1:jS (mkB (Lib.itoa v)) (⟨#[59]⟩)=some (mkB (Lib.itoa v++ [59])):=AB _ [59] (by simp;omega)
  have c2:jS (mkB (Lib.itoa v++ [59])) (mkB t)=some (mkB (Lib.itoa v++ [59] ++t)):=AB _ _ (by simp;omega)
  have c3:jS (mkB (Lib.itoa v++ [59] ++t)) (⟨#[59]⟩)=some (mkB (Lib.itoa v++ [59] ++t++ [59])):=AB _ [59] (by simp;omega)
  obtain ⟨q,k1,k2,q1,q2⟩:=CC (mkB (Lib.itoa v++ [59] ++t++ [59])) (by rw[bc];simp;omega)
  have iq:I64 q:=by unfold I64;omega
  have nq:=od iq
  have c4:jS (mkB (Lib.itoa v++ [59] ++t++ [59])) (mkB (Lib.itoa q))=some (mkB (Lib.itoa v++ [59] ++t++ [59] ++Lib.itoa q)):=AB _ _ (by simp;omega)
  have c5:jS (mkB (Lib.itoa v++ [59] ++t++ [59] ++Lib.itoa q)) (⟨#[10]⟩)=some (mkB (Lib.itoa v++ [59] ++t++ [59] ++Lib.itoa q++ [10])):=AB _ [10] (by simp;omega)
  have hs:(mkB (Lib.itoa v++ [59] ++t++ [59] ++Lib.itoa q++ [10])).size≤1000:=by rw[bc];simp;omega
  have h0:((⟨#[]⟩:ByteArray)).size≤1000:=by decide
  rw[decide_eq_true hv]
  simp only[if_true,pO iv,sd iv,pO iq,sd iq,c1,c2,c3,k1,k2,c4,c5,Option.bind_some]
  by_cases a:decide ((l.length:Int)>0)=true
  ·by_cases b:(mkB t==(⟨#[]⟩:ByteArray))=true
   ·simp only[if_pos a,if_pos b];exact ⟨_,rfl,rfl,h0⟩
   ·simp only[if_pos a,if_neg b];exact ⟨_,rfl,rfl,hs⟩
  ·by_cases b:(mkB t==(⟨#[]⟩:ByteArray))=true
   ·simp only[if_neg a,if_pos b];exact ⟨_,rfl,rfl,hs⟩
   ·simp only[if_neg a,if_neg b];exact ⟨_,rfl,rfl,hs⟩
 ·rw[decide_eq_false hv]
  exact ⟨_,rfl,rfl,by decide⟩
end D
namespace D
open Go.RowKit
def l6 (c:UInt8) (cur:List UInt8):List UInt8→List (List UInt8)
 | [] =>[cur]
 | b::l=>if b=c then cur::l6 c [] l else l6 c (cur++ [b]) l
theorem k8 {c:UInt8} : ∀ {l cur:List UInt8},c∉l→l6 c cur l= [cur++l]
 | [],cur,_=>by simp[l6]
 | b::l,cur,h=>by
  have hb:b≠c:=fun e=>h (by simp[e])
  rw[l6,if_neg hb,k8 fun k=>h (List.mem_cons_of_mem _ k)]
  simp
theorem nF {c:UInt8} : ∀ {a cur r:List UInt8},c∉a→l6 c cur (a++c::r)=(cur++a)::l6 c [] r
 | [],cur,r,_=>by simp[l6]
 | b::a,cur,r,h=>by
  have hb:b≠c:=fun e=>h (by simp[e])
  rw[List.cons_append,l6,if_neg hb,nF fun k=>h (List.mem_cons_of_mem _ k)]
  simp
theorem AF (c:UInt8): ∀(l cur:List UInt8),(l6 c cur l).length≤l.length+1
 | [],cur=>by simp[l6]
 | b::l,cur=>by
  rw[l6]
  split
  ·have:=AF c l [];simp only[List.length_cons];omega
  ·have:=AF c l (cur++ [b]);simp only[List.length_cons];omega
theorem pg (c:UInt8): ∀(l cur:List UInt8),∀x∈l6 c cur l,x.length≤cur.length+l.length
 | [],cur,x,h=>by simp[l6] at h;subst h;simp
 | b::l,cur,x,h=>by
  rw[l6] at h
  split at h
  ·rcases List.mem_cons.1 h with rfl | h
   ·simp
   ·have:=pg c l [] x h;simp at this;simp;omega
  ·have:=pg c l _ x h;simp at this;simp;omega
theorem pR (c:UInt8) (l:List UInt8):c∉l∨ ∃a r,l=a++c::r∧c∉a:=by
 by_cases h:c∈l
 ·obtain ⟨a,r,e,k⟩:=List.eq_append_cons_of_mem h
  exact .inr ⟨a,r,e,k⟩
 ·exact .inl h
theorem AG (s:ByteArray):mkB s.data.toList=s:=by simp[mkB]
theorem Sp (s:ByteArray): ∃l:List UInt8,s=mkB l:=⟨_,(AG s).symm⟩
theorem tq {a b:List UInt8} (h:mkB a=mkB b):a=b:=by rw[←dz a,h,dz]
theorem slB {l:List UInt8} {a b:Nat} (h1:a≤b) (h2:b≤l.length):oe (mkB l) (a:Int) (b:Int)=some (mkB ((l.take b).drop a)):=by
 unfold oe chk
 rw[bc,if_pos ⟨by omega,by omega,by omega⟩,Option.bind_some]
 congr 1
 refine ByteArray.ext ?_
 simp[mkB,List.drop_take]
theorem atB {l:List UInt8} {i:Nat} (h:i<l.length):gG (mkB l) (i:Int)=some ((l[i].toNat:Nat):Int):=by
 rw[vn (by rw[bc];exact h)]
 simp[mkB]
theorem se (l:List UInt8) (c:UInt8) (hl:l.length≤1000000):fA (mkB l) ((c.toNat:Nat):Int)=some ((l6 c [] l).map mkB):=by
 obtain ⟨s,e,fr,done,rfl,h1,h2,h3⟩:=kZ (f:=lC (mkB l) ((c.toNat:Nat):Int)) (fun i s=> ∃(fr:Nat) (done:List (List UInt8)),s=(done.map mkB,(fr:Int),(i:Int))∧fr≤i∧done.length≤i∧done++l6 c ((l.take i).drop fr) (l.drop i)=l6 c [] l) l.length (fun i s hi hI=>by
  obtain ⟨fr,done,rfl,h1,h2,h3⟩:=hI
  unfold lC
  simp only[]
  rw[if_pos (decide_eq_true (by rw[bc];omega)),atB hi]
  simp only[Option.bind_some]
  rw[List.drop_eq_getElem_cons hi,l6] at h3
  by_cases k:l[i] =c
  ·rw[if_pos k] at h3
   rw[if_pos (by rw[k];simp),slB h1 (by omega)]
   simp only[Option.bind_some]
   have hx:cN 16 (done.map mkB) [mkB ((l.take i).drop fr)] =some (done.map mkB++ [mkB ((l.take i).drop fr)]):=az (by rw[List.length_map];simp only[List.length_cons,List.length_nil];omega)
   rw[hx]
   simp only[Option.bind_some]
   refine ⟨_,rfl,i+1,done++ [(l.take i).drop fr],?_,Nat.le_refl _,by simp;omega,?_⟩
   ·rw[List.map_append,List.map_cons,List.map_nil,ae (by omega)]
   ·rw[←h3,List.append_assoc,List.drop_of_length_le (l:=l.take (i+1)) (by rw[List.length_take];omega)];rfl
  ·rw[if_neg k] at h3
   rw[if_neg (fun e=>k (UInt8.toNat_inj.1 (by have:=eq_of_beq e;omega)))]
   simp only[Option.bind_some]
   refine ⟨_,rfl,fr,done,?_,by omega,by omega,?_⟩
   ·rw[ae (by omega)]
   ·rw[←h3,List.take_succ_eq_append_getElem hi,List.drop_append_of_le_length (by rw[List.length_take];omega)]) (fun s hI=>by
  obtain ⟨fr,done,rfl,h1,h2,h3⟩:=hI
  unfold lC
  simp only[]
  rw[if_neg (by rw[bc];simp)]) (s:=(([] :List ByteArray),0,0)) ⟨0,[],rfl,Nat.le_refl _,Nat.le_refl _,by simp⟩ (fH _ (by omega))
 unfold fA
 rw[aj e,bc]
 simp only[]
 rw[slB h1 (Nat.le_refl _)]
 simp only[Option.bind_some]
 have hx:cN 16 (done.map mkB) [mkB ((l.take l.length).drop fr)] =some (done.map mkB++ [mkB ((l.take l.length).drop fr)]):=az (by rw[List.length_map];simp only[List.length_cons,List.length_nil];omega)
 rw[hx,←h3,List.drop_length,l6]
 simp
theorem AH {c:UInt8} : ∀ {l:List UInt8},c∉l→Lib.index l [c] = -1
 | [],_=>rfl
 | b::l,h=>by
  have hb:c≠b:=fun e=>h (by simp[e])
  have k:([c] :List UInt8).isPrefixOf (b::l)=false:=by simp[List.isPrefixOf,hb]
  rw[Lib.index,k,AH fun k=>h (List.mem_cons_of_mem _ k)];rfl
theorem AI {c:UInt8} : ∀ {a r:List UInt8},c∉a→Lib.index (a++c::r) [c] =(a.length:Int)
 | [],r,_=>by simp[Lib.index,List.isPrefixOf]
 | b::a,r,h=>by
  have hb:c≠b:=fun e=>h (by simp[e])
  have k:([c] :List UInt8).isPrefixOf (b::(a++c::r))=false:=by simp[List.isPrefixOf,hb]
  rw[List.cons_append,Lib.index,k,AI fun k=>h (List.mem_cons_of_mem _ k)]
  rw[if_neg (by decide),if_neg (by rw[beq_iff_eq];omega),List.length_cons];omega
theorem CE (c:UInt8): ∀(n:Nat) (l:List UInt8),l.length≤n→Lib.splitK [c] 0 (Lib.count l [c]) l=l6 c [] l
 | n,l,h=>by
  rcases pR c l with k | ⟨a,r,rfl,k⟩
  ·have e:=AH k
   rw[Lib.count_miss e,k8 k];rfl
  ·have e:=AI (r:=r) k
   have hd:(a++c::r).drop (a.length+1)=r:=by
    rw[←List.drop_drop,List.drop_left];rfl
   rw[Lib.count_hit (by simp) e,nF k,Nat.add_comm 1,Lib.splitK,e,if_neg (by rw[beq_iff_eq];omega)]
   show List.take (a.length+0) _::Lib.splitK [c] 0 (Lib.count ((a++c::r).drop (a.length+1)) [c]) ((a++c::r).drop (a.length+1))=_
   rw[hd,Nat.add_zero,List.take_left]
   cases n with
   | zero=>simp at h
   | succ n=>rw[CE c n r (by simp at h;omega)];rfl
theorem AJ (l:List UInt8) (c:UInt8) (hl:l.length≤1000000):bP (mkB l) (mkB [c])=some ((l6 c [] l).map mkB):=by
 unfold bP R.Ft chk
 rw[bc,bc,if_pos ⟨by omega,by simp⟩,Option.bind_some]
 congr 1
 have e:=Lib.splitB_data (mkB [c]) 0 (Lib.countB (mkB l) (mkB [c])) (mkB l)
 rw[dz,dz] at e
 have e2:Lib.countB (mkB l) (mkB [c])=Lib.count l [c]:=by unfold Lib.countB;rw[dz,dz]
 rw[e2,CE c l.length l (Nat.le_refl _)] at e
 rw[e2,←e,List.map_map]
 conv=>lhs;rw[←List.map_id (Lib.splitB _ _ _ _)]
 exact List.map_congr_left fun x _=>(AG x).symm
theorem Nj {l:List UInt8} {c:UInt8} (hl:l.length≤1000000) (h:c∉l):b7 (mkB l) (mkB [c])=some (mkB l,mkB [],false):=by
 unfold b7 R.Sb chk
 rw[bc,if_pos (by omega),Option.bind_some,dz,dz]
 have:Lib.cut l [c] =(l,[],false):=by unfold Lib.cut;rw[AH h,if_neg (by decide)]
 rw[this];rfl
theorem OG {a r:List UInt8} {c:UInt8} (hl:(a++c::r).length≤1000000) (h:c∉a):b7 (mkB (a++c::r)) (mkB [c])=some (mkB a,mkB r,true):=by
 unfold b7 R.Sb chk
 rw[bc,if_pos (by omega),Option.bind_some,dz,dz]
 have:Lib.cut (a++c::r) [c] =(a,r,true):=by
  unfold Lib.cut
  rw[AI h,if_pos (by omega)]
  have hd:(a++c::r).drop (a.length+1)=r:=by
   rw[←List.drop_drop,List.drop_left];rfl
  show (List.take a.length _,List.drop (a.length+1) _,true)=_
  rw[List.take_left,hd]
 rw[this];rfl
theorem FF {c:UInt8} : ∀ {l:List UInt8},c∉l→Lib.indexByte l c= -1
 | [],_=>rfl
 | b::l,h=>by
  have hb:b≠c:=fun e=>h (by simp[e])
  rw[Lib.indexByte,if_neg (by simpa using hb),FF fun k=>h (List.mem_cons_of_mem _ k)];rfl
theorem OH {c:UInt8} : ∀ {a r:List UInt8},c∉a→Lib.indexByte (a++c::r) c=(a.length:Int)
 | [],r,_=>by simp[Lib.indexByte]
 | b::a,r,h=>by
  have hb:b≠c:=fun e=>h (by simp[e])
  rw[List.cons_append,Lib.indexByte,if_neg (by simpa using hb),OH fun k=>h (List.mem_cons_of_mem _ k),if_neg (by rw[beq_iff_eq];omega),List.length_cons];omega
end D
namespace D
open Go.RowKit
theorem T0 {α:Type} {l:List α} (h:l.length=3): ∃a b c,l= [a,b,c]:=by
 match l,h with
 | [a,b,c],_=>exact ⟨a,b,c,rfl⟩
abbrev EgT:Type:=Int×Int×Int×Int
theorem Nk (c:UInt8) (cur l:List UInt8):1≤(l6 c cur l).length:=by
 rcases pR c l with k | ⟨a,r,rfl,k⟩
 ·rw[k8 k];simp
 ·rw[nF k];simp
theorem CF (u:Nat): ∀b∈Lib.decDigits u,48≤b.toNat∧b.toNat≤57:=by
 induction u using Nat.strongRecOn with
 | _ u ih =>
  intro b hb
  have k: ∀d,d<10→48≤(UInt8.ofNat (48+d)).toNat∧(UInt8.ofNat (48+d)).toNat≤57:=fun d hd=>by
   have e:(UInt8.ofNat (48+d)).toNat=48+d:=by simp;omega
   omega
  by_cases h:u<10
  ·rw[Lib.decDigits_one h] at hb
   obtain rfl:=List.mem_singleton.1 hb
   exact k u h
  ·rw[vm h] at hb
   rcases List.mem_append.1 hb with hb | hb
   ·exact ih (u / 10) (by omega) b hb
   ·obtain rfl:=List.mem_singleton.1 hb
    exact k _ (Nat.mod_lt _ (by omega))
theorem Nl (n:Int): ∀b∈Lib.itoa n,b.toNat=45∨48≤b.toNat∧b.toNat≤57:=by
 intro b hb
 unfold Lib.itoa at hb
 split at hb
 ·rcases List.mem_cons.1 hb with rfl | hb
  ·exact .inl rfl
  ·exact .inr (CF _ b hb)
 ·exact .inr (CF _ b hb)
theorem OI {n:Int} {c:UInt8} (h1:c.toNat≠45) (h2:c.toNat<48∨57<c.toNat):c∉Lib.itoa n:=fun h=>by
 rcases Nl n c h with k | k <;> omega
theorem OJ {n:Int} (h:0≤n∧n≤9):Lib.itoa n= [UInt8.ofNat (48+n.toNat)]:=by
 unfold Lib.itoa
 rw[if_neg (by omega),Lib.decDigits_one (by omega)]
theorem Ed {e:EgT} (h:edOk e):pf e=Lib.itoa e.1++58:: [UInt8.ofNat (48+e.2.1.toNat),UInt8.ofNat (97+e.2.2.2.toNat),UInt8.ofNat (48+e.2.2.1.toNat)]:=by
 obtain ⟨-,h2,h3,-⟩:=h
 unfold pf
 rw[OJ (n:=e.2.1) (by omega),OJ (n:=e.2.2.1) (by omega)]
 simp
theorem Sq: ∀k:Fin 9,∃x,df (k.val:Int)=some x:=by
 intro k
 match k with
 | ⟨0,_⟩=>exact ⟨_,rfl⟩
 | ⟨1,_⟩=>exact ⟨_,rfl⟩
 | ⟨2,_⟩=>exact ⟨_,rfl⟩
 | ⟨3,_⟩=>exact ⟨_,rfl⟩
 | ⟨4,_⟩=>exact ⟨_,rfl⟩
 | ⟨5,_⟩=>exact ⟨_,rfl⟩
 | ⟨6,_⟩=>exact ⟨_,rfl⟩
 | ⟨7,_⟩=>exact ⟨_,rfl⟩
 | ⟨8,_⟩=>exact ⟨_,rfl⟩
theorem Hg (z:ByteArray): ∃r,dY z=some r:=by
 obtain ⟨o,e,h⟩:=cq (f:=iw z) (fun i s=>s=(i:Int)) (fun o=> ∀s,o≠ .nxt s) 9 (fun i s hi hI=>by
  subst hI
  unfold iw
  by_cases h1:i<9
  ·obtain ⟨x,ex⟩:=Sq ⟨i,h1⟩
   have ex:df (i:Int)=some x:=ex
   rw[if_pos (decide_eq_true (by omega)),ex]
   simp only[Option.bind_some]
   by_cases c:(x==z)=true
   ·rw[if_pos c];exact .inr ⟨_,rfl,fun s' h=>(by simp at h),fun s' h=>(by simp at h)⟩
   ·rw[if_neg c];exact .inl ⟨h1,_,rfl,ae (by omega)⟩
  ·obtain rfl:i=9:=by omega
   rw[if_neg (by decide)];exact .inr ⟨_,rfl,fun s' h=>(by simp at h),fun s' h=>(by simp at h)⟩) (s:=(0:Int)) rfl (fH _ (by omega))
 unfold dY
 rw[e]
 cases o with
 | nxt s=>exact absurd rfl (h s)
 | brk s=>exact ⟨_,rfl⟩
 | ret r=>exact ⟨_,rfl⟩
theorem Kj: ∀k:Fin 3,dY (mkB [UInt8.ofNat (97+k.val)])=some (2*(k.val:Int),true):=by
 intro k
 have hf:=fH 100 (by omega)
 obtain ⟨n,hn⟩: ∃n,aN=n+6:=⟨aN - 6,by omega⟩
 unfold dY
 rw[hn]
 match k with
 | ⟨0,_⟩=>rfl
 | ⟨1,_⟩=>rfl
 | ⟨2,_⟩=>rfl
theorem UJ: ∀d:Fin 5,IntKind.i64.wrap ((IntKind.i64.wrap (((UInt8.ofNat (48+d.val)).toNat:Nat):Int)) - 48)=(d.val:Int):=by decide
theorem UY: ∀d:Fin 3,IntKind.i64.wrap ((IntKind.i64.wrap (((UInt8.ofNat (97+d.val)).toNat:Nat):Int)) - 97)=(d.val:Int):=by decide
theorem UZ: ∀d:Fin 3,K8 (2*(d.val:Int)) 2=(d.val:Int):=by decide
def Ti (s:List UInt8) (r:EgT×Bool):Prop:=r=((0,0,0,0),false)∨r.2=true∧edOk r.1∧s=pf r.1
theorem OK {e:EgT} {s:List UInt8} (h:s≠ []): ∃r:EgT×Bool,(if (if edOk e then mkB (pf e) else mkB []) !=mkB s then (some ((0,0,0,0),false)) else (some (e,true)):Option (EgT×Bool))=some r∧Ti s r:=by
 by_cases k:edOk e
 ·rw[if_pos k]
  by_cases c:mkB (pf e)=mkB s
  ·rw[if_neg (by simp[c])];exact ⟨_,rfl,.inr ⟨rfl,k,(tq c).symm⟩⟩
  ·rw[if_pos (by simpa using c)];exact ⟨_,rfl,.inl rfl⟩
 ·rw[if_neg k,if_pos (by
   rw[bne_iff_ne]
   exact fun c=>h (tq c).symm)]
  exact ⟨_,rfl,.inl rfl⟩
theorem U0 (l:List UInt8) (hl:l.length≤1000000): ∃r,eK (mkB l)=some r∧Ti l r:=by
 unfold eK
 have ec:fA (mkB l) 58=some ((l6 58 [] l).map mkB):=se l 58 hl
 rw[ec];simp only[Option.bind_some]
 rcases pR 58 l with k | ⟨a,r,rfl,k⟩
 ·rw[k8 k];exact ⟨_,rfl,.inl rfl⟩
 ·rw[nF k]
  rcases pR 58 r with k2 | ⟨b,q,rfl,k2⟩
  ·rw[k8 k2]
   simp only[List.nil_append,List.map_cons,List.map_nil]
   have g0:aF [mkB a,mkB r] 0=some (mkB a):=rfl
   have g1:aF [mkB a,mkB r] 1=some (mkB r):=rfl
   rw[if_neg (by simp)]
   simp only[g0,g1,Option.bind_some,bc]
   by_cases h3:r.length=3
   ·obtain ⟨x,y,z,rfl⟩:=T0 h3
    obtain ⟨n,en,-,-⟩:=nE (mkB a)
    obtain ⟨t,et⟩:=Hg (mkB [y])
    have s1:oe (mkB [x,y,z]) 1 2=some (mkB [y]):=slB (l:=[x,y,z]) (a:=1) (b:=2) (by decide) (by simp)
    have a0:gG (mkB [x,y,z]) 0=some ((x.toNat:Nat):Int):=atB (l:=[x,y,z]) (i:=0) (by simp)
    have a2:gG (mkB [x,y,z]) 2=some ((z.toNat:Nat):Int):=atB (l:=[x,y,z]) (i:=2) (by simp)
    rw[if_neg (by simp),en,s1]
    simp only[Option.bind_some]
    rw[et,a0,a2]
    simp only[Option.bind_some]
    rw[Kf]
    simp only[Option.bind_some]
    exact OK (by simp)
   ·rw[if_pos (by rw[bne_iff_ne];omega)];exact ⟨_,rfl,.inl rfl⟩
  ·rw[nF k2]
   have:=Nk 58 [] q
   rw[if_pos (by rw[bne_iff_ne];simp only[List.length_map,List.length_cons];omega)]
   exact ⟨_,rfl,.inl rfl⟩
theorem U1 (l:List UInt8) (hl:l.length≤1000000): ∃r,eQ (mkB l)=some r∧Ti l r:=by
 unfold eQ
 rcases pR 58 l with k | ⟨a,r,rfl,k⟩
 ·have ec:b7 (mkB l) (⟨#[58]⟩)=some (mkB l,mkB [],false):=Nj hl k
  rw[ec];exact ⟨_,rfl,.inl rfl⟩
 ·have ec:b7 (mkB (a++58::r)) (⟨#[58]⟩)=some (mkB a,mkB r,true):=OG hl k
  rw[ec]
  simp only[Option.bind_some,bc]
  by_cases h3:r.length=3
  ·obtain ⟨x,y,z,rfl⟩:=T0 h3
   obtain ⟨n,-,en,-⟩:=nE (mkB a)
   have a0:gG (mkB [x,y,z]) 0=some ((x.toNat:Nat):Int):=atB (l:=[x,y,z]) (i:=0) (by simp)
   have a1:gG (mkB [x,y,z]) 1=some ((y.toNat:Nat):Int):=atB (l:=[x,y,z]) (i:=1) (by simp)
   have a2:gG (mkB [x,y,z]) 2=some ((z.toNat:Nat):Int):=atB (l:=[x,y,z]) (i:=2) (by simp)
   rw[if_neg (by simp),en,a0,a1,a2]
   simp only[Option.bind_some]
   rw[Kg]
   simp only[Option.bind_some]
   exact OK (by simp)
  ·rw[if_pos (by rw[bne_iff_ne];omega)];exact ⟨_,rfl,.inl rfl⟩
theorem QQ {e:EgT} (h:edOk e):eK (mkB (pf e))=some (e,true)∧eQ (mkB (pf e))=some (e,true):=by
 have hn:=pP h
 have he:=Ed h
 have hl:(pf e).length≤1000000:=by omega
 obtain ⟨h1,h2,h3,h4⟩:=id h
 obtain ⟨p1,p2⟩:=AC (n:=e.1) (by omega)
 have k:(58:UInt8)∉Lib.itoa e.1:=OI (by decide) (by decide)
 obtain ⟨f,hf,ef⟩: ∃k:Nat,k<5∧e.2.1=(k:Int):=⟨e.2.1.toNat,by omega,by omega⟩
 obtain ⟨t,ht,et⟩: ∃k:Nat,k<5∧e.2.2.1=(k:Int):=⟨e.2.2.1.toNat,by omega,by omega⟩
 obtain ⟨q,hq,eq⟩: ∃k:Nat,k<3∧e.2.2.2=(k:Int):=⟨e.2.2.2.toNat,by omega,by omega⟩
 have hx:pf e=Lib.itoa e.1++58:: [UInt8.ofNat (48+f),UInt8.ofNat (97+q),UInt8.ofNat (48+t)]:=by
  rw[he,ef,et,eq];rfl
 have k2:(58:UInt8) ∉ [UInt8.ofNat (48+f),UInt8.ofNat (97+q),UInt8.ofNat (48+t)]:=by
  have e1:(UInt8.ofNat (48+f)).toNat=48+f:=by simp;omega
  have e2:(UInt8.ofNat (97+q)).toNat=97+q:=by simp;omega
  have e3:(UInt8.ofNat (48+t)).toNat=48+t:=by simp;omega
  have e4:(58:UInt8).toNat=58:=rfl
  intro hm
  simp only[List.mem_cons,List.not_mem_nil,or_false] at hm
  rcases hm with hm | hm | hm <;> (have:=congrArg UInt8.toNat hm;omega)
 have a0:gG (mkB [UInt8.ofNat (48+f),UInt8.ofNat (97+q),UInt8.ofNat (48+t)]) 0=some (((UInt8.ofNat (48+f)).toNat:Nat):Int):=atB (l:=[UInt8.ofNat (48+f),UInt8.ofNat (97+q),UInt8.ofNat (48+t)]) (i:=0) (by simp)
 have a1:gG (mkB [UInt8.ofNat (48+f),UInt8.ofNat (97+q),UInt8.ofNat (48+t)]) 1=some (((UInt8.ofNat (97+q)).toNat:Nat):Int):=atB (l:=[UInt8.ofNat (48+f),UInt8.ofNat (97+q),UInt8.ofNat (48+t)]) (i:=1) (by simp)
 have a2:gG (mkB [UInt8.ofNat (48+f),UInt8.ofNat (97+q),UInt8.ofNat (48+t)]) 2=some (((UInt8.ofNat (48+t)).toNat:Nat):Int):=atB (l:=[UInt8.ofNat (48+f),UInt8.ofNat (97+q),UInt8.ofNat (48+t)]) (i:=2) (by simp)
 have s1:oe (mkB [UInt8.ofNat (48+f),UInt8.ofNat (97+q),UInt8.ofNat (48+t)]) 1 2=some (mkB [UInt8.ofNat (97+q)]):=slB (l:=[UInt8.ofNat (48+f),UInt8.ofNat (97+q),UInt8.ofNat (48+t)]) (a:=1) (b:=2) (by decide) (by simp)
 have v1:=UJ ⟨f,hf⟩
 have v2:=UJ ⟨t,ht⟩
 have v3:=UY ⟨q,hq⟩
 have v4:=UZ ⟨q,hq⟩
 have v5:=Kj ⟨q,hq⟩
 simp only at v1 v2 v3 v4 v5
 have ee:(e.1,(f:Int),(t:Int),(q:Int))=e:=by rw[←ef,←et,←eq]
 constructor
 ·unfold eK
  have ec:fA (mkB (pf e)) 58=some ((l6 58 [] (pf e)).map mkB):=se _ 58 hl
  rw[ec];simp only[Option.bind_some]
  rw[hx,nF k,k8 k2]
  simp only[List.nil_append,List.map_cons,List.map_nil]
  rw[if_neg (by simp)]
  have g0: ∀a b:ByteArray,aF [a,b] 0=some a:=fun a b=>rfl
  have g1: ∀a b:ByteArray,aF [a,b] 1=some b:=fun a b=>rfl
  simp only[g0,g1,Option.bind_some,bc]
  rw[if_neg (by simp),p1,s1]
  simp only[Option.bind_some]
  rw[v5,a0,a2]
  simp only[Option.bind_some]
  rw[v1,v2,v4,ee,Kf,if_pos h,←hx]
  simp
 ·unfold eQ
  have ec:b7 (mkB (pf e)) (⟨#[58]⟩)=some (mkB (Lib.itoa e.1),mkB [UInt8.ofNat (48+f),UInt8.ofNat (97+q),UInt8.ofNat (48+t)],true):=by
   rw[hx] at hl⊢
   exact OG hl k
  rw[ec]
  simp only[Option.bind_some,bc]
  rw[if_neg (by simp),p2,a0,a1,a2]
  simp only[Option.bind_some]
  rw[v1,v2,v3,ee,Kg,if_pos h]
  simp
theorem Kk (l:List UInt8) (hl:l.length≤1000000): ∃r,eK (mkB l)=some r∧eQ (mkB l)=some r∧Ti l r:=by
 by_cases h: ∃e:EgT,edOk e∧l=pf e
 ·obtain ⟨e,he,rfl⟩:=h
  exact ⟨_,(QQ he).1,(QQ he).2,.inr ⟨rfl,he,rfl⟩⟩
 ·obtain ⟨r1,e1,k1⟩:=U0 l hl
  obtain ⟨r2,e2,k2⟩:=U1 l hl
  rcases k1 with rfl | ⟨-,a,b⟩
  ·rcases k2 with rfl | ⟨-,a,b⟩
   ·exact ⟨_,e1,e2,.inl rfl⟩
   ·exact absurd ⟨_,a,b⟩ h
  ·exact absurd ⟨_,a,b⟩ h
end D
end Go.Proofs.YtilionjghdjbdaaGreatDoor
