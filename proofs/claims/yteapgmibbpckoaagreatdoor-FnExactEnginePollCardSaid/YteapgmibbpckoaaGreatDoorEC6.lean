/- FnExactEnginePoll: for every input the law returns true and changes nothing that was there. Part 7 of 9. -/
import Derived.Test.YteapgmibbpckoaaGreatDoorEC5
set_option synthInstance.maxSize 20000
set_option synthInstance.maxHeartbeats 2000000
set_option linter.unusedVariables false
set_option linter.unusedSimpArgs false
set_option linter.unnecessarySimpa false
set_option linter.unusedSectionVars false
set_option maxRecDepth 1000000
namespace Go.Proofs.YteapgmibbpckoaaGreatDoor
open Go.IntKind (i64)
namespace R
open Go.RowKit
open D
abbrev y3:Ty:=.int .i64
abbrev B9:Ty:=.prod y3 (.prod y3 (.prod y3 y3))
abbrev t271:Ty:=.tree 310 271 B9
abbrev ahx:Ty:=.prod y3 (.prod y3 y3)
abbrev y4:Ty:=.bool
abbrev Ju:Ty:=.prod y3 (.prod y3 (.prod y3 y3))
abbrev aiB:Ty:=.prod y4 Ju
abbrev aiC:Ty:=.sl 238 aiB
abbrev LZ:Ty:=.wr aiC
abbrev aiY:Ty:=.sl 161 LZ
abbrev ahy:Ty:=.prod y3 (.prod y3 (.prod y3 y3))
abbrev agP:Ty:=.sl 225 ahy
abbrev y65:Ty:=.sl 3 y3
abbrev agQ:Ty:=.prod y65 agP
abbrev y94:Ty:=.sl 4 y4
abbrev y95:Ty:=.sl 65 y65
abbrev agR:Ty:=.prod y3 (.prod y94 y95)
abbrev ahz:Ty:=.prod y3 (.prod y3 (.prod y3 y3))
abbrev agS:Ty:=.sl 267 ahz
abbrev agT:Ty:=.wr agS
abbrev agU:Ty:=.prod y3 (.prod agT y3)
abbrev Ql:Ty:=.sl 208 B9
abbrev w9:Ty:=.wr Ql
abbrev Gz:Ty:=.prod y3 (.prod w9 y3)
abbrev y9:Ty:=.str
abbrev ahA:Ty:=.sl 9 y9
abbrev Qm:Ty:=.prod y65 (.prod y3 (.prod y3 (.prod y65 y4)))
abbrev adA:Ty:=.prod y3 y4
abbrev afD:Ty:=.prod adA (.prod y3 y3)
abbrev aiD:Ty:=.sl 222 afD
abbrev y22:Ty:=.sl 129 agQ
abbrev y24:Ty:=.prod y3 y22
abbrev y25:Ty:=.sl 131 agR
abbrev aiE:Ty:=.prod y4 (.prod y3 y3)
abbrev y26:Ty:=.sl 137 agU
abbrev aiF:Ty:=.sl 220 adA
abbrev aiG:Ty:=.prod y3 (.prod y3 y4)
abbrev ahB:Ty:=.fro t271
abbrev y28:Ty:=.prod y25 y26
abbrev aiH:Ty:=.prod adA (.prod y3 y3)
abbrev ahC:Ty:=.sl 290 aiH
abbrev aiI:Ty:=.sl 288 ahC
abbrev y29:Ty:=.sl 106 ahx
abbrev afE:Ty:=.int .u64
abbrev y5:Ty:=.int .u8
abbrev aiZ:Ty:=.sl 5 y5
abbrev agV:Ty:=.sl 271 ahB
abbrev y31:Ty:=.prod y24 (.prod y28 (.prod y29 y9))
abbrev ai0:Ty:=.prod B9 agV
abbrev y75:Ty:=.prod y3 y3
abbrev y33:Ty:=.sl 75 y75
abbrev afF:Ty:=.int .u32
abbrev afG:Ty:=.int .u64
abbrev y66:Ty:=.sl 149 Ju
abbrev y68:Ty:=.prod y65 y66
abbrev y36:Ty:=.sl 68 y68
abbrev y38:Ty:=.prod y3 y36
abbrev y97:Ty:=.prod y3 (.prod y94 y95)
abbrev y39:Ty:=.sl 97 y97
abbrev y40:Ty:=.sl 146 Gz
abbrev y42:Ty:=.prod y39 y40
abbrev y84:Ty:=.prod y3 (.prod y3 y3)
abbrev y43:Ty:=.sl 84 y84
abbrev y45:Ty:=.prod y38 (.prod y42 (.prod y43 y9))
abbrev y53:Ty:=.prod y33 y33
abbrev y55:Ty:=.prod y3 (.prod y4 y53)
theorem ti3:TI Tryz.prog 3 false 1:=⟨⟨_,Tryz.underlying3,rfl⟩,by kernel_rfl⟩
theorem afH (c:Int) (h:Int) (g:Int) (a:Int) (e:Int) (d:Int) (f:Int) (b:Int) (w:World):EqT Tryz.prog 208 (.agg #[.int .i64 c,.int .i64 h,.int .i64 g,.int .i64 a]) (.agg #[.int .i64 e,.int .i64 d,.int .i64 f,.int .i64 b]) ((c==e)&&((h==d)&&((g==f)&&((a==b)&&true)))) w:=aap w Tryz.underlying208 (by kernel_rfl) (by kernel_rfl) (wF rfl (ue ti3 rfl) (ue ti3 rfl) (run_equalIn_int w 9998 3 _ _ _ _ Tryz.underlying3) (wF rfl (ue ti3 rfl) (ue ti3 rfl) (run_equalIn_int w 9998 3 _ _ _ _ Tryz.underlying3) (wF rfl (ue ti3 rfl) (ue ti3 rfl) (run_equalIn_int w 9998 3 _ _ _ _ Tryz.underlying3) (wF rfl (ue ti3 rfl) (ue ti3 rfl) (run_equalIn_int w 9998 3 _ _ _ _ Tryz.underlying3) (S5 w)))))
theorem ahD (a:Int) (d:Int) (c:Int) (b:Int) (w:World):EqT Tryz.prog 75 (.agg #[.int .i64 a,.int .i64 d]) (.agg #[.int .i64 c,.int .i64 b]) ((a==c)&&((d==b)&&true)) w:=aap w Tryz.underlying75 (by kernel_rfl) (by kernel_rfl) (wF rfl (ue ti3 rfl) (ue ti3 rfl) (run_equalIn_int w 9998 3 _ _ _ _ Tryz.underlying3) (wF rfl (ue ti3 rfl) (ue ti3 rfl) (run_equalIn_int w 9998 3 _ _ _ _ Tryz.underlying3) (S5 w)))
theorem mz3 (w:World):(zeroValue 3).run Tryz.prog w= .ok (.int .i64 0) w:=by kernel_rfl
theorem kk3:KeyOk Tryz.prog 3 (fun n:Int=>Value.int .i64 n) ab9 iOk:=aeS Tryz.underlying3
theorem ek3:EltOk Tryz.prog 3 (fun n:Int=>Value.int .i64 n) ab9 iOk 0:=aeT Tryz.underlying3 mz3
def tt:TT:=[(3,⟨false,1,none,y3,[],some 8,none,false,none,none,some (some .i64),false,none⟩),
 (4,⟨false,1,none,y4,[],some 1,none,true,none,none,none,false,none⟩),
 (5,⟨false,1,none,y5,[],some 1,none,false,none,none,some (some .u8),false,none⟩),
 (9,⟨false,1,none,y9,[],some 16,none,false,none,none,some none,false,none⟩),
 (22,⟨false,1,some 129,y22,[],some 24,none,false,none,none,none,false,none⟩),
 (24,⟨true,2,none,y24,[(0,0),(1,0)],some 32,some [(0,1),(1,1)],false,none,none,none,false,none⟩),
 (25,⟨false,1,some 131,y25,[],some 24,none,false,none,none,none,false,none⟩),
 (26,⟨false,1,some 137,y26,[],some 24,none,false,none,none,none,false,none⟩),
 (28,⟨true,2,none,y28,[(0,0),(1,0)],some 48,some [(0,1),(1,1)],false,none,none,none,false,none⟩),
 (29,⟨false,1,some 106,y29,[],some 24,none,false,none,none,none,false,none⟩),
 (31,⟨true,6,none,y31,[(0,1),(2,1),(4,0),(5,0)],some 120,some [(0,2),(2,2),(4,1),(5,1)],false,none,none,none,false,none⟩),
 (33,⟨false,1,some 75,y33,[],some 24,none,false,none,none,none,false,none⟩),
 (36,⟨false,1,some 68,y36,[],some 24,none,false,none,none,none,false,none⟩),
 (38,⟨true,2,none,y38,[(0,0),(1,0)],some 32,some [(0,1),(1,1)],false,none,none,none,false,none⟩),
 (39,⟨false,1,some 97,y39,[],some 24,none,false,none,none,none,false,none⟩),
 (40,⟨false,1,some 146,y40,[],some 24,none,false,none,none,none,false,none⟩),
 (42,⟨true,2,none,y42,[(0,0),(1,0)],some 48,some [(0,1),(1,1)],false,none,none,none,false,none⟩),
 (43,⟨false,1,some 84,y43,[],some 24,none,false,none,none,none,false,none⟩),
 (45,⟨true,6,none,y45,[(0,1),(2,1),(4,0),(5,0)],some 120,some [(0,2),(2,2),(4,1),(5,1)],false,none,none,none,false,none⟩),
 (53,⟨true,2,none,y53,[(0,0),(1,0)],some 48,some [(0,1),(1,1)],false,none,none,none,false,none⟩),
 (55,⟨true,4,none,y55,[(0,0),(1,0),(2,1)],some 64,some [(0,1),(1,1),(2,2)],false,none,none,none,false,none⟩),
 (65,⟨false,1,some 3,y65,[],some 24,none,false,none,none,none,false,none⟩),
 (66,⟨false,1,some 149,y66,[],some 24,none,false,none,none,none,false,none⟩),
 (68,⟨true,2,none,y68,[(0,0),(1,0)],some 48,some [(0,1),(1,1)],false,none,none,none,false,none⟩),
 (75,⟨true,2,none,y75,[(0,0),(1,0)],some 16,some [(0,1),(1,1)],false,some [some .i64,some .i64],none,none,false,none⟩),
 (84,⟨true,3,none,y84,[(0,0),(1,0),(2,0)],some 24,some [(0,1),(1,1),(2,1)],false,none,none,none,false,none⟩),
 (94,⟨false,1,some 4,y94,[],some 24,none,false,none,none,none,false,none⟩),
 (95,⟨false,1,some 65,y95,[],some 24,none,false,none,none,none,false,none⟩),
 (97,⟨true,3,none,y97,[(0,0),(1,0),(2,0)],some 56,some [(0,1),(1,1),(2,1)],false,none,none,none,false,none⟩),
 (106,⟨true,3,none,ahx,[(0,0),(1,0),(2,0)],some 24,some [(0,1),(1,1),(2,1)],false,none,none,none,false,none⟩),
 (109,⟨false,1,some 161,aiY,[],some 24,none,false,none,none,none,false,none⟩),
 (124,⟨false,1,none,.bool,[],none,none,false,none,none,none,true,none⟩),
 (127,⟨false,1,some 225,agP,[],some 24,none,false,none,none,none,false,none⟩),
 (129,⟨true,2,none,agQ,[(0,0),(1,0)],some 48,some [(0,1),(1,1)],false,none,none,none,false,none⟩),
 (131,⟨true,3,none,agR,[(0,0),(1,0),(2,0)],some 56,some [(0,1),(1,1),(2,1)],false,none,none,none,false,none⟩),
 (133,⟨false,1,some 267,agS,[],some 24,none,false,none,none,none,false,none⟩),
 (135,⟨true,1,none,agT,[(0,0)],some 24,some [(0,1)],false,none,none,none,false,none⟩),
 (137,⟨true,3,none,agU,[(0,0),(1,0),(2,0)],some 40,some [(0,1),(1,1),(2,1)],false,none,none,none,false,none⟩),
 (142,⟨false,1,some 208,Ql,[],some 24,none,false,none,none,none,false,none⟩),
 (144,⟨true,1,none,w9,[(0,0)],some 24,some [(0,1)],false,none,none,none,false,none⟩),
 (146,⟨true,3,none,Gz,[(0,0),(1,0),(2,0)],some 40,some [(0,1),(1,1),(2,1)],false,none,none,none,false,none⟩),
 (149,⟨true,4,none,Ju,[(0,0),(1,0),(2,0),(3,0)],some 32,some [(0,1),(1,1),(2,1),(3,1)],false,none,none,none,false,none⟩),
 (155,⟨false,1,none,.bool,[],none,none,false,none,none,none,true,none⟩),
 (157,⟨false,1,none,.bool,[],none,none,false,none,none,none,true,none⟩),
 (159,⟨false,1,some 238,aiC,[],some 24,none,false,none,none,none,false,none⟩),
 (161,⟨true,1,none,LZ,[(0,0)],some 24,some [(0,1)],false,none,none,none,false,none⟩),
 (167,⟨false,1,none,.bool,[],none,none,false,none,none,none,true,none⟩),
 (168,⟨false,1,none,.bool,[],none,none,false,none,none,none,true,none⟩),
 (186,⟨false,1,none,.bool,[],none,none,false,none,none,none,true,none⟩),
 (196,⟨false,1,some 9,ahA,[],some 24,none,false,none,none,none,false,none⟩),
 (208,⟨true,4,none,B9,[(0,0),(1,0),(2,0),(3,0)],some 32,some [(0,1),(1,1),(2,1),(3,1)],false,some [some .i64,some .i64,some .i64,some .i64],none,none,false,none⟩),
 (212,⟨true,5,none,Qm,[(0,0),(1,0),(2,0),(3,0),(4,0)],some 72,some [(0,1),(1,1),(2,1),(3,1),(4,1)],false,none,none,none,false,none⟩),
 (217,⟨false,1,some 222,aiD,[],some 24,none,false,none,none,none,false,none⟩),
 (220,⟨true,2,none,adA,[(0,0),(1,0)],some 16,some [(0,1),(1,1)],false,none,none,none,false,none⟩),
 (222,⟨true,4,none,afD,[(0,1),(2,0),(3,0)],some 32,some [(0,2),(2,1),(3,1)],false,none,none,none,false,none⟩),
 (225,⟨true,4,none,ahy,[(0,0),(1,0),(2,0),(3,0)],some 32,some [(0,1),(1,1),(2,1),(3,1)],false,none,none,none,false,none⟩),
 (238,⟨true,5,none,aiB,[(0,0),(1,3)],some 40,some [(0,1),(1,4)],false,none,none,none,false,none⟩),
 (250,⟨false,1,none,.bool,[],none,none,false,none,none,none,true,none⟩),
 (254,⟨true,3,none,aiE,[(0,0),(1,0),(2,0)],some 24,some [(0,1),(1,1),(2,1)],false,none,none,none,false,none⟩),
 (262,⟨false,1,some 220,aiF,[],some 24,none,false,none,none,none,false,none⟩),
 (267,⟨true,4,none,ahz,[(0,0),(1,0),(2,0),(3,0)],some 32,some [(0,1),(1,1),(2,1),(3,1)],false,none,none,none,false,none⟩),
 (269,⟨true,3,none,aiG,[(0,0),(1,0),(2,0)],some 24,some [(0,1),(1,1),(2,1)],false,none,none,none,false,none⟩),
 (271,⟨false,1,none,ahB,[],some 8,none,false,none,none,none,false,some 310⟩),
 (274,⟨false,1,none,.bool,[],none,none,false,none,none,none,true,none⟩),
 (276,⟨false,1,none,.bool,[],none,none,false,none,none,none,true,none⟩),
 (286,⟨false,1,some 288,aiI,[],some 24,none,false,none,none,none,false,none⟩),
 (288,⟨false,1,some 290,ahC,[],some 24,none,false,none,none,none,false,none⟩),
 (290,⟨true,4,none,aiH,[(0,1),(2,0),(3,0)],some 32,some [(0,2),(2,1),(3,1)],false,none,none,none,false,none⟩),
 (294,⟨false,1,none,afE,[],some 8,none,false,none,none,some (some .u64),false,none⟩),
 (298,⟨false,1,none,.bool,[],none,none,false,none,none,none,true,none⟩),
 (304,⟨false,1,some 5,aiZ,[],some 24,none,false,none,none,none,false,none⟩),
 (308,⟨false,1,some 271,agV,[],some 24,none,false,none,none,none,false,none⟩),
 (310,⟨true,5,none,ai0,[(0,3),(4,0)],some 56,some [(0,4),(4,1)],false,none,none,none,false,none⟩),
 (314,⟨false,1,none,.bool,[],none,none,false,none,some ⟨3,3,.int,.int⟩,none,false,none⟩),
 (316,⟨false,1,none,.bool,[],none,none,false,none,none,none,true,none⟩),
 (342,⟨false,1,none,afF,[],some 4,none,false,none,none,some (some .u32),false,none⟩),
 (344,⟨false,1,none,afG,[],some 8,none,false,none,none,some (some .u64),false,none⟩),
 (384,⟨false,1,none,.bool,[],none,none,false,none,none,none,true,none⟩)]
theorem Y9:TTok Tryz.prog tt:=⟨yt (n:=1) (z:=.int .i64 0) ⟨⟨_,Tryz.underlying3,rfl⟩,by kernel_rfl⟩ rfl (by unfold TZ;kernel_rfl) rfl (bd rfl) (fun h=>by cases h) (fun k h=>by obtain rfl:=ae h;exact Tryz.underlying3),
 yt (n:=1) (z:=.bool false) ⟨⟨_,Tryz.underlying4,rfl⟩,by kernel_rfl⟩ rfl (by unfold TZ;kernel_rfl) rfl (bd rfl) (fun h=>Tryz.underlying4) (fun k h=>by cases h),
 yt (n:=1) (z:=.int .u8 0) ⟨⟨_,Tryz.underlying5,rfl⟩,by kernel_rfl⟩ rfl (by unfold TZ;kernel_rfl) rfl (bd rfl) (fun h=>by cases h) (fun k h=>by obtain rfl:=ae h;exact Tryz.underlying5),
 yt (n:=1) (z:=.string ⟨#[]⟩) ⟨⟨_,Tryz.underlying9,rfl⟩,by kernel_rfl⟩ rfl (by unfold TZ;kernel_rfl) rfl (bd rfl) (fun h=>by cases h) (fun k h=>by obtain rfl:=ae h;exact Tryz.underlying9),
 px ⟨⟨_,Tryz.underlying22,rfl⟩,by kernel_rfl⟩ Tryz.underlying22 (by unfold TZ;kernel_rfl),
 kP (z:=.agg #[.int .i64 0,.slice none 0 0]) ⟨⟨_,Tryz.underlying24,rfl⟩,by kernel_rfl⟩ rfl ⟨⟨_,_,Tryz.underlying24,rfl,rfl,by kernel_rfl⟩,⟨_,_,Tryz.underlying24,rfl,rfl,by kernel_rfl⟩,trivial⟩ (by unfold TZ;kernel_rfl) rfl (bd rfl) ⟨_,Tryz.underlying24,by kernel_rfl⟩ (fun a h=>by cases h),
 px ⟨⟨_,Tryz.underlying25,rfl⟩,by kernel_rfl⟩ Tryz.underlying25 (by unfold TZ;kernel_rfl),
 px ⟨⟨_,Tryz.underlying26,rfl⟩,by kernel_rfl⟩ Tryz.underlying26 (by unfold TZ;kernel_rfl),
 kP (z:=.agg #[.slice none 0 0,.slice none 0 0]) ⟨⟨_,Tryz.underlying28,rfl⟩,by kernel_rfl⟩ rfl ⟨⟨_,_,Tryz.underlying28,rfl,rfl,by kernel_rfl⟩,⟨_,_,Tryz.underlying28,rfl,rfl,by kernel_rfl⟩,trivial⟩ (by unfold TZ;kernel_rfl) rfl (bd rfl) ⟨_,Tryz.underlying28,by kernel_rfl⟩ (fun a h=>by cases h),
 px ⟨⟨_,Tryz.underlying29,rfl⟩,by kernel_rfl⟩ Tryz.underlying29 (by unfold TZ;kernel_rfl),
 kP (z:=.agg #[.int .i64 0,.slice none 0 0,.slice none 0 0,.slice none 0 0,.slice none 0 0,.string ⟨#[]⟩]) ⟨⟨_,Tryz.underlying31,rfl⟩,by kernel_rfl⟩ rfl ⟨⟨_,_,Tryz.underlying31,rfl,rfl,by kernel_rfl⟩,⟨_,_,Tryz.underlying31,rfl,rfl,by kernel_rfl⟩,⟨_,_,Tryz.underlying31,rfl,rfl,by kernel_rfl⟩,⟨_,_,Tryz.underlying31,rfl,rfl,by kernel_rfl⟩,trivial⟩ (by unfold TZ;kernel_rfl) rfl (bd rfl) ⟨_,Tryz.underlying31,by kernel_rfl⟩ (fun a h=>by cases h),
 px ⟨⟨_,Tryz.underlying33,rfl⟩,by kernel_rfl⟩ Tryz.underlying33 (by unfold TZ;kernel_rfl),
 px ⟨⟨_,Tryz.underlying36,rfl⟩,by kernel_rfl⟩ Tryz.underlying36 (by unfold TZ;kernel_rfl),
 kP (z:=.agg #[.int .i64 0,.slice none 0 0]) ⟨⟨_,Tryz.underlying38,rfl⟩,by kernel_rfl⟩ rfl ⟨⟨_,_,Tryz.underlying38,rfl,rfl,by kernel_rfl⟩,⟨_,_,Tryz.underlying38,rfl,rfl,by kernel_rfl⟩,trivial⟩ (by unfold TZ;kernel_rfl) rfl (bd rfl) ⟨_,Tryz.underlying38,by kernel_rfl⟩ (fun a h=>by cases h),
 px ⟨⟨_,Tryz.underlying39,rfl⟩,by kernel_rfl⟩ Tryz.underlying39 (by unfold TZ;kernel_rfl),
 px ⟨⟨_,Tryz.underlying40,rfl⟩,by kernel_rfl⟩ Tryz.underlying40 (by unfold TZ;kernel_rfl),
 kP (z:=.agg #[.slice none 0 0,.slice none 0 0]) ⟨⟨_,Tryz.underlying42,rfl⟩,by kernel_rfl⟩ rfl ⟨⟨_,_,Tryz.underlying42,rfl,rfl,by kernel_rfl⟩,⟨_,_,Tryz.underlying42,rfl,rfl,by kernel_rfl⟩,trivial⟩ (by unfold TZ;kernel_rfl) rfl (bd rfl) ⟨_,Tryz.underlying42,by kernel_rfl⟩ (fun a h=>by cases h),
 px ⟨⟨_,Tryz.underlying43,rfl⟩,by kernel_rfl⟩ Tryz.underlying43 (by unfold TZ;kernel_rfl),
 kP (z:=.agg #[.int .i64 0,.slice none 0 0,.slice none 0 0,.slice none 0 0,.slice none 0 0,.string ⟨#[]⟩]) ⟨⟨_,Tryz.underlying45,rfl⟩,by kernel_rfl⟩ rfl ⟨⟨_,_,Tryz.underlying45,rfl,rfl,by kernel_rfl⟩,⟨_,_,Tryz.underlying45,rfl,rfl,by kernel_rfl⟩,⟨_,_,Tryz.underlying45,rfl,rfl,by kernel_rfl⟩,⟨_,_,Tryz.underlying45,rfl,rfl,by kernel_rfl⟩,trivial⟩ (by unfold TZ;kernel_rfl) rfl (bd rfl) ⟨_,Tryz.underlying45,by kernel_rfl⟩ (fun a h=>by cases h),
 kP (z:=.agg #[.slice none 0 0,.slice none 0 0]) ⟨⟨_,Tryz.underlying53,rfl⟩,by kernel_rfl⟩ rfl ⟨⟨_,_,Tryz.underlying53,rfl,rfl,by kernel_rfl⟩,⟨_,_,Tryz.underlying53,rfl,rfl,by kernel_rfl⟩,trivial⟩ (by unfold TZ;kernel_rfl) rfl (bd rfl) ⟨_,Tryz.underlying53,by kernel_rfl⟩ (fun a h=>by cases h),
 kP (z:=.agg #[.int .i64 0,.bool false,.slice none 0 0,.slice none 0 0]) ⟨⟨_,Tryz.underlying55,rfl⟩,by kernel_rfl⟩ rfl ⟨⟨_,_,Tryz.underlying55,rfl,rfl,by kernel_rfl⟩,⟨_,_,Tryz.underlying55,rfl,rfl,by kernel_rfl⟩,⟨_,_,Tryz.underlying55,rfl,rfl,by kernel_rfl⟩,trivial⟩ (by unfold TZ;kernel_rfl) rfl (bd rfl) ⟨_,Tryz.underlying55,by kernel_rfl⟩ (fun a h=>by cases h),
 px ⟨⟨_,Tryz.underlying65,rfl⟩,by kernel_rfl⟩ Tryz.underlying65 (by unfold TZ;kernel_rfl),
 px ⟨⟨_,Tryz.underlying66,rfl⟩,by kernel_rfl⟩ Tryz.underlying66 (by unfold TZ;kernel_rfl),
 kP (z:=.agg #[.slice none 0 0,.slice none 0 0]) ⟨⟨_,Tryz.underlying68,rfl⟩,by kernel_rfl⟩ rfl ⟨⟨_,_,Tryz.underlying68,rfl,rfl,by kernel_rfl⟩,⟨_,_,Tryz.underlying68,rfl,rfl,by kernel_rfl⟩,trivial⟩ (by unfold TZ;kernel_rfl) rfl (bd rfl) ⟨_,Tryz.underlying68,by kernel_rfl⟩ (fun a h=>by cases h),
 kP (z:=.agg #[.int .i64 0,.int .i64 0]) ⟨⟨_,Tryz.underlying75,rfl⟩,by kernel_rfl⟩ rfl ⟨⟨_,_,Tryz.underlying75,rfl,rfl,by kernel_rfl⟩,⟨_,_,Tryz.underlying75,rfl,rfl,by kernel_rfl⟩,trivial⟩ (by unfold TZ;kernel_rfl) rfl (bd rfl) ⟨_,Tryz.underlying75,by kernel_rfl⟩ (fun a h=>by obtain rfl:=ae h;exact fun w g d f c=>ahD g f d c w),
 kP (z:=.agg #[.int .i64 0,.int .i64 0,.int .i64 0]) ⟨⟨_,Tryz.underlying84,rfl⟩,by kernel_rfl⟩ rfl ⟨⟨_,_,Tryz.underlying84,rfl,rfl,by kernel_rfl⟩,⟨_,_,Tryz.underlying84,rfl,rfl,by kernel_rfl⟩,⟨_,_,Tryz.underlying84,rfl,rfl,by kernel_rfl⟩,trivial⟩ (by unfold TZ;kernel_rfl) rfl (bd rfl) ⟨_,Tryz.underlying84,by kernel_rfl⟩ (fun a h=>by cases h),
 px ⟨⟨_,Tryz.underlying94,rfl⟩,by kernel_rfl⟩ Tryz.underlying94 (by unfold TZ;kernel_rfl),
 px ⟨⟨_,Tryz.underlying95,rfl⟩,by kernel_rfl⟩ Tryz.underlying95 (by unfold TZ;kernel_rfl),
 kP (z:=.agg #[.int .i64 0,.slice none 0 0,.slice none 0 0]) ⟨⟨_,Tryz.underlying97,rfl⟩,by kernel_rfl⟩ rfl ⟨⟨_,_,Tryz.underlying97,rfl,rfl,by kernel_rfl⟩,⟨_,_,Tryz.underlying97,rfl,rfl,by kernel_rfl⟩,⟨_,_,Tryz.underlying97,rfl,rfl,by kernel_rfl⟩,trivial⟩ (by unfold TZ;kernel_rfl) rfl (bd rfl) ⟨_,Tryz.underlying97,by kernel_rfl⟩ (fun a h=>by cases h),
 kP (z:=.agg #[.int .i64 0,.int .i64 0,.int .i64 0]) ⟨⟨_,Tryz.underlying106,rfl⟩,by kernel_rfl⟩ rfl ⟨⟨_,_,Tryz.underlying106,rfl,rfl,by kernel_rfl⟩,⟨_,_,Tryz.underlying106,rfl,rfl,by kernel_rfl⟩,⟨_,_,Tryz.underlying106,rfl,rfl,by kernel_rfl⟩,trivial⟩ (by unfold TZ;kernel_rfl) rfl (bd rfl) ⟨_,Tryz.underlying106,by kernel_rfl⟩ (fun a h=>by cases h),
 px ⟨⟨_,Tryz.underlying109,rfl⟩,by kernel_rfl⟩ Tryz.underlying109 (by unfold TZ;kernel_rfl),
 CH (ty:=.bool) (b:=8) ⟨⟨_,Tryz.underlying124,rfl⟩,by kernel_rfl⟩ rfl (by unfold TZ;kernel_rfl),
 px ⟨⟨_,Tryz.underlying127,rfl⟩,by kernel_rfl⟩ Tryz.underlying127 (by unfold TZ;kernel_rfl),
 kP (z:=.agg #[.slice none 0 0,.slice none 0 0]) ⟨⟨_,Tryz.underlying129,rfl⟩,by kernel_rfl⟩ rfl ⟨⟨_,_,Tryz.underlying129,rfl,rfl,by kernel_rfl⟩,⟨_,_,Tryz.underlying129,rfl,rfl,by kernel_rfl⟩,trivial⟩ (by unfold TZ;kernel_rfl) rfl (bd rfl) ⟨_,Tryz.underlying129,by kernel_rfl⟩ (fun a h=>by cases h),
 kP (z:=.agg #[.int .i64 0,.slice none 0 0,.slice none 0 0]) ⟨⟨_,Tryz.underlying131,rfl⟩,by kernel_rfl⟩ rfl ⟨⟨_,_,Tryz.underlying131,rfl,rfl,by kernel_rfl⟩,⟨_,_,Tryz.underlying131,rfl,rfl,by kernel_rfl⟩,⟨_,_,Tryz.underlying131,rfl,rfl,by kernel_rfl⟩,trivial⟩ (by unfold TZ;kernel_rfl) rfl (bd rfl) ⟨_,Tryz.underlying131,by kernel_rfl⟩ (fun a h=>by cases h),
 px ⟨⟨_,Tryz.underlying133,rfl⟩,by kernel_rfl⟩ Tryz.underlying133 (by unfold TZ;kernel_rfl),
 kP (z:=.agg #[.slice none 0 0]) ⟨⟨_,Tryz.underlying135,rfl⟩,by kernel_rfl⟩ rfl ⟨⟨_,_,Tryz.underlying135,rfl,rfl,by kernel_rfl⟩,trivial⟩ (by unfold TZ;kernel_rfl) rfl (bd rfl) ⟨_,Tryz.underlying135,by kernel_rfl⟩ (fun a h=>by cases h),
 kP (z:=.agg #[.int .i64 0,.slice none 0 0,.int .i64 0]) ⟨⟨_,Tryz.underlying137,rfl⟩,by kernel_rfl⟩ rfl ⟨⟨_,_,Tryz.underlying137,rfl,rfl,by kernel_rfl⟩,⟨_,_,Tryz.underlying137,rfl,rfl,by kernel_rfl⟩,⟨_,_,Tryz.underlying137,rfl,rfl,by kernel_rfl⟩,trivial⟩ (by unfold TZ;kernel_rfl) rfl (bd rfl) ⟨_,Tryz.underlying137,by kernel_rfl⟩ (fun a h=>by cases h),
 px ⟨⟨_,Tryz.underlying142,rfl⟩,by kernel_rfl⟩ Tryz.underlying142 (by unfold TZ;kernel_rfl),
 kP (z:=.agg #[.slice none 0 0]) ⟨⟨_,Tryz.underlying144,rfl⟩,by kernel_rfl⟩ rfl ⟨⟨_,_,Tryz.underlying144,rfl,rfl,by kernel_rfl⟩,trivial⟩ (by unfold TZ;kernel_rfl) rfl (bd rfl) ⟨_,Tryz.underlying144,by kernel_rfl⟩ (fun a h=>by cases h),
 kP (z:=.agg #[.int .i64 0,.slice none 0 0,.int .i64 0]) ⟨⟨_,Tryz.underlying146,rfl⟩,by kernel_rfl⟩ rfl ⟨⟨_,_,Tryz.underlying146,rfl,rfl,by kernel_rfl⟩,⟨_,_,Tryz.underlying146,rfl,rfl,by kernel_rfl⟩,⟨_,_,Tryz.underlying146,rfl,rfl,by kernel_rfl⟩,trivial⟩ (by unfold TZ;kernel_rfl) rfl (bd rfl) ⟨_,Tryz.underlying146,by kernel_rfl⟩ (fun a h=>by cases h),
 kP (z:=.agg #[.int .i64 0,.int .i64 0,.int .i64 0,.int .i64 0]) ⟨⟨_,Tryz.underlying149,rfl⟩,by kernel_rfl⟩ rfl ⟨⟨_,_,Tryz.underlying149,rfl,rfl,by kernel_rfl⟩,⟨_,_,Tryz.underlying149,rfl,rfl,by kernel_rfl⟩,⟨_,_,Tryz.underlying149,rfl,rfl,by kernel_rfl⟩,⟨_,_,Tryz.underlying149,rfl,rfl,by kernel_rfl⟩,trivial⟩ (by unfold TZ;kernel_rfl) rfl (bd rfl) ⟨_,Tryz.underlying149,by kernel_rfl⟩ (fun a h=>by cases h),
 CH (ty:=.bool) (b:=8) ⟨⟨_,Tryz.underlying155,rfl⟩,by kernel_rfl⟩ rfl (by unfold TZ;kernel_rfl),
 CH (ty:=.bool) (b:=8) ⟨⟨_,Tryz.underlying157,rfl⟩,by kernel_rfl⟩ rfl (by unfold TZ;kernel_rfl),
 px ⟨⟨_,Tryz.underlying159,rfl⟩,by kernel_rfl⟩ Tryz.underlying159 (by unfold TZ;kernel_rfl),
 kP (z:=.agg #[.slice none 0 0]) ⟨⟨_,Tryz.underlying161,rfl⟩,by kernel_rfl⟩ rfl ⟨⟨_,_,Tryz.underlying161,rfl,rfl,by kernel_rfl⟩,trivial⟩ (by unfold TZ;kernel_rfl) rfl (bd rfl) ⟨_,Tryz.underlying161,by kernel_rfl⟩ (fun a h=>by cases h),
 CH (ty:=.bool) (b:=8) ⟨⟨_,Tryz.underlying167,rfl⟩,by kernel_rfl⟩ rfl (by unfold TZ;kernel_rfl),
 CH (ty:=.bool) (b:=8) ⟨⟨_,Tryz.underlying168,rfl⟩,by kernel_rfl⟩ rfl (by unfold TZ;kernel_rfl),
 CH (ty:=.bool) (b:=8) ⟨⟨_,Tryz.underlying186,rfl⟩,by kernel_rfl⟩ rfl (by unfold TZ;kernel_rfl),
 px ⟨⟨_,Tryz.underlying196,rfl⟩,by kernel_rfl⟩ Tryz.underlying196 (by unfold TZ;kernel_rfl),
 kP (z:=.agg #[.int .i64 0,.int .i64 0,.int .i64 0,.int .i64 0]) ⟨⟨_,Tryz.underlying208,rfl⟩,by kernel_rfl⟩ rfl ⟨⟨_,_,Tryz.underlying208,rfl,rfl,by kernel_rfl⟩,⟨_,_,Tryz.underlying208,rfl,rfl,by kernel_rfl⟩,⟨_,_,Tryz.underlying208,rfl,rfl,by kernel_rfl⟩,⟨_,_,Tryz.underlying208,rfl,rfl,by kernel_rfl⟩,trivial⟩ (by unfold TZ;kernel_rfl) rfl (bd rfl) ⟨_,Tryz.underlying208,by kernel_rfl⟩ (fun a h=>by obtain rfl:=ae h;exact fun w g d f c l o i j=>afH g f l i d c o j w),
 kP (z:=.agg #[.slice none 0 0,.int .i64 0,.int .i64 0,.slice none 0 0,.bool false]) ⟨⟨_,Tryz.underlying212,rfl⟩,by kernel_rfl⟩ rfl ⟨⟨_,_,Tryz.underlying212,rfl,rfl,by kernel_rfl⟩,⟨_,_,Tryz.underlying212,rfl,rfl,by kernel_rfl⟩,⟨_,_,Tryz.underlying212,rfl,rfl,by kernel_rfl⟩,⟨_,_,Tryz.underlying212,rfl,rfl,by kernel_rfl⟩,⟨_,_,Tryz.underlying212,rfl,rfl,by kernel_rfl⟩,trivial⟩ (by unfold TZ;kernel_rfl) rfl (bd rfl) ⟨_,Tryz.underlying212,by kernel_rfl⟩ (fun a h=>by cases h),
 px ⟨⟨_,Tryz.underlying217,rfl⟩,by kernel_rfl⟩ Tryz.underlying217 (by unfold TZ;kernel_rfl),
 kP (z:=.agg #[.int .i64 0,.bool false]) ⟨⟨_,Tryz.underlying220,rfl⟩,by kernel_rfl⟩ rfl ⟨⟨_,_,Tryz.underlying220,rfl,rfl,by kernel_rfl⟩,⟨_,_,Tryz.underlying220,rfl,rfl,by kernel_rfl⟩,trivial⟩ (by unfold TZ;kernel_rfl) rfl (bd rfl) ⟨_,Tryz.underlying220,by kernel_rfl⟩ (fun a h=>by cases h),
 kP (z:=.agg #[.int .i64 0,.bool false,.int .i64 0,.int .i64 0]) ⟨⟨_,Tryz.underlying222,rfl⟩,by kernel_rfl⟩ rfl ⟨⟨_,_,Tryz.underlying222,rfl,rfl,by kernel_rfl⟩,⟨_,_,Tryz.underlying222,rfl,rfl,by kernel_rfl⟩,⟨_,_,Tryz.underlying222,rfl,rfl,by kernel_rfl⟩,trivial⟩ (by unfold TZ;kernel_rfl) rfl (bd rfl) ⟨_,Tryz.underlying222,by kernel_rfl⟩ (fun a h=>by cases h),
 kP (z:=.agg #[.int .i64 0,.int .i64 0,.int .i64 0,.int .i64 0]) ⟨⟨_,Tryz.underlying225,rfl⟩,by kernel_rfl⟩ rfl ⟨⟨_,_,Tryz.underlying225,rfl,rfl,by kernel_rfl⟩,⟨_,_,Tryz.underlying225,rfl,rfl,by kernel_rfl⟩,⟨_,_,Tryz.underlying225,rfl,rfl,by kernel_rfl⟩,⟨_,_,Tryz.underlying225,rfl,rfl,by kernel_rfl⟩,trivial⟩ (by unfold TZ;kernel_rfl) rfl (bd rfl) ⟨_,Tryz.underlying225,by kernel_rfl⟩ (fun a h=>by cases h),
 kP (z:=.agg #[.bool false,.int .i64 0,.int .i64 0,.int .i64 0,.int .i64 0]) ⟨⟨_,Tryz.underlying238,rfl⟩,by kernel_rfl⟩ rfl ⟨⟨_,_,Tryz.underlying238,rfl,rfl,by kernel_rfl⟩,⟨_,_,Tryz.underlying238,rfl,rfl,by kernel_rfl⟩,trivial⟩ (by unfold TZ;kernel_rfl) rfl (bd rfl) ⟨_,Tryz.underlying238,by kernel_rfl⟩ (fun a h=>by cases h),
 CH (ty:=.bool) (b:=8) ⟨⟨_,Tryz.underlying250,rfl⟩,by kernel_rfl⟩ rfl (by unfold TZ;kernel_rfl),
 kP (z:=.agg #[.bool false,.int .i64 0,.int .i64 0]) ⟨⟨_,Tryz.underlying254,rfl⟩,by kernel_rfl⟩ rfl ⟨⟨_,_,Tryz.underlying254,rfl,rfl,by kernel_rfl⟩,⟨_,_,Tryz.underlying254,rfl,rfl,by kernel_rfl⟩,⟨_,_,Tryz.underlying254,rfl,rfl,by kernel_rfl⟩,trivial⟩ (by unfold TZ;kernel_rfl) rfl (bd rfl) ⟨_,Tryz.underlying254,by kernel_rfl⟩ (fun a h=>by cases h),
 px ⟨⟨_,Tryz.underlying262,rfl⟩,by kernel_rfl⟩ Tryz.underlying262 (by unfold TZ;kernel_rfl),
 kP (z:=.agg #[.int .i64 0,.int .i64 0,.int .i64 0,.int .i64 0]) ⟨⟨_,Tryz.underlying267,rfl⟩,by kernel_rfl⟩ rfl ⟨⟨_,_,Tryz.underlying267,rfl,rfl,by kernel_rfl⟩,⟨_,_,Tryz.underlying267,rfl,rfl,by kernel_rfl⟩,⟨_,_,Tryz.underlying267,rfl,rfl,by kernel_rfl⟩,⟨_,_,Tryz.underlying267,rfl,rfl,by kernel_rfl⟩,trivial⟩ (by unfold TZ;kernel_rfl) rfl (bd rfl) ⟨_,Tryz.underlying267,by kernel_rfl⟩ (fun a h=>by cases h),
 kP (z:=.agg #[.int .i64 0,.int .i64 0,.bool false]) ⟨⟨_,Tryz.underlying269,rfl⟩,by kernel_rfl⟩ rfl ⟨⟨_,_,Tryz.underlying269,rfl,rfl,by kernel_rfl⟩,⟨_,_,Tryz.underlying269,rfl,rfl,by kernel_rfl⟩,⟨_,_,Tryz.underlying269,rfl,rfl,by kernel_rfl⟩,trivial⟩ (by unfold TZ;kernel_rfl) rfl (bd rfl) ⟨_,Tryz.underlying269,by kernel_rfl⟩ (fun a h=>by cases h),
 ahw (e:=310) (E:=271) (u:=B9) ⟨⟨_,Tryz.underlying271,rfl⟩,by kernel_rfl⟩ Tryz.underlying271 (by unfold TZ;kernel_rfl),
 CH (ty:=.bool) (b:=8) ⟨⟨_,Tryz.underlying274,rfl⟩,by kernel_rfl⟩ rfl (by unfold TZ;kernel_rfl),
 CH (ty:=.bool) (b:=8) ⟨⟨_,Tryz.underlying276,rfl⟩,by kernel_rfl⟩ rfl (by unfold TZ;kernel_rfl),
 px ⟨⟨_,Tryz.underlying286,rfl⟩,by kernel_rfl⟩ Tryz.underlying286 (by unfold TZ;kernel_rfl),
 px ⟨⟨_,Tryz.underlying288,rfl⟩,by kernel_rfl⟩ Tryz.underlying288 (by unfold TZ;kernel_rfl),
 kP (z:=.agg #[.int .i64 0,.bool false,.int .i64 0,.int .i64 0]) ⟨⟨_,Tryz.underlying290,rfl⟩,by kernel_rfl⟩ rfl ⟨⟨_,_,Tryz.underlying290,rfl,rfl,by kernel_rfl⟩,⟨_,_,Tryz.underlying290,rfl,rfl,by kernel_rfl⟩,⟨_,_,Tryz.underlying290,rfl,rfl,by kernel_rfl⟩,trivial⟩ (by unfold TZ;kernel_rfl) rfl (bd rfl) ⟨_,Tryz.underlying290,by kernel_rfl⟩ (fun a h=>by cases h),
 yt (n:=1) (z:=.int .u64 0) ⟨⟨_,Tryz.underlying294,rfl⟩,by kernel_rfl⟩ rfl (by unfold TZ;kernel_rfl) rfl (bd rfl) (fun h=>by cases h) (fun k h=>by obtain rfl:=ae h;exact Tryz.underlying294),
 CH (ty:=.bool) (b:=8) ⟨⟨_,Tryz.underlying298,rfl⟩,by kernel_rfl⟩ rfl (by unfold TZ;kernel_rfl),
 px ⟨⟨_,Tryz.underlying304,rfl⟩,by kernel_rfl⟩ Tryz.underlying304 (by unfold TZ;kernel_rfl),
 px ⟨⟨_,Tryz.underlying308,rfl⟩,by kernel_rfl⟩ Tryz.underlying308 (by unfold TZ;kernel_rfl),
 kP (z:=.agg #[.int .i64 0,.int .i64 0,.int .i64 0,.int .i64 0,.slice none 0 0]) ⟨⟨_,Tryz.underlying310,rfl⟩,by kernel_rfl⟩ rfl ⟨⟨_,_,Tryz.underlying310,rfl,rfl,by kernel_rfl⟩,⟨_,_,Tryz.underlying310,rfl,rfl,by kernel_rfl⟩,trivial⟩ (by unfold TZ;kernel_rfl) rfl (bd rfl) ⟨_,Tryz.underlying310,by kernel_rfl⟩ (fun a h=>by cases h),
 ahv (m:=⟨3,3,.int,.int⟩) (ty:=.bool) ⟨⟨_,Tryz.underlying314,rfl⟩,by kernel_rfl⟩ rfl ⟨Tryz.underlying314,kk3,ek3⟩,
 CH (ty:=.bool) (b:=8) ⟨⟨_,Tryz.underlying316,rfl⟩,by kernel_rfl⟩ rfl (by unfold TZ;kernel_rfl),
 yt (n:=1) (z:=.int .u32 0) ⟨⟨_,Tryz.underlying342,rfl⟩,by kernel_rfl⟩ rfl (by unfold TZ;kernel_rfl) rfl (bd rfl) (fun h=>by cases h) (fun k h=>by obtain rfl:=ae h;exact Tryz.underlying342),
 yt (n:=1) (z:=.int .u64 0) ⟨⟨_,Tryz.underlying344,rfl⟩,by kernel_rfl⟩ rfl (by unfold TZ;kernel_rfl) rfl (bd rfl) (fun h=>by cases h) (fun k h=>by obtain rfl:=ae h;exact Tryz.underlying344),
 CH (ty:=.bool) (b:=8) ⟨⟨_,Tryz.underlying384,rfl⟩,by kernel_rfl⟩ rfl (by unfold TZ;kernel_rfl),trivial⟩
theorem mixed:Tryz.prog.follows .mixedOrders=true:=by kernel_rfl
def aa5 (fn:Func):Code:=match fn.body with
 | some c=>c
 | none=>.skip
theorem fk {k:FuncId} {fn:Func} {f:FS} (ft:FT) (hF:FTok Tryz.prog ft) (hf:Tryz.prog.funcs[k]? =some fn) (ann:Ann) (an:List (Nat×Ty):=[]) (tr:Trs:=[]) (hb:fn.body=some (aa5 fn):=by rfl) (he:(fn.name == "runtime.NumGoroutine")=false:=by kernel_rfl) (hcl:f.cl=none:=by rfl) (hm:Nat.ble f.ps.length fn.ntmps=true:=by rfl) (hdp:(I2 f.rs&&zr f.ps)=true:=by rfl)
  (hmod: ∀d,appP f.ps f.m d=nH ⟨tt,ft,an,fn.ntmps,tr⟩ (RK ⟨tt,ft,an,fn.ntmps,tr⟩ fn.results.toList f.rs f.ps d) (aa5 fn) ann (fun r=>some r) (fun _ _=>none) (RK ⟨tt,ft,an,fn.ntmps,tr⟩ fn.results.toList f.rs f.ps d) (tn (B5 f.ps d)):=by intro d;kernel_rfl):FOk Tryz.prog k f:=
 fok (V:=⟨tt,ft,an,fn.ntmps,tr⟩) Y9 hF mixed hf hb rfl (enters_of hf he hb) hcl (bd hm) hdp ann hmod
def Be:FS:=⟨[.rd y65,.rd y3],[y3],wP,none⟩
def Eo:FS:=⟨[.rd agP,.rd y3],[y3],yu,none⟩
def Ep:FS:=⟨[.rd agQ,.rd y3],[y3],tx,none⟩
def Ca:FS:=⟨[.rd y22,.rd y3],[y3],vu,none⟩
def zJ:FS:=⟨[.rd y24,.rd y3],[y3],pP,none⟩
def Er:FS:=⟨[.rd y94,.rd y3],[y3],yw,none⟩
def Es:FS:=⟨[.rd y95,.rd y3],[y3],yx,none⟩
def vB:FS:=⟨[.rd agR,.rd y3],[y3],mH,none⟩
def uj:FS:=⟨[.rd y25,.rd y3],[y3],py,none⟩
def Cb:FS:=⟨[.rd agS,.rd y3],[y3],vv,none⟩
def HT:FS:=⟨[.rd agT,.rd y3],[y3],wQ,none⟩
def uk:FS:=⟨[.rd agU,.rd y3],[y3],ln,none⟩
def sG:FS:=⟨[.rd y26,.rd y3],[y3],nP,none⟩
def xx:FS:=⟨[.rd y28,.rd y3],[y3],ou,none⟩
def sH:FS:=⟨[.rd y29,.rd y3],[y3],nQ,none⟩
def Cc:FS:=⟨[.rd y31,.rd y3],[y3],rA,none⟩
def Bf:FS:=⟨[.rd y65],[y65],sC,none⟩
def HU:FS:=⟨[.rd ahy],[Ju],wR,none⟩
def Et:FS:=⟨[.rd agP],[y66],tz,none⟩
def Eu:FS:=⟨[.rd agQ],[y68],tC,none⟩
def Cd:FS:=⟨[.rd y22],[y36],rB,none⟩
def zK:FS:=⟨[.rd y24],[y38],pR,none⟩
def Ev:FS:=⟨[.rd y94],[y94],tD,none⟩
def Ew:FS:=⟨[.rd y95],[y95],tE,none⟩
def vC:FS:=⟨[.rd agR],[y97],mJ,none⟩
def um:FS:=⟨[.rd y25],[y39],lp,none⟩
def Ex:FS:=⟨[.rd ahz],[B9],tF,none⟩
def Ce:FS:=⟨[.rd agS],[Ql],rC,none⟩
def HV:FS:=⟨[.rd agT],[w9],wS,none⟩
def uo:FS:=⟨[.rd agU],[Gz],lq,none⟩
def sI:FS:=⟨[.rd y26],[y40],ko,none⟩
def xy:FS:=⟨[.rd y28],[y42],oA,none⟩
def uq:FS:=⟨[.rd ahx],[y84],lr,none⟩
def sJ:FS:=⟨[.rd y29],[y43],kp,none⟩
def Cf:FS:=⟨[.rd y31],[y45],jG,none⟩
def Bg:FS:=⟨[.rd y65,.rd y65],[y4],wT,none⟩
def HW:FS:=⟨[.rd Ju,.rd Ju],[y4],wU,none⟩
def Ey:FS:=⟨[.rd y66,.rd y66],[y4],yy,none⟩
def Ez:FS:=⟨[.rd y68,.rd y68],[y4],tG,none⟩
def Cg:FS:=⟨[.rd y36,.rd y36],[y4],vx,none⟩
def zL:FS:=⟨[.rd y38,.rd y38],[y4],pT,none⟩
def EA:FS:=⟨[.rd y94,.rd y94],[y4],yz,none⟩
def EB:FS:=⟨[.rd y95,.rd y95],[y4],yA,none⟩
def vD:FS:=⟨[.rd y97,.rd y97],[y4],mM,none⟩
def ur:FS:=⟨[.rd y39,.rd y39],[y4],pz,none⟩
def EC:FS:=⟨[.rd B9,.rd B9],[y4],tH,none⟩
def Ci:FS:=⟨[.rd Ql,.rd Ql],[y4],vy,none⟩
def HY:FS:=⟨[.rd w9,.rd w9],[y4],wV,none⟩
def uu:FS:=⟨[.rd Gz,.rd Gz],[y4],lu,none⟩
def sK:FS:=⟨[.rd y40,.rd y40],[y4],nR,none⟩
def xz:FS:=⟨[.rd y42,.rd y42],[y4],oE,none⟩
def uv:FS:=⟨[.rd y84,.rd y84],[y4],lx,none⟩
def sL:FS:=⟨[.rd y43,.rd y43],[y4],nS,none⟩
def Cj:FS:=⟨[.rd y45,.rd y45],[y4],jH,none⟩
def vE:FS:=⟨[.ow y65,.rd y3],[y3],oY,none⟩
def zM:FS:=⟨[.ow y66,.rd y3],[y3],pU,none⟩
def xA:FS:=⟨[.ow y36,.rd y3],[y3],oF,none⟩
def vF:FS:=⟨[.ow y38,.rd y3],[y3],mP,none⟩
def zN:FS:=⟨[.ow y94,.rd y3],[y3],pV,none⟩
def zO:FS:=⟨[.ow y95,.rd y3],[y3],pW,none⟩
def rI:FS:=⟨[.ow y39,.rd y3],[y3],jn,none⟩
def xB:FS:=⟨[.ow Ql,.rd y3],[y3],oG,none⟩
def qU:FS:=⟨[.ow y40,.rd y3],[y3],iC,none⟩
def uw:FS:=⟨[.ow y42,.rd y3],[y3],lC,none⟩
def qV:FS:=⟨[.ow y43,.rd y3],[y3],iD,none⟩
def xC:FS:=⟨[.ow y45,.rd y3],[y3],gi,none⟩
def kH:FS:=⟨[.rd y3,.rd y3,.rd y3],[y4],cn,none⟩
def HZ:FS:=⟨[.rd y68,.rd Ju],[y4],HS,none⟩
def lS:FS:=⟨[.rd y68],[y4],bS,none⟩
def zP:FS:=⟨[.rd y65,.rd y65],[y3],qF,none⟩
def fV:FS:=⟨[.rd y38],[y4],m_s_IsValidHistory,none⟩
def xa:FS:=⟨[.rd Ql],[w9],jd,none⟩
def vG:FS:=⟨[.rd y3],[y4],oZ,none⟩
def yE:FS:=⟨[.rd B9],[y3],qG,none⟩
def H0:FS:=⟨[.rd w9],[y4],wW,none⟩
def vH:FS:=⟨[.rd w9],[y4],mQ,none⟩
def tT:FS:=⟨[.rd Ql],[y3],jI,none⟩
def tU (n:Nat):FS:=⟨[.rd Ql],[y3],eX n,none⟩
def Bh:FS:=⟨[.rd w9,.rd w9,.rd B9],[w9],nT,none⟩
def H1:FS:=⟨[.rd y3],[w9],wX,none⟩
def rJ (n:Nat):FS:=⟨[.rd w9,.rd y3,.rd y3],[w9],o0 n,none⟩
def qc (n:Nat):FS:=⟨[.rd Ql],[w9],dw n,none⟩
def xD:FS:=⟨[.rd w9],[w9,y4],oJ,none⟩
def ED:FS:=⟨[.ptr 212 Qm,.rd y3,.rd y3],[],qH,none⟩
def rK (n:Nat):FS:=⟨[.ptr 212 Qm,.rd Ql],[aiE],dW n,none⟩
def rL:FS:=⟨[.rd w9],[Qm,y4],jo,none⟩
def Ck:FS:=⟨[.rd Qm,.rd y3,.rd y3],[y3],rE,none⟩
def yF:FS:=⟨[.rd y65,.rd y3],[y3],qI,none⟩
def xE:FS:=⟨[.rd Qm,.rd y3],[y4],oK,none⟩
def xF:FS:=⟨[.rd Qm,.rd y3],[y97,y4],kR,none⟩
def xG:FS:=⟨[],[y97],sf,none⟩
def zQ:FS:=⟨[.rd y97,.rd y65,.rd y94],[y97],kz,none⟩
def yG:FS:=⟨[.rd y97],[y94],nU,none⟩
def H2:FS:=⟨[.rd y97,.rd y65,.rd y3],[y65],sD,none⟩
def xH:FS:=⟨[.rd y97],[y65],kT,none⟩
def vI:FS:=⟨[.rd y97],[y97],gN,none⟩
def vJ:FS:=⟨[.rd w9],[y97,y4],jL,none⟩
def n9:FS:=⟨[.rd y97,.rd y97],[y4],gO,none⟩
def Cl:FS:=⟨[.rd y39,.rd y97],[y3],rF,none⟩
def Cm:FS:=⟨[.rd y40],[y42,y4],rG,none⟩
def xI:FS:=⟨[.rd w9,.rd w9],[y4],si,none⟩
def qW:FS:=⟨[.rd y42,.rd y42],[y4],iE,none⟩
def iQ:FS:=⟨[.rd y42],[y4],c8,none⟩
def qd:FS:=⟨[.rd y42,.rd y3],[y3],fJ,none⟩
def gY:FS:=⟨[.rd y38],[y3],bC,none⟩
def EE:FS:=⟨[.rd y45],[y4],yB,none⟩
def zR:FS:=⟨[.rd y9,.rd y5],[ahA],jN,none⟩
def qe:FS:=⟨[.rd y3],[y9],cz,none⟩
def vK:FS:=⟨[.rd y9],[y3,y4],ij,none⟩
def pC:FS:=⟨[.rd y3],[y9],iX,none⟩
def vL:FS:=⟨[.rd y9],[y3,y4],jP,none⟩
def sn:FS:=⟨[.rd Ju],[y9],kU,none⟩
def zS:FS:=⟨[.rd y9],[Ju,y4],iF,none⟩
def qX:FS:=⟨[.rd LZ],[y9],dx,none⟩
def xJ:FS:=⟨[.rd y9],[LZ,y4],gj,none⟩
def Cn:FS:=⟨[.rd y9],[y3],il,none⟩
def uy:FS:=⟨[.rd y3,.rd LZ],[y9],fB,none⟩
def uz:FS:=⟨[.rd y9],[y3,LZ,y4],lE,none⟩
def EF:FS:=⟨[.rd y9],[y65,.sl 161 (.bag LZ),y3],m_s_ScanLog,none⟩
def H3:FS:=⟨[.rd y45],[y4],Bd,none⟩
def sM:FS:=⟨[.rd y45],[y4],kB,none⟩
def Bi:FS:=⟨[.rd y68],[y68],nW,none⟩
def H4:FS:=⟨[.rd y38],[y38],wY,none⟩
def yH:FS:=⟨[.rd y97],[y97],qJ,none⟩
def EG:FS:=⟨[.rd y42],[y42],tJ,none⟩
def EH:FS:=⟨[.rd y45],[y45],tK,none⟩
def EI:FS:=⟨[.rd y43,.rd y3],[y3],tL,none⟩
def EJ:FS:=⟨[.rd y38,.rd y42,.rd y84],[y4],nX,none⟩
def rM:FS:=⟨[.rd y42,.rd y3],[y97,y4],eF,none⟩
def EK:FS:=⟨[.rd y97],[y4],qK,none⟩
def pJ:FS:=⟨[.rd y97],[y4],cJ,none⟩
def EL:FS:=⟨[.rd y68,.rd y97,.rd y3,.rd y3],[y4],jQ,none⟩
def so:FS:=⟨[.rd y97,.rd y3,.rd y3],[y3],cU,none⟩
def H5:FS:=⟨[.rd y68,.rd y3],[aiF],sE,none⟩
def zT:FS:=⟨[.rd y68,.rd y3],[y3],kC,none⟩
def zU:FS:=⟨[.rd Ju,.rd y4],[y3],iG,none⟩
def L4:FS:=⟨[.rd Ju,.rd y4],[y3],qL,none⟩
def Co:FS:=⟨[.rd y68,.rd y97,.rd y3,.rd y3],[aiD],o6,none⟩
def Cp:FS:=⟨[.rd y68,.rd y97,.rd y3],[y65],o7,none⟩
def xK:FS:=⟨[.rd y68,.rd y97,.rd y3,.rd y3],[y4],kY,none⟩
def L5:FS:=⟨[.rd y3],[y65],zG,none⟩
def EM:FS:=⟨[.rd y68,.rd y97,.rd y3],[y65],qM,none⟩
def xL:FS:=⟨[.rd y68,.rd y97],[y33],jf,none⟩
def uA:FS:=⟨[.rd y42,.rd y68,.rd y3],[y33,y4],cY,none⟩
def EN:FS:=⟨[.rd y38,.rd y3],[y68,y4],jX,none⟩
def H6:FS:=⟨[.rd y33,.rd y75],[y4],wZ,none⟩
def EO:FS:=⟨[.rd y75,.rd y75],[y4],tM,none⟩
def H7:FS:=⟨[.eat (.sl 75 y75),.rd y75],[y33],w4,none⟩
def sN:FS:=⟨[.rd y33,.rd y33],[y33],gR,none⟩
def uB:FS:=⟨[.rd y33,.rd y33],[y53],lF,none⟩
def xM:FS:=⟨[.rd y38,.rd y42,.rd y84,.rd y3],[y55],jg,none⟩
def vM:FS:=⟨[.rd y38,.rd y42,.rd y84],[y55,y84,y4],eY,none⟩
def xN:FS:=⟨[.rd y45,.rd y3],[y45,y55,y4],oP,none⟩
def fG:FS:=⟨[.rd y3,.rd y3,.rd y3],[y4],bN,none⟩
def Bj:FS:=⟨[.rd Ju,.rd y3],[y4],mb,none⟩
def lT:FS:=⟨[.rd y68],[y4],ba,none⟩
def dD:FS:=⟨[.rd y65,.rd y65],[y4],cH,none⟩
def fW:FS:=⟨[.rd y38],[y4],m_i_IsValidHistory,none⟩
def vN:FS:=⟨[.rd w9],[w9],im,none⟩
def vO:FS:=⟨[.rd y3],[y4],mc,none⟩
def EP:FS:=⟨[.rd B9],[y4],tN,none⟩
def bJ:FS:=⟨[.rd agV],[agV],fun _=>none,some (271,8)⟩
def xb:FS:=⟨[.rd w9],[t271],qo,none⟩
def H8:FS:=⟨[.rd w9],[y4],w5,none⟩
def vP:FS:=⟨[.rd w9],[y4],mU,none⟩
def oW (n:Nat):FS:=⟨[.rd t271],[y3],cV n,none⟩
def Qn:FS:=⟨[.rd y3],[t271],Jt,none⟩
def rN (n:Nat):FS:=⟨[.eat t271,.rd y3,.rd y3],[t271],o9 n,none⟩
def nl (n:Nat):FS:=⟨[.rd t271],[t271],ct n,none⟩
def lU (n:Nat):FS:=⟨[.rd t271,.ptr 144 w9],[],b8 n,none⟩
def zV:FS:=⟨[.rd t271],[w9],tP,none⟩
def xO:FS:=⟨[.rd w9],[w9,y4],oQ,none⟩
def pK:FS:=⟨[.ptr 212 Qm,.rd y3,.rd y3],[],eL,none⟩
def iR (n:Nat):FS:=⟨[.ptr 212 Qm,.rd t271],[aiG],bG n,none⟩
def rO:FS:=⟨[.rd w9],[Qm,y4],jq,none⟩
def pD:FS:=⟨[.rd y3,.rd y3,.fn [y3] [y4],.fn [y3,y3] [y3,y4]],[y97,y4],fC,none⟩
def pe:FS:=⟨[.rd Qm,.rd y3],[y4],ej,none⟩
def qY:FS:=⟨[.rd Qm,.rd y3,.rd y3],[y3],iH,none⟩
def sO:FS:=⟨[.rd y3,.rd y3,.cap 212 Qm],[y3,y4],dM,none⟩
def vQ:FS:=⟨[.rd Qm,.rd y3],[y97,y4],jY,none⟩
def bO:FS:=⟨[.rd y94],[y94],fun _=>none,some (4,1)⟩
def rP:FS:=⟨[.rd y97],[y94],fM,none⟩
def fv:FS:=⟨[.rd y95,.fn [y65] [y4]],[y3],b9,none⟩
def nI:FS:=⟨[.rd y65,.cap 65 y65],[y4],jk,none⟩
def pL:FS:=⟨[.rd y97,.rd y65],[y65,y3],eM,none⟩
def pf:FS:=⟨[.rd y97],[y65],ez,none⟩
def qZ:FS:=⟨[.rd afF,.rd afF],[afF,afF],yC,none⟩
def q7:FS:=⟨[.rd afG,.rd afG],[afG,afG],qN,none⟩
def sP:FS:=⟨[.rd afE,.rd afE],[afE,afE],sF,none⟩
def fg:FS:=⟨[.rd y65,.rd y3],[y65],cx,none⟩
def ER:FS:=⟨[],[y97],yD,none⟩
def kM:FS:=⟨[.rd y65,.rd y3],[y3],fx,none⟩
def mf:FS:=⟨[.rd y3,.cap 65 y65],[y3],bc,none⟩
def mg:FS:=⟨[.rd y3,.cap 97 y97,.capf 316 [y3] [y3]],[y4],df,none⟩
def jt:FS:=⟨[.rd y97,.rd y3,.rd y3],[y3],bX,none⟩
def mi:FS:=⟨[.rd y3,.rd y3,.cap 97 y97,.capf 316 [y3] [y3],.cap 65 y65],[y3,y4],dh,none⟩
def nJ:FS:=⟨[.rd y97],[y97],cP,none⟩
def L6:FS:=⟨[.rd y97],[y97,y4],En,none⟩
def vR:FS:=⟨[.rd w9],[y97,y4],j4,none⟩
def dB:FS:=⟨[.rd y39,.fn [y97] [y4]],[y3],bD,none⟩
def ju:FS:=⟨[.rd y94,.rd y94],[y4],eP,none⟩
def cO:FS:=⟨[.rd y95,.rd y95,.fn [y65,y65] [y4]],[y4],bL,none⟩
def q8:FS:=⟨[.rd y65,.rd y65],[y4],iI,none⟩
def oc:FS:=⟨[.rd y97,.rd y97],[y4],eV,none⟩
def Cq:FS:=⟨[.rd y97,.cap 97 y97],[y4],pb,none⟩
def H9:FS:=⟨[.rd y40],[y42,y4],w6,none⟩
def bI:FS:=⟨[.rd y39,.rd y39,.fn [y97,y97] [y4]],[y4],aY,none⟩
def bE:FS:=⟨[.rd y40,.rd y40,.fn [Gz,Gz] [y4]],[y4],aV,none⟩
def iu:FS:=⟨[.rd Ql,.rd Ql],[y4],eA,none⟩
def xP:FS:=⟨[.rd w9,.rd w9],[y4],oR,none⟩
def uC:FS:=⟨[.rd Gz,.rd Gz],[y4],iY,none⟩
def q9:FS:=⟨[.rd y42,.rd y42],[y4],iJ,none⟩
def iS:FS:=⟨[.rd y42],[y4],db,none⟩
def kI:FS:=⟨[.rd y38],[y3],cB,none⟩
def dn:FS:=⟨[.rd y40,.fn [Gz] [y4]],[y3],bZ,none⟩
def vS:FS:=⟨[.rd Gz,.cap 3 y3],[y4],mW,none⟩
def qf:FS:=⟨[.rd y42,.rd y3],[y3],fN,none⟩
def pg:FS:=⟨[.rd y9,.rd y5],[.int .i64],fO,none⟩
def od:FS:=⟨[.rd y9,.rd y9],[.sl 9 .str],di,none⟩
def vT:FS:=⟨[.rd y9],[.int .i64,.bool],ir,none⟩
def vU:FS:=⟨[.rd y9,.rd y9],[.str,.str,.bool],dA,none⟩
def uD:FS:=⟨[.rd y3],[.str],pB,none⟩
def tV:FS:=⟨[.rd y3],[y9],dR,none⟩
def sp:FS:=⟨[.rd Ju],[y9],k7,none⟩
def zW:FS:=⟨[.rd y9],[Ju,y4],iK,none⟩
def uE:FS:=⟨[.rd ahA,.rd y9],[.str],lG,none⟩
def ra:FS:=⟨[.rd LZ],[y9],fa,none⟩
def xQ:FS:=⟨[.rd y9],[LZ,y4],gk,none⟩
def Cr:FS:=⟨[.rd y9],[y3],me,none⟩
def uF:FS:=⟨[.rd y3,.rd LZ],[y9],iZ,none⟩
def uG:FS:=⟨[.rd y9],[y3,LZ,y4],lH,none⟩
def ES:FS:=⟨[.rd y9],[y65,.sl 161 (.bag LZ),y3],m_i_ScanLog,none⟩
def sQ:FS:=⟨[.rd y45],[y4],kD,none⟩
def rQ:FS:=⟨[.rd y65],[y65],j5,none⟩
def tW:FS:=⟨[.rd y68],[y68],iL,none⟩
def vV:FS:=⟨[.rd y38],[y38],mX,none⟩
def oe:FS:=⟨[.rd y97],[y97],gT,none⟩
def uH:FS:=⟨[.rd y42],[y42],lI,none⟩
def xR:FS:=⟨[.rd y45],[y45],oS,none⟩
def dq:FS:=⟨[.rd y43,.fn [y84] [y4]],[y3],aT,none⟩
def uI:FS:=⟨[.rd y84,.cap 3 y3],[y4],lJ,none⟩
def xS:FS:=⟨[.rd y45,.rd y3],[y3],sj,none⟩
def ET:FS:=⟨[.rd y38,.rd y42,.rd y84],[y4],qP,none⟩
def rR:FS:=⟨[.rd y42,.rd y3],[y97,y4],fR,none⟩
def pM:FS:=⟨[.rd y97],[y4],cd,none⟩
def Bk:FS:=⟨[.rd y68,.rd y97,.rd y65],[y4],cQ,none⟩
def Ia:FS:=⟨[.rd y95,.rd y65],[y65],w7,none⟩
def tX:FS:=⟨[.rd y3],[y65],j6,none⟩
def L7:FS:=⟨[.rd Ju,.rd y4],[y3],vz,none⟩
def Qo:FS:=⟨[.rd y68],[aiI],zH,none⟩
def yI:FS:=⟨[.rd y97,.rd y3,.rd y3],[y3],lZ,none⟩
def L8:FS:=⟨[.rd y97,.rd y3,.rd y3,.rd y3],[y3],vA,none⟩
def uJ:FS:=⟨[.rd y68,.rd y97],[y95],fD,none⟩
def sR:FS:=⟨[.rd y68,.rd y97,.rd y3],[y65],gU,some (0,7)⟩
def zX:FS:=⟨[.rd y97,.rd y3,.rd y3],[y4],nc,none⟩
def lf:FS:=⟨[.ow (.sl 3 y3)],[],gl,none⟩
def jv:FS:=⟨[.eat (.sl 3 y3)],[.sl 3 y3],dj,none⟩
def zY:FS:=⟨[.rd y65],[y65],nf,none⟩
def vW:FS:=⟨[.rd y68,.rd y97,.rd y3],[y65],j8,none⟩
def xT:FS:=⟨[.rd y68,.rd y97],[y33],gm,none⟩
def uK:FS:=⟨[.rd y42,.rd y68,.rd y3],[y33,y4],fF,none⟩
def EU:FS:=⟨[.rd y38,.rd y3],[y68,y4],qR,none⟩
def zZ:FS:=⟨[.rd y38,.rd y42,.rd y3,.rd y3],[y33,y4],iN,none⟩
def gu:FS:=⟨[.rd y33,.fn [y75] [y4]],[y3],bP,none⟩
def fX:FS:=⟨[.eat (.sl 75 y75),.fn [y75] [y4]],[.sl 75 y75],cj,none⟩
def gZ:FS:=⟨[.ow (.sl 75 y75),.fk 273],[],dP,none⟩
def vX:FS:=⟨[.rd y3,.rd y3],[y3],qS,none⟩
def uL:FS:=⟨[.rd y75,.rd y75],[y3],CI,none⟩
def iw:FS:=⟨[.eat (.sl 75 y75)],[.sl 75 y75],cM,none⟩
def EV:FS:=⟨[.rd y33],[y33],tQ,none⟩
def jw:FS:=⟨[.rd y33,.rd y75],[y3],dk,none⟩
def hY:FS:=⟨[.rd y33,.rd y75],[y4],cF,none⟩
def rb:FS:=⟨[.rd y75,.cap 33 y33],[y4],l5,none⟩
def sS:FS:=⟨[.rd y33,.rd y33],[y33],gW,none⟩
def uM:FS:=⟨[.rd y33,.rd y33],[y53],lL,none⟩
def EW:FS:=⟨[.rd y38,.rd y42,.rd y84,.rd y3],[y55,y84,y4],qT,none⟩
def vY:FS:=⟨[.rd y38,.rd y42,.rd y84],[y55,y84,y4],j9,none⟩
def xU:FS:=⟨[.rd y45,.rd y3],[y45,y55,y4],k9,none⟩
def Ib:FS:=⟨[.rd y75,.rd y75],[y4],w8,none⟩
def EX:FS:=⟨[.rd y33,.rd y33],[y4],tR,none⟩
def EY:FS:=⟨[.rd y53,.rd y53],[y4],tS,none⟩
def Aa:FS:=⟨[.rd y55,.rd y55],[y4],kE,none⟩
def Ab:FS:=⟨[.ow y33,.rd y3],[y3],ng,none⟩
def Ac:FS:=⟨[.ow y53,.rd y3],[y3],p7,none⟩
def vZ:FS:=⟨[.ow y55,.rd y3],[y3],nh,none⟩
def v7:FS:=⟨[.rd y65,.rd y3],[y3],pd,none⟩
def Ad:FS:=⟨[.rd y66,.rd y3],[y3],p8,none⟩
def xV:FS:=⟨[.rd y36,.rd y3],[y3],oU,none⟩
def v8:FS:=⟨[.rd y38,.rd y3],[y3],nj,none⟩
def Ae:FS:=⟨[.rd y94,.rd y3],[y3],p9,none⟩
def Af:FS:=⟨[.rd y95,.rd y3],[y3],qa,none⟩
def rS:FS:=⟨[.rd y39,.rd y3],[y3],jr,none⟩
def xW:FS:=⟨[.rd Ql,.rd y3],[y3],oV,none⟩
def re:FS:=⟨[.rd y40,.rd y3],[y3],iO,none⟩
def uN:FS:=⟨[.rd y42,.rd y3],[y3],lQ,none⟩
def rf:FS:=⟨[.rd y43,.rd y3],[y3],iP,none⟩
def xX:FS:=⟨[.rd y45,.rd y3],[y3],jh,none⟩
def Ag:FS:=⟨[.rd y33,.rd y3],[y3],nk,none⟩
def Ah:FS:=⟨[.rd y53,.rd y3],[y3],qb,none⟩
def wc:FS:=⟨[.rd y55,.rd y3],[y3],gX,none⟩
def we:FS:=⟨[.rd y31,.rd y3],[y4],fU,none⟩
theorem Ic:FOk Tryz.prog 142 Be:=fk [] trivial Tryz.func142 .no
theorem N4:FOk Tryz.prog 143 Eo:=fk [] trivial Tryz.func143 .no
theorem N5:FOk Tryz.prog 93 Ep:=fk [(142,Be),(143,Eo)] ⟨Ic,N4,trivial⟩ Tryz.func93 .no
theorem L9:FOk Tryz.prog 50 Ca:=fk [(93,Ep)] ⟨N5,trivial⟩ Tryz.func50 (.t (.t (.t (.two (.t (.loop [.s 1,.s 5] .no)) .no))))
theorem Jv:FOk Tryz.prog 20 zJ:=fk [(50,Ca)] ⟨L9,trivial⟩ Tryz.func20 .no
theorem N6:FOk Tryz.prog 144 Er:=fk [] trivial Tryz.func144 .no
theorem N7:FOk Tryz.prog 145 Es:=fk [(142,Be)] ⟨Ic,trivial⟩ Tryz.func145 (.t (.t (.t (.two (.t (.loop [.s 1,.s 5] .no)) .no))))
theorem EZ:FOk Tryz.prog 94 vB:=fk [(144,Er),(145,Es)] ⟨N6,N7,trivial⟩ Tryz.func94 .no
theorem CJ:FOk Tryz.prog 51 uj:=fk [(94,vB)] ⟨EZ,trivial⟩ Tryz.func51 (.t (.t (.t (.two (.t (.loop [.s 1,.s 5] .no)) .no))))
theorem Ma:FOk Tryz.prog 186 Cb:=fk [] trivial Tryz.func186 .no
theorem RO:FOk Tryz.prog 146 HT:=fk [(186,Cb)] ⟨Ma,trivial⟩ Tryz.func146 .no
theorem CK:FOk Tryz.prog 95 uk:=fk [(146,HT)] ⟨RO,trivial⟩ Tryz.func95 .no
theorem Bl:FOk Tryz.prog 52 sG:=fk [(95,uk)] ⟨CK,trivial⟩ Tryz.func52 (.t (.t (.t (.two (.t (.loop [.s 1,.s 5] .no)) .no))))
theorem GB:FOk Tryz.prog 21 xx:=fk [(51,uj),(52,sG)] ⟨CJ,Bl,trivial⟩ Tryz.func21 .no
theorem Bm:FOk Tryz.prog 22 sH:=fk [] trivial Tryz.func22 .no
theorem Mb:FOk Tryz.prog 5 Cc:=fk [(20,zJ),(21,xx),(22,sH)] ⟨Jv,GB,Bm,trivial⟩ Tryz.func5 .no
theorem Ie:FOk Tryz.prog 156 Bf:=fk [] trivial Tryz.func156 (.t (.t (.two (.t (.loop [.row 3 3 y3,.s 4] .no)) .no)))
theorem RP:FOk Tryz.prog 197 HU:=fk [] trivial Tryz.func197 .no
theorem N8:FOk Tryz.prog 157 Et:=fk [(197,HU)] ⟨RP,trivial⟩ Tryz.func157 (.t (.t (.two (.t (.loop [.row 3 149 Ju,.s 4] .no)) .no)))
theorem N9:FOk Tryz.prog 107 Eu:=fk [(156,Bf),(157,Et)] ⟨Ie,N8,trivial⟩ Tryz.func107 .no
theorem Mc:FOk Tryz.prog 60 Cd:=fk [(107,Eu)] ⟨N9,trivial⟩ Tryz.func60 (.t (.t (.two (.t (.loop [.row 3 68 y68,.s 4] .no)) .no)))
theorem Jw:FOk Tryz.prog 25 zK:=fk [(60,Cd)] ⟨Mc,trivial⟩ Tryz.func25 .no
theorem Oa:FOk Tryz.prog 158 Ev:=fk [] trivial Tryz.func158 (.t (.t (.two (.t (.loop [.row 3 4 y4,.s 4] .no)) .no)))
theorem Ob:FOk Tryz.prog 159 Ew:=fk [(156,Bf)] ⟨Ie,trivial⟩ Tryz.func159 (.t (.t (.two (.t (.loop [.row 3 65 y65,.s 4] .no)) .no)))
theorem E3:FOk Tryz.prog 108 vC:=fk [(158,Ev),(159,Ew)] ⟨Oa,Ob,trivial⟩ Tryz.func108 .no
theorem CL:FOk Tryz.prog 61 um:=fk [(108,vC)] ⟨E3,trivial⟩ Tryz.func61 (.t (.t (.two (.t (.loop [.row 3 97 y97,.s 4] .no)) .no)))
theorem Oc:FOk Tryz.prog 244 Ex:=fk [] trivial Tryz.func244 .no
theorem Md:FOk Tryz.prog 198 Ce:=fk [(244,Ex)] ⟨Oc,trivial⟩ Tryz.func198 (.t (.t (.two (.t (.loop [.row 3 208 B9,.s 4] .no)) .no)))
theorem RQ:FOk Tryz.prog 160 HV:=fk [(198,Ce)] ⟨Md,trivial⟩ Tryz.func160 .no
theorem CM:FOk Tryz.prog 109 uo:=fk [(160,HV)] ⟨RQ,trivial⟩ Tryz.func109 .no
theorem Bn:FOk Tryz.prog 62 sI:=fk [(109,uo)] ⟨CM,trivial⟩ Tryz.func62 (.t (.t (.two (.t (.loop [.row 3 146 Gz,.s 4] .no)) .no)))
theorem GC:FOk Tryz.prog 26 xy:=fk [(61,um),(62,sI)] ⟨CL,Bn,trivial⟩ Tryz.func26 .no
theorem CN:FOk Tryz.prog 63 uq:=fk [] trivial Tryz.func63 .no
theorem Bo:FOk Tryz.prog 27 sJ:=fk [(63,uq)] ⟨CN,trivial⟩ Tryz.func27 (.t (.t (.two (.t (.loop [.row 3 84 y84,.s 4] .no)) .no)))
theorem Me:FOk Tryz.prog 7 Cf:=fk [(25,zK),(26,xy),(27,sJ)] ⟨Jw,GC,Bo,trivial⟩ Tryz.func7 .no
theorem If:FOk Tryz.prog 178 Bg:=fk [] trivial Tryz.func178 (.t (.t (.two (.t (.loop [.s 5] .no)) .no)))
theorem RR:FOk Tryz.prog 220 HW:=fk [] trivial Tryz.func220 .no
theorem Od:FOk Tryz.prog 179 Ey:=fk [(220,HW)] ⟨RR,trivial⟩ Tryz.func179 (.t (.t (.two (.t (.loop [.s 5] .no)) .no)))
theorem Oe:FOk Tryz.prog 121 Ez:=fk [(178,Bg),(179,Ey)] ⟨If,Od,trivial⟩ Tryz.func121 .no
theorem Mf:FOk Tryz.prog 73 Cg:=fk [(121,Ez)] ⟨Oe,trivial⟩ Tryz.func73 (.t (.t (.two (.t (.loop [.s 5] .no)) .no)))
theorem Jx:FOk Tryz.prog 32 zL:=fk [(73,Cg)] ⟨Mf,trivial⟩ Tryz.func32 .no
theorem Of:FOk Tryz.prog 180 EA:=fk [] trivial Tryz.func180 (.t (.t (.two (.t (.loop [.s 5] .no)) .no)))
theorem Og:FOk Tryz.prog 181 EB:=fk [(178,Bg)] ⟨If,trivial⟩ Tryz.func181 (.t (.t (.two (.t (.loop [.s 5] .no)) .no)))
theorem E4:FOk Tryz.prog 122 vD:=fk [(180,EA),(181,EB)] ⟨Of,Og,trivial⟩ Tryz.func122 .no
theorem CO:FOk Tryz.prog 74 ur:=fk [(122,vD)] ⟨E4,trivial⟩ Tryz.func74 (.t (.t (.two (.t (.loop [.s 5] .no)) .no)))
theorem Oh:FOk Tryz.prog 269 EC:=fk [] trivial Tryz.func269 .no
theorem Mg:FOk Tryz.prog 221 Ci:=fk [(269,EC)] ⟨Oh,trivial⟩ Tryz.func221 (.t (.t (.two (.t (.loop [.s 5] .no)) .no)))
theorem RS:FOk Tryz.prog 182 HY:=fk [(221,Ci)] ⟨Mg,trivial⟩ Tryz.func182 .no
theorem CP:FOk Tryz.prog 123 uu:=fk [(182,HY)] ⟨RS,trivial⟩ Tryz.func123 .no
theorem Bp:FOk Tryz.prog 75 sK:=fk [(123,uu)] ⟨CP,trivial⟩ Tryz.func75 (.t (.t (.two (.t (.loop [.s 5] .no)) .no)))
theorem GD:FOk Tryz.prog 33 xz:=fk [(74,ur),(75,sK)] ⟨CO,Bp,trivial⟩ Tryz.func33 .no
theorem CQ:FOk Tryz.prog 76 uv:=fk [] trivial Tryz.func76 .no
theorem Bq:FOk Tryz.prog 34 sL:=fk [(76,uv)] ⟨CQ,trivial⟩ Tryz.func34 (.t (.t (.two (.t (.loop [.s 5] .no)) .no)))
theorem Mh:FOk Tryz.prog 10 Cj:=fk [(32,zL),(33,xz),(34,sL)] ⟨Jx,GD,Bq,trivial⟩ Tryz.func10 .no
theorem Cs:FOk Tryz.prog 124 vE:=fk [] trivial Tryz.func124 (.t (.two (.t (.loop [.par 0 [] 3 y3,.s 1,.s 5] .no)) .no))
theorem Jy:FOk Tryz.prog 125 zM:=fk [] trivial Tryz.func125 (.t (.two (.t (.loop [.par 0 [] 149 Ju,.s 1,.s 5] .no)) .no))
theorem GE:FOk Tryz.prog 77 xA:=fk [(124,vE),(125,zM)] ⟨Cs,Jy,trivial⟩ Tryz.func77 (.t (.two (.t (.loop [.par 0 [] 68 y68,.s 1,.s 5] .no)) .no))
theorem E5:FOk Tryz.prog 35 vF:=fk [(77,xA)] ⟨GE,trivial⟩ Tryz.func35 .no
theorem Jz:FOk Tryz.prog 126 zN:=fk [] trivial Tryz.func126 (.t (.two (.t (.loop [.par 0 [] 4 y4,.s 1,.s 5] .no)) .no))
theorem JA:FOk Tryz.prog 127 zO:=fk [(124,vE)] ⟨Cs,trivial⟩ Tryz.func127 (.t (.two (.t (.loop [.par 0 [] 65 y65,.s 1,.s 5] .no)) .no))
theorem Ai:FOk Tryz.prog 78 rI:=fk [(126,zN),(127,zO)] ⟨Jz,JA,trivial⟩ Tryz.func78 (.t (.two (.t (.loop [.par 0 [] 97 y97,.s 1,.s 5] .no)) .no))
theorem GF:FOk Tryz.prog 128 xB:=fk [] trivial Tryz.func128 (.t (.two (.t (.loop [.par 0 [] 208 B9,.s 1,.s 5] .no)) .no))
theorem yJ:FOk Tryz.prog 79 qU:=fk [(128,xB)] ⟨GF,trivial⟩ Tryz.func79 (.t (.two (.t (.loop [.par 0 [] 146 Gz,.s 1,.s 5] .no)) .no))
theorem CR:FOk Tryz.prog 36 uw:=fk [(78,rI),(79,qU)] ⟨Ai,yJ,trivial⟩ Tryz.func36 .no
theorem yK:FOk Tryz.prog 37 qV:=fk [] trivial Tryz.func37 (.t (.two (.t (.loop [.par 0 [] 84 y84,.s 1,.s 5] .no)) .no))
theorem GG:FOk Tryz.prog 11 xC:=fk [(35,vF),(36,uw),(37,qV)] ⟨E5,CR,yK,trivial⟩ Tryz.func11 .no
theorem lV:FOk Tryz.prog 97 kH:=fk [] trivial Tryz.func97 .no
theorem RT:FOk Tryz.prog 104 HZ:=fk [(97,kH)] ⟨lV,trivial⟩ Tryz.func104 .no
theorem pE:FOk Tryz.prog 58 lS:=fk [(97,kH),(104,HZ)] ⟨lV,RT,trivial⟩ Tryz.func58 (.t (.two (.t (.loop [.s 3] .no)) (.two (.t (.loop [.s 4] .no)) .no)))
theorem E6:FOk Tryz.prog 96 zP:=fk [] trivial Tryz.func96 (.t (.two (.t (.loop [.s 5] .no)) .no))
theorem jx:FOk Tryz.prog 53 fV:=fk [(58,lS),(96,zP),(97,kH)] ⟨pE,E6,lV,trivial⟩ Tryz.func53 (.t (.two (.t (.loop [.s 3] .no)) .no))
theorem Br:FOk Tryz.prog 130 xa:=fk [] trivial Tryz.func130 .no
theorem Ct:FOk Tryz.prog 368 vG:=fk [(97,kH)] ⟨lV,trivial⟩ Tryz.func368 .no
theorem E7:FOk Tryz.prog 331 yE:=fk [(97,kH),(368,vG)] ⟨lV,Ct,trivial⟩ Tryz.func331 (.t (.two (.t (.join [.slot 5 .boo] .no (.t (.t (.t (.join [.slot 37 .boo] .no .no)))))) .no))
theorem RU:FOk Tryz.prog 328 H0:=fk [(331,yE)] ⟨E7,trivial⟩ Tryz.func328 (.t (.t (.two (.t (.loop [.s 3,.s 4] .no)) .no)))
theorem E8:FOk Tryz.prog 276 vH:=fk [(328,H0)] ⟨RU,trivial⟩ Tryz.func276 .no
theorem yL:FOk Tryz.prog 279 tT:=fk [(331,yE)] ⟨E7,trivial⟩ Tryz.func279 (.t (.t (.t (.two (.loop [.s 3,.s 4] .no) .no))))
theorem E9: ∀n,FOk Tryz.prog 277 (tU n)
 | 0=>mF (f:=tU 0) (enters_of Tryz.func277 (by kernel_rfl) rfl) rfl (fun d=>rfl)
 | n+1=>by
  have ih:=E9 n
  exact fk [(277,(tU n)),(279,tT)] ⟨ih,yL,trivial⟩ Tryz.func277 (.t (.t (.t (.two (.t (.two (.t (.at [.slot 15 .boo] .no)) .no)) .no))))
theorem Ig:FOk Tryz.prog 329 Bh:=fk [(130,xa)] ⟨Br,trivial⟩ Tryz.func329 .no
theorem RV:FOk Tryz.prog 367 H1:=fk [] trivial Tryz.func367 .no
theorem Cu: ∀n,FOk Tryz.prog 330 (rJ n)
 | 0=>mF (f:=rJ 0) (enters_of Tryz.func330 (by kernel_rfl) rfl) rfl (fun d=>rfl)
 | n+1=>by
  have ih:=Cu n
  exact fk [(329,Bh),(330,(rJ n)),(367,H1)] ⟨Ig,ih,RV,trivial⟩ Tryz.func330 .no
theorem Aj: ∀n,FOk Tryz.prog 278 (qc n)
 | 0=>mF (f:=qc 0) (enters_of Tryz.func278 (by kernel_rfl) rfl) rfl (fun d=>rfl)
 | n+1=>by
  have ih:=Aj n
  exact fk [(278,(qc n)),(279,tT),(329,Bh),(330,(rJ iU))] ⟨ih,yL,Ig,(Cu iU),trivial⟩ Tryz.func278 (.t (.t (.t (.two (.t (.two (.t (.at [.slot 15 .boo] .no)) .no)) .no))))
theorem GH:FOk Tryz.prog 228 xD:=fk [(276,vH),(277,(tU iU)),(278,(qc iU))] ⟨E8,(E9 iU),(Aj iU),trivial⟩ Tryz.func228 .no
theorem Oi:FOk Tryz.prog 280 ED:=fk [] trivial Tryz.func280 (.t (.loop [.s 6,.par 4 [3] 3 y3] (.t (.two (.at [.par 4 [3] 3 y3] .no) .no))))
theorem Cv: ∀n,FOk Tryz.prog 229 (rK n)
 | 0=>mF (f:=rK 0) (enters_of Tryz.func229 (by kernel_rfl) rfl) rfl (fun d=>rfl)
 | n+1=>by
  have ih:=Cv n
  exact fk [(229,(rK n)),(279,tT),(280,ED)] ⟨ih,yL,Oi,trivial⟩ Tryz.func229 (.t (.t (.t (.two (.t (.t (.t (.t (.t (.t (.two (.t (.t (.t (.t (.t (.two (.t (.at [.box 11 [.boo,(.num .i64),(.num .i64)]] .no)) (.two (.t (.at [.box 11 [.boo,(.num .i64),(.num .i64)]] .no)) .no))))))) .no))))))) .no))))
theorem Ak:FOk Tryz.prog 187 rL:=fk [(228,xD),(229,(rK iU))] ⟨GH,(Cv iU),trivial⟩ Tryz.func187 (.t (.t (.t (.t (.two (.t (.loop [.s 6,.s 7] (.t (.two (.at [.s 6] .no) .no)))) .no)))))
theorem Mi:FOk Tryz.prog 230 Ck:=fk [] trivial Tryz.func230 (.t (.t (.join [.s 7] .no (.two (.t (.loop [.s 7,.s 8] (.t (.join [.s 7] .no .no)))) (.t (.two (.t (.loop [.s 9,.s 10] (.t (.join [.s 9] .no .no)))) .no))))))
theorem Fa:FOk Tryz.prog 231 yF:=fk [] trivial Tryz.func231 (.t (.two (.t (.loop [.s 5] .no)) .no))
theorem GI:FOk Tryz.prog 232 xE:=fk [] trivial Tryz.func232 .no
theorem GJ:FOk Tryz.prog 188 xF:=fk [(230,Ck),(231,yF),(232,xE)] ⟨Mi,Fa,GI,trivial⟩ Tryz.func188 (.t (.t (.t (.two (.t (.loop [.slot 7 (.own 3 y3),.s 8,.box 6 [(.num .i64),(.own 4 y4),(.own 65 y65)]] (.t (.two (.t (.two (.t (.loop [.slot 7 (.own 3 y3),.slot 9 (.own 3 y3),.s 10] (.t (.two (.t (.t (.join [.slot 7 (.own 3 y3),.s 12] .no .no))) .no)))) .no)) .no)))) .no))))
theorem GK:FOk Tryz.prog 281 xG:=fk [] trivial Tryz.func281 (.t (.t (.two (.t (.loop [.slot 1 (.own 3 y3),.s 2] .no)) .no)))
theorem JB:FOk Tryz.prog 233 zQ:=fk [(231,yF),(281,xG)] ⟨Fa,GK,trivial⟩ Tryz.func233 (.t (.t (.t (.t (.t (.two (.t (.loop [.slot 8 (.own 3 y3),.slot 9 (.own 3 y3),.s 10,.box 7 [(.num .i64),(.own 4 y4),(.own 65 y65)]] (.t (.two (.t (.two (.t (.loop [.slot 8 (.own 3 y3),.slot 9 (.own 3 y3),.slot 11 (.own 3 y3),.s 12] (.t (.two (.t (.t (.join [.slot 8 (.own 3 y3),.slot 9 (.own 3 y3),.s 14] .no .no))) .no)))) .no)) .no)))) .no))))))
theorem Fb:FOk Tryz.prog 235 yG:=fk [] trivial Tryz.func235 (.t (.t (.two (.t (.loop [.row 3 4 y4,.s 4] (.t (.two (.t (.loop [.row 3 4 y4,.s 5] (.t (.two (.t (.loop [.row 3 4 y4,.s 6] (.t (.join [.row 3 4 y4] .no .no)))) .no)))) .no)))) .no)))
theorem RW:FOk Tryz.prog 282 H2:=fk [] trivial Tryz.func282 (.t (.t (.two (.t (.loop [.slot 7 (.own 3 y3),.s 8] (.t (.join [.slot 7 (.own 3 y3)] .no .no)))) .no)))
theorem GL:FOk Tryz.prog 234 xH:=fk [(96,zP),(235,yG),(282,H2)] ⟨E6,Fb,RW,trivial⟩ Tryz.func234 (.t (.t (.t (.two (.t (.loop [.slot 4 (.own 3 y3),.s 5] (.t (.two (.t (.two (.t (.at [.s 6] .no)) (.two (.t (.at [.s 6] .no)) .no))) .no)))) (.two (.t (.loop [.slot 4 (.own 3 y3),.s 7] (.t (.two (.t (.t (.two (.t (.loop [.slot 8 (.own 65 y65),.slot 9 (.own 3 y3),.s 10] (.t (.two (.at [.slot 8 (.own 65 y65),.slot 9 (.own 3 y3)] (.t (.t (.t (.two (.t (.loop [.s 12,.s 13] (.t (.two (.at [.s 12] .no) .no)))) (.two (.t (.at [.slot 8 (.own 65 y65),.s 12,.gone 11] .no)) .no)))))) .no)))) .no))) .no)))) .no)))))
theorem Fc:FOk Tryz.prog 189 vI:=fk [(233,zQ),(234,xH),(235,yG)] ⟨JB,GL,Fb,trivial⟩ Tryz.func189 .no
theorem Fe:FOk Tryz.prog 147 vJ:=fk [(187,rL),(188,xF),(189,vI)] ⟨Ak,GJ,Fc,trivial⟩ Tryz.func147 .no
theorem sU:FOk Tryz.prog 149 n9:=fk [(96,zP)] ⟨E6,trivial⟩ Tryz.func149 (.t (.t (.two (.t (.loop [.s 5] .no)) (.two (.t (.loop [.s 6] .no)) .no))))
theorem Mj:FOk Tryz.prog 148 Cl:=fk [(149,n9)] ⟨sU,trivial⟩ Tryz.func148 (.t (.two (.t (.loop [.s 5] .no)) .no))
theorem Mk:FOk Tryz.prog 98 Cm:=fk [(97,kH),(130,xa),(147,vJ),(148,Cl)] ⟨lV,Br,Fe,Mj,trivial⟩ Tryz.func98 (.t (.t (.t (.two (.t (.loop [.s 5,.box 4 [(.own 97 y97),(.own 146 Gz)]] (.t (.two (.t (.t (.t (.join [.s 8,.box 4 [(.own 97 y97),(.own 146 Gz)],.gone 6] .no .no)))) .no)))) .no))))
theorem GM:FOk Tryz.prog 150 xI:=fk [] trivial Tryz.func150 (.t (.t (.two (.t (.loop [.s 5] .no)) .no)))
theorem yM:FOk Tryz.prog 99 qW:=fk [(149,n9),(150,xI)] ⟨sU,GM,trivial⟩ Tryz.func99 (.t (.t (.two (.t (.loop [.s 5] .no)) (.two (.t (.loop [.s 6] .no)) .no))))
theorem l6:FOk Tryz.prog 54 iQ:=fk [(98,Cm),(99,qW)] ⟨Mk,yM,trivial⟩ Tryz.func54 .no
theorem tY:FOk Tryz.prog 100 qd:=fk [] trivial Tryz.func100 (.t (.two (.t (.loop [.s 5] .no)) .no))
theorem kJ:FOk Tryz.prog 101 gY:=fk [(53,fV)] ⟨jx,trivial⟩ Tryz.func101 .no
theorem Oj:FOk Tryz.prog 55 EE:=fk [(97,kH),(100,qd),(101,gY)] ⟨lV,tY,kJ,trivial⟩ Tryz.func55 (.t (.two (.t (.loop [.s 3] .no)) .no))
theorem Ff:FOk Tryz.prog 190 zR:=fk [] trivial Tryz.func190 (.t (.t (.t (.two (.t (.loop [.slot 5 (.own 9 y9),.s 6,.s 7] (.t (.two (.at [.slot 5 (.own 9 y9),.s 6] .no) .no)))) .no))))
theorem tZ:FOk Tryz.prog 236 qe:=fk [] trivial Tryz.func236 (.t (.t (.t (.t (.two (.loop [.s 0,.slot 3 .str] (.t (.t (.two (.t (.at [.s 5] .no)) .no)))) .no)))))
theorem Cw:FOk Tryz.prog 191 vK:=fk [(236,qe)] ⟨tZ,trivial⟩ Tryz.func191 (.t (.t (.t (.two (.t (.loop [.s 4,.s 5,.s 6] (.t (.two (.at [.s 4,.s 5] .no) .no)))) (.two (.t (.at [.s 4] .no)) .no)))))
theorem uO:FOk Tryz.prog 332 pC:=fk [(368,vG)] ⟨Ct,trivial⟩ Tryz.func332 .no
theorem Fg:FOk Tryz.prog 283 vL:=fk [(332,pC)] ⟨uO,trivial⟩ Tryz.func283 (.t (.two (.t (.loop [.s 4] .no)) .no))
theorem xY:FOk Tryz.prog 284 sn:=fk [(97,kH),(236,qe),(332,pC)] ⟨lV,tZ,uO,trivial⟩ Tryz.func284 .no
theorem JC:FOk Tryz.prog 237 zS:=fk [(190,zR),(191,vK),(283,vL),(284,sn)] ⟨Ff,Cw,Fg,xY,trivial⟩ Tryz.func237 .no
theorem wg:FOk Tryz.prog 238 qX:=fk [(284,sn)] ⟨xY,trivial⟩ Tryz.func238 (.t (.t (.t (.two (.t (.loop [.slot 3 .str,.s 4] (.t (.two (.atX [.slot 3 .str] (.t (.t (.two (.t (.at [.slot 3 .str] .no)) .no)))) .no)))) .no))))
theorem GN:FOk Tryz.prog 192 xJ:=fk [(190,zR),(237,zS),(238,qX)] ⟨Ff,JC,wg,trivial⟩ Tryz.func192 (.t (.t (.t (.t (.two (.t (.loop [.s 6,.box 4 [(.own 238 (.prod y4 Ju))]] .no)) .no)))))
theorem Ml:FOk Tryz.prog 239 Cn:=fk [] trivial Tryz.func239 (.t (.t (.two (.t (.loop [.s 3,.s 4] .no)) .no)))
theorem CS:FOk Tryz.prog 193 uy:=fk [(97,kH),(236,qe),(238,qX),(239,Cn)] ⟨lV,tZ,wg,Ml,trivial⟩ Tryz.func193 .no
theorem CT:FOk Tryz.prog 151 uz:=fk [(190,zR),(191,vK),(192,xJ),(193,uy)] ⟨Ff,Cw,GN,CS,trivial⟩ Tryz.func151 .no
theorem Ol:FOk Tryz.prog 102 EF:=Qi (ps:=[.rd y9]) (A:=y65) (E:=161) (t:=LZ) (B:=y3) (m:=m_s_ScanLog) (fk [(151,uz)] ⟨CT,trivial⟩ Tryz.func102 (.t (.t (.t (.t (.two (.t (.loop [.slot 5 (.own 3 y3),.slot 6 (.own 161 LZ),.s 7,.s 8] (.t (.two (.atX [.slot 5 (.own 3 y3),.slot 6 (.own 161 LZ),.s 7] .no) .no)))) .no))))))
theorem RX:FOk Tryz.prog 56 H3:=fk [(101,gY),(102,EF)] ⟨kJ,Ol,trivial⟩ Tryz.func56 .no
theorem Bs:FOk Tryz.prog 23 sM:=fk [(53,fV),(54,iQ),(55,EE),(56,H3)] ⟨jx,l6,Oj,RX,trivial⟩ Tryz.func23 .no
theorem Ih:FOk Tryz.prog 129 Bi:=fk [] trivial Tryz.func129 .no
theorem RY:FOk Tryz.prog 80 H4:=fk [(129,Bi)] ⟨Ih,trivial⟩ Tryz.func80 (.t (.t (.two (.t (.loop [.s 4,.box 3 [(.num .i64),(.own 68 y68)]] .no)) .no)))
theorem Fh:FOk Tryz.prog 103 yH:=fk [] trivial Tryz.func103 (.t (.t (.two (.t (.loop [.s 4,.box 3 [(.num .i64),(.own 4 y4),(.own 65 y65)]] .no)) .no)))
theorem Om:FOk Tryz.prog 81 EG:=fk [(103,yH),(130,xa)] ⟨Fh,Br,trivial⟩ Tryz.func81 (.t (.t (.two (.t (.loop [.s 4,.box 3 [(.own 97 y97),(.own 146 Gz)]] .no)) (.two (.t (.loop [.s 5,.box 3 [(.own 97 y97),(.own 146 Gz)]] .no)) .no))))
theorem On:FOk Tryz.prog 38 EH:=fk [(80,H4),(81,EG)] ⟨RY,Om,trivial⟩ Tryz.func38 .no
theorem Oo:FOk Tryz.prog 39 EI:=fk [] trivial Tryz.func39 (.t (.two (.t (.loop [.s 5] .no)) .no))
theorem Oq:FOk Tryz.prog 82 EJ:=fk [(53,fV),(54,iQ),(100,qd),(101,gY)] ⟨jx,l6,tY,kJ,trivial⟩ Tryz.func82 .no
theorem Al:FOk Tryz.prog 57 rM:=fk [(54,iQ),(100,qd),(103,yH)] ⟨l6,tY,Fh,trivial⟩ Tryz.func57 .no
theorem Ot:FOk Tryz.prog 194 EK:=fk [(97,kH)] ⟨lV,trivial⟩ Tryz.func194 (.t (.t (.t (.two (.t (.loop [.s 4] (.t (.two (.t (.t (.loop [.s 5] .no))) .no)))) .no))))
theorem xo:FOk Tryz.prog 152 pJ:=fk [(194,EK)] ⟨Ot,trivial⟩ Tryz.func152 .no
theorem Ou:FOk Tryz.prog 105 EL:=fk [(58,lS),(97,kH),(152,pJ)] ⟨pE,lV,xo,trivial⟩ Tryz.func105 .no
theorem xZ:FOk Tryz.prog 196 so:=fk [] trivial Tryz.func196 (.t (.t (.two (.loop [.s 1,.s 7] .no) .no)))
theorem RZ:FOk Tryz.prog 240 H5:=fk [] trivial Tryz.func240 (.t (.t (.two (.t (.loop [.slot 5 (.own 220 adA),.s 6] (.t (.join [.slot 5 (.own 220 adA)] (.join [.slot 5 (.own 220 adA)] .no .no) .no)))) .no)))
theorem JD:FOk Tryz.prog 241 zT:=fk [] trivial Tryz.func241 (.t (.two (.t (.loop [.s 5] .no)) .no))
theorem JE:FOk Tryz.prog 242 zU:=fk [] trivial Tryz.func242 .no
theorem Vn:FOk Tryz.prog 243 L4:=fk [] trivial Tryz.func243 .no
theorem Mm:FOk Tryz.prog 195 Co:=fk [(196,so),(240,H5),(241,zT),(242,zU),(243,L4)] ⟨xZ,RZ,JD,JE,Vn,trivial⟩ Tryz.func195 (.t (.t (.t (.t (.two (.t (.loop [.slot 9 (.own 222 afD),.s 12] (.t (.two (.t (.t (.two (.t (.loop [.s 14,.s 15] (.t (.join [.s 14] .no .no)))) (.t (.loop [.slot 9 (.own 222 afD),.s 17] (.t (.join [.slot 9 (.own 222 afD)] .no .no))))))) .no)))) .no)))))
theorem Mn:FOk Tryz.prog 153 Cp:=fk [(195,Co)] ⟨Mm,trivial⟩ Tryz.func153 (.t (.t (.t (.two (.t (.loop [.slot 8 (.own 3 y3),.s 9] .no)) (.t (.t (.two (.t (.loop [.row 8 3 y3,.slot 10 (.own 3 y3),.s 11] (.t (.two (.t (.t (.loop [.row 8 3 y3,.slot 10 (.own 3 y3),.s 13] (.t (.join [.row 8 3 y3,.slot 10 (.own 3 y3)] .no .no))))) .no)))) .no)))))))
theorem GO:FOk Tryz.prog 154 xK:=fk [(196,so)] ⟨xZ,trivial⟩ Tryz.func154 (.t (.t (.two (.t (.loop [.s 10] .no)) .no)))
theorem Vo:FOk Tryz.prog 155 L5:=fk [] trivial Tryz.func155 (.t (.t (.two (.t (.loop [.slot 3 (.own 3 y3),.s 4] (.t (.join [.slot 3 (.own 3 y3)] .no .no)))) .no)))
theorem Ov:FOk Tryz.prog 106 EM:=fk [(153,Cp),(154,xK),(155,L5)] ⟨Mn,GO,Vo,trivial⟩ Tryz.func106 (.t (.t (.t (.t (.two (.t (.loop [.s 9,.s 10] (.t (.join [.s 9] .no .no)))) .no)))))
theorem GP:FOk Tryz.prog 59 xL:=fk [(105,EL),(106,EM)] ⟨Ou,Ov,trivial⟩ Tryz.func59 (.t (.t (.two (.t (.loop [.slot 5 (.own 75 y75),.s 6] (.t (.two (.t (.t (.loop [.slot 5 (.own 75 y75),.s 8] .no))) .no)))) .no)))
theorem CU:FOk Tryz.prog 24 uA:=fk [(57,rM),(58,lS),(59,xL)] ⟨Al,pE,GP,trivial⟩ Tryz.func24 .no
theorem Ow:FOk Tryz.prog 131 EN:=fk [(53,fV),(97,kH),(101,gY),(129,Bi)] ⟨jx,lV,kJ,Ih,trivial⟩ Tryz.func131 .no
theorem R0:FOk Tryz.prog 222 H6:=fk [] trivial Tryz.func222 (.t (.two (.t (.loop [.s 5] .no)) .no))
theorem Ox:FOk Tryz.prog 270 EO:=fk [] trivial Tryz.func270 .no
theorem R1:FOk Tryz.prog 223 H7:=fk [(270,EO)] ⟨Ox,trivial⟩ Tryz.func223 (.t (.t (.two (.loop [.s 5] .no) .no))) (an:=[(36,.bool)])
theorem Bt:FOk Tryz.prog 183 sN:=fk [(222,H6),(223,H7)] ⟨R0,R1,trivial⟩ Tryz.func183 (.t (.t (.two (.t (.loop [.slot 5 (.own 75 y75),.s 6] (.t (.join [.slot 5 (.own 75 y75)] .no .no)))) .no)))
theorem CV:FOk Tryz.prog 132 uB:=fk [(183,sN)] ⟨Bt,trivial⟩ Tryz.func132 .no
theorem GQ:FOk Tryz.prog 83 xM:=fk [(24,uA),(131,EN),(132,uB)] ⟨CU,Ow,CV,trivial⟩ Tryz.func83 .no
theorem Fi:FOk Tryz.prog 40 vM:=fk [(82,EJ),(83,xM)] ⟨Oq,GQ,trivial⟩ Tryz.func40 .no
theorem GR:FOk Tryz.prog 14 xN:=fk [(23,sM),(38,EH),(39,EI),(40,vM)] ⟨Bs,On,Oo,Fi,trivial⟩ Tryz.func14 .no
theorem hZ:FOk Tryz.prog 67 fG:=fk [] trivial Tryz.func67 .no
theorem Ii:FOk Tryz.prog 118 Bj:=fk [(67,fG)] ⟨hZ,trivial⟩ Tryz.func118 .no
theorem pF:FOk Tryz.prog 71 lT:=fk [(67,fG),(118,Bj)] ⟨hZ,Ii,trivial⟩ Tryz.func71 (.t (.t (.two (.t (.loop [.s 14] .no)) (.two (.t (.loop [.s 25] .no)) .no))))
theorem fy:FOk Tryz.prog 110 dD:=fk [] trivial Tryz.func110 (.t (.t (.two (.t (.loop [.s 13] .no)) .no)))
theorem jy:FOk Tryz.prog 64 fW:=fk [(67,fG),(71,lT),(110,dD)] ⟨hZ,pF,fy,trivial⟩ Tryz.func64 (.t (.t (.t (.two (.t (.loop [.s 24] .no)) .no))))
theorem Cx:FOk Tryz.prog 134 vN:=fk [] trivial Tryz.func134 .no
theorem Cy:FOk Tryz.prog 314 vO:=fk [(67,fG)] ⟨hZ,trivial⟩ Tryz.func314 .no
theorem Oy:FOk Tryz.prog 290 EP:=fk [(67,fG),(314,vO)] ⟨hZ,Cy,trivial⟩ Tryz.func290 (.t (.two (.t (.t (.t (.t (.t (.join [.slot 37 .boo] .no .no)))))) .no))
theorem pG:FOk Tryz.prog 291 bJ:=LU (f:=bJ) (mF (f:=⟨bJ.ps,bJ.rs,bJ.m,none⟩) (enters_of Tryz.func291 (by kernel_rfl) rfl) rfl (fun d=>rfl)) (Qf (V:=⟨tt,[],[(5,.raw)],8,[]⟩) Y9 trivial mixed Tryz.func291 rfl rfl (enters_of Tryz.func291 (by kernel_rfl) rfl) (bd rfl) .no (fun E a b=>by cases a <;> kernel_rfl))
theorem Bu:FOk Tryz.prog 247 xb:=fk [(290,EP),(291,bJ)] ⟨Oy,pG,trivial⟩ Tryz.func247 (.t (.t (.two (.t (.loop [.slot 3 (.own 271 ahB),.s 13] (.t (.t (.two (.t (.t (.two (.t (.at [.s 6] (.two (.t (.at [.slot 19 .boo] .no)) (.t (.two (.t (.at [.slot 22 .boo] .no)) .no))))) .no))) .no))))) .no))) (tr:=[(310,271,B9)])
theorem R2:FOk Tryz.prog 333 H8:=fk [(247,xb)] ⟨Bu,trivial⟩ Tryz.func333 .no (tr:=[(310,271,B9)])
theorem Fj:FOk Tryz.prog 285 vP:=fk [(333,H8)] ⟨R2,trivial⟩ Tryz.func285 .no
theorem ya: ∀n,FOk Tryz.prog 286 (oW n)
 | 0=>mF (f:=oW 0) (enters_of Tryz.func286 (by kernel_rfl) rfl) rfl (fun d=>rfl)
 | n+1=>by
  have a:=ya n;exact fk [(286,(oW n))] ⟨a,trivial⟩ Tryz.func286 (.t (.t (.two (.t (.loop [.s 3,.s 11] (.t (.t (.two (.at [.s 3] .no) .no))))) .no))) (tr:=[(310,271,B9)])
theorem Za:FOk Tryz.prog 369 Qn:=fk [] trivial Tryz.func369 .no (tr:=[(310,271,B9)])
theorem Cz: ∀n,FOk Tryz.prog 334 (rN n)
 | 0=>mF (f:=rN 0) (enters_of Tryz.func334 (by kernel_rfl) rfl) rfl (fun d=>rfl)
 | n+1=>by
  have a:=Cz n;exact fk [(334,(rN n)),(369,Qn)] ⟨a,Za,trivial⟩ Tryz.func334 .no (tr:=[(310,271,B9)])
theorem wh: ∀n,FOk Tryz.prog 287 (nl n)
 | 0=>mF (f:=nl 0) (enters_of Tryz.func287 (by kernel_rfl) rfl) rfl (fun d=>rfl)
 | n+1=>by
  have a:=wh n;exact fk [(287,(nl n)),(334,(rN iU))] ⟨a,(Cz iU),trivial⟩ Tryz.func287 (.t (.t (.t (.two (.t (.loop [.s 41,.box 3 [(.num .i64),(.num .i64),(.num .i64),(.num .i64),(.own 271 (.tree 310 271 B9))]] .no)) .no)))) (an:=[(52,t271)]) (tr:=[(310,271,B9)])
theorem uP: ∀n,FOk Tryz.prog 335 (lU n)
 | 0=>mF (f:=lU 0) (enters_of Tryz.func335 (by kernel_rfl) rfl) rfl (fun d=>rfl)
 | n+1=>by
  have a:=uP n;exact fk [(335,(lU n))] ⟨a,trivial⟩ Tryz.func335 (.two (.t (.loop [.s 11,.box 1 [(.own 208 B9)]] .no)) .no) (tr:=[(310,271,B9)])
theorem JF:FOk Tryz.prog 288 zV:=fk [(335,(lU iU))] ⟨(uP iU),trivial⟩ Tryz.func288 .no (tr:=[(310,271,B9)])
theorem GS:FOk Tryz.prog 245 xO:=fk [(247,xb),(285,vP),(286,(oW iU)),(287,(nl iU)),(288,zV)] ⟨Bu,Fj,(ya iU),(wh iU),JF,trivial⟩ Tryz.func245 .no (tr:=[(310,271,B9)])
theorem xp:FOk Tryz.prog 289 pK:=fk [] trivial Tryz.func289 (.t (.loop [.s 12,.par 4 [3] 3 y3] (.t (.t (.two (.at [.par 4 [3] 3 y3] .no) .no)))))
theorem rh: ∀n,FOk Tryz.prog 246 (iR n)
 | 0=>mF (f:=iR 0) (enters_of Tryz.func246 (by kernel_rfl) rfl) rfl (fun d=>rfl)
 | n+1=>by
  have a:=rh n;exact fk [(246,(iR n)),(289,pK)] ⟨a,xp,trivial⟩ Tryz.func246 (.t (.two (.t (.t (.t (.t (.t (.t (.t (.t (.two (.t (.t (.t (.two (.t (.at [.box 10 [(.num .i64),(.num .i64),.boo]] .no)) (.two (.t (.at [.box 10 [(.num .i64),(.num .i64),.boo]] .no)) .no))))) .no))))))))) .no)) (tr:=[(310,271,B9)])
theorem Am:FOk Tryz.prog 199 rO:=fk [(245,xO),(246,(iR iU)),(247,xb)] ⟨GS,(rh iU),Bu,trivial⟩ Tryz.func199 (.t (.t (.t (.t (.two (.t (.loop [.s 6,.s 22] (.t (.t (.two (.at [.s 6] .no) .no))))) .no))))) (tr:=[(310,271,B9)])
theorem uQ:FOk Tryz.prog 248 pD:=fk [] trivial Tryz.func248 (.t (.t (.t (.t (.two (.t (.loop [.slot 10 (.own 3 y3),.slot 11 (.map ⟨3,3,.int,.int⟩),.s 13,.box 12 [(.num .i64),(.own 4 y4),(.own 65 y65)]] (.t (.two (.t (.two (.t (.loop [.slot 10 (.own 3 y3),.slot 11 (.map ⟨3,3,.int,.int⟩),.slot 14 (.own 3 y3),.s 15] (.t (.join [.slot 10 (.own 3 y3),.slot 11 (.map ⟨3,3,.int,.int⟩),.slot 14 (.own 3 y3)] (.t (.t (.t (.join [.slot 10 (.own 3 y3),.slot 11 (.map ⟨3,3,.int,.int⟩),.s 18] .no .no)))) .no)))) .no)) .no)))) .no)))))
theorem wi:FOk Tryz.prog 249 pe:=fk [] trivial Tryz.func249 .no
theorem yN:FOk Tryz.prog 251 qY:=fk [] trivial Tryz.func251 (.t (.t (.join [.s 7] .no (.two (.t (.loop [.s 7,.s 21] (.t (.t (.join [.s 7] .no .no))))) (.t (.two (.t (.loop [.s 10,.s 39] (.t (.t (.join [.s 10] .no .no))))) .no))))))
theorem Bv:FOk Tryz.prog 250 sO:=fk [(251,qY)] ⟨yN,trivial⟩ Tryz.func250 .no
theorem Fk:FOk Tryz.prog 200 vQ:=fk [(248,pD),(249,pe),(250,sO)] ⟨uQ,wi,Bv,trivial⟩ Tryz.func200 .no
theorem qg:FOk Tryz.prog 370 bO:=LU (f:=bO) (mF (f:=⟨bO.ps,bO.rs,bO.m,none⟩) (enters_of Tryz.func370 (by kernel_rfl) rfl) rfl (fun d=>rfl)) (Qf (V:=⟨tt,[],[(5,.raw)],8,[]⟩) Y9 trivial mixed Tryz.func370 rfl rfl (enters_of Tryz.func370 (by kernel_rfl) rfl) (bd rfl) .no (fun E a b=>by cases a <;> kernel_rfl))
theorem An:FOk Tryz.prog 336 rP:=fk [(370,bO)] ⟨qg,trivial⟩ Tryz.func336 (.t (.t (.two (.t (.loop [.slot 4 .boo,.row 3 4 y4] (.t (.t (.t (.loop [.slot 4 .boo,.s 16,.row 3 4 y4] (.t (.t (.two (.t (.t (.loop [.slot 4 .boo,.s 23,.row 3 4 y4] (.t (.t (.two (.at [.slot 4 .boo,.row 3 4 y4] .no) .no)))))) .no))))))))) .no)))
theorem my:FOk Tryz.prog 371 fv:=fk [] trivial Tryz.func371 (.t (.two (.t (.loop [.s 8] .no)) .no))
theorem uV:FOk Tryz.prog 372 nI:=fk [(110,dD)] ⟨fy,trivial⟩ Tryz.func372 .no
theorem xq:FOk Tryz.prog 337 pL:=fk [(371,fv),(372,nI)] ⟨my,uV,trivial⟩ Tryz.func337 (.t (.t (.t (.two (.t (.loop [.slot 6 (.own 65 y65),.slot 7 (.own 3 y3),.s 18] (.t (.t (.join [.slot 6 (.own 65 y65),.slot 7 (.own 3 y3)] (.t (.t (.t (.two (.t (.loop [.s 36,.box 10 [(.own 3 y3)]] (.t (.t (.two (.t (.join [.s 12] .no .no)) .no))))) (.t (.join [.slot 6 (.own 65 y65),.s 13,.gone 10] .no .no)))))) .no))))) .no))))
theorem wj:FOk Tryz.prog 292 pf:=fk [(336,rP),(337,pL)] ⟨An,xq,trivial⟩ Tryz.func292 (.t (.t (.two (.t (.loop [.slot 3 (.own 3 y3),.s 13] (.t (.t (.join [.slot 3 (.own 3 y3)] .no .no))))) (.t (.loop [.slot 3 (.own 3 y3),.s 6] .no)))))
theorem yO:FOk Tryz.prog 351 qZ:=fk [] trivial Tryz.func351 .no
theorem yP:FOk Tryz.prog 352 q7:=fk [] trivial Tryz.func352 .no
theorem Bw:FOk Tryz.prog 312 sP:=fk [(351,qZ),(352,q7)] ⟨yO,yP,trivial⟩ Tryz.func312 .no
theorem ka:FOk Tryz.prog 263 fg:=fk [(312,sP)] ⟨Bw,trivial⟩ Tryz.func263 (.t (.t (.t (.t (.t (.t (.two (.loop [.s 8,.row 7 3 (.int .i64)] .no) .no))))))) (an:=[(44,.bool)])
theorem Oz:FOk Tryz.prog 293 ER:=fk [(263,fg)] ⟨ka,trivial⟩ Tryz.func293 .no
theorem rr:FOk Tryz.prog 295 kM:=fk [] trivial Tryz.func295 (.t (.two (.t (.loop [.s 8] .no)) .no))
theorem sV:FOk Tryz.prog 294 mf:=fk [(295,kM)] ⟨rr,trivial⟩ Tryz.func294 .no
theorem sW:FOk Tryz.prog 296 mg:=fk [] trivial Tryz.func296 .no
theorem np:FOk Tryz.prog 266 jt:=fk [(314,vO)] ⟨Cy,trivial⟩ Tryz.func266 .no
theorem sX:FOk Tryz.prog 297 mi:=fk [(266,jt)] ⟨np,trivial⟩ Tryz.func297 .no
theorem uW:FOk Tryz.prog 252 nJ:=fk [(248,pD),(292,pf),(293,ER),(294,mf),(296,mg),(297,mi)] ⟨uQ,wj,Oz,sV,sW,sX,trivial⟩ Tryz.func252 .no
theorem Vp:FOk Tryz.prog 201 L6:=fk [(252,nJ)] ⟨uW,trivial⟩ Tryz.func201 .no
theorem Fl:FOk Tryz.prog 161 vR:=fk [(199,rO),(200,vQ),(201,L6)] ⟨Am,Fk,Vp,trivial⟩ Tryz.func161 .no
theorem ja:FOk Tryz.prog 162 dB:=fk [] trivial Tryz.func162 (.t (.two (.t (.loop [.s 8] .no)) .no))
theorem qi:FOk Tryz.prog 202 ju:=fk [] trivial Tryz.func202 (.t (.t (.two (.t (.loop [.s 13] .no)) .no)))
theorem fY:FOk Tryz.prog 203 cO:=fk [] trivial Tryz.func203 (.t (.t (.two (.t (.loop [.s 17] .no)) .no)))
theorem yQ:FOk Tryz.prog 204 q8:=fk [(110,dD)] ⟨fy,trivial⟩ Tryz.func204 .no
theorem sY:FOk Tryz.prog 164 oc:=fk [(202,ju),(203,cO),(204,q8)] ⟨qi,fY,yQ,trivial⟩ Tryz.func164 .no
theorem Mo:FOk Tryz.prog 163 Cq:=fk [(164,oc)] ⟨sY,trivial⟩ Tryz.func163 .no
theorem R3:FOk Tryz.prog 111 H9:=fk [(67,fG),(134,vN),(161,vR),(162,dB),(163,Cq)] ⟨hZ,Cx,Fl,ja,Mo,trivial⟩ Tryz.func111 (.t (.t (.two (.t (.loop [.s 13,.box 4 [(.own 97 y97),(.own 146 Gz)]] (.t (.t (.two (.t (.t (.t (.t (.join [.s 9,.box 4 [(.own 97 y97),(.own 146 Gz)],.gone 7] .no .no))))) .no))))) .no)))
theorem dt:FOk Tryz.prog 165 bI:=fk [] trivial Tryz.func165 (.t (.t (.two (.t (.loop [.s 17] .no)) .no)))
theorem c7:FOk Tryz.prog 166 bE:=fk [] trivial Tryz.func166 (.t (.t (.two (.t (.loop [.s 17] .no)) .no)))
theorem ph:FOk Tryz.prog 253 iu:=fk [] trivial Tryz.func253 (.t (.t (.two (.t (.loop [.s 13] .no)) .no)))
theorem GT:FOk Tryz.prog 205 xP:=fk [(253,iu)] ⟨ph,trivial⟩ Tryz.func205 .no
theorem CW:FOk Tryz.prog 167 uC:=fk [(205,xP)] ⟨GT,trivial⟩ Tryz.func167 .no
theorem yR:FOk Tryz.prog 112 q9:=fk [(164,oc),(165,bI),(166,bE),(167,uC)] ⟨sY,dt,c7,CW,trivial⟩ Tryz.func112 .no
theorem l7:FOk Tryz.prog 65 iS:=fk [(111,H9),(112,q9)] ⟨R3,yR,trivial⟩ Tryz.func65 .no
theorem oh:FOk Tryz.prog 66 kI:=fk [(64,fW)] ⟨jy,trivial⟩ Tryz.func66 .no
theorem ic:FOk Tryz.prog 113 dn:=fk [] trivial Tryz.func113 (.t (.two (.t (.loop [.s 8] .no)) .no))
theorem Fm:FOk Tryz.prog 114 vS:=fk [] trivial Tryz.func114 .no
theorem ua:FOk Tryz.prog 68 qf:=fk [(113,dn),(114,vS)] ⟨ic,Fm,trivial⟩ Tryz.func68 .no
theorem wk:FOk Tryz.prog 115 pg:=Jq Js (enters_of Tryz.func115 (by kernel_rfl) rfl)
theorem sZ:FOk Tryz.prog 169 od:=Vi Vk (by kernel_rfl) (by kernel_rfl) (enters_of Tryz.func169 (by kernel_rfl) rfl)
theorem Fo (n a b:Int) (w:World):Calls Tryz.prog 67 #[.int .i64 n,.int .i64 a,.int .i64 b] w fun e c=>e= .returned (.bool (decide (a<=n/\n<=b)))/\c=w:=by
 by_cases h:a<=n
 ·go_enter Tryz.func67,Tryz.ntmps67
  go_wp2
  go_ret
  simp[h]
 ·go_enter Tryz.func67,Tryz.ntmps67
  go_wp2
  go_ret
  simp
  try (intro k;omega)
theorem OA (s:ByteArray) (r:Int×Bool) (w:World) (hr:vt s=some r) (hL:LayW Tryz.prog w):Calls Tryz.prog 170 #[.string s] w fun e w'=>e= .returned (.tuple #[.int .i64 r.1,.bool r.2])/\Below w.heap.size w w':=by
 unfold vt at hr
 by_cases h10:10<s.size
 ·rw[if_pos h10] at hr
  obtain rfl:=ae hr
  go_enter Tryz.func170,Tryz.ntmps170
  go_wp2
  go_ret2
  exact ⟨rfl,Below.refl _ _⟩
 ·rw[if_neg h10] at hr
  have h18:s.size<=18:=by omega
  cases ha:Lib.atoi s.data.toList with
  | none =>
   rw[ha] at hr
   obtain rfl:=ae hr
   obtain ⟨tp,p,hv⟩:=hL.syn
   have hcon:=Any.strconv_Atoi_err_var Qk s h18 ha tp p w hv
   go_enter Tryz.func170,Tryz.ntmps170
   go_wp2_with (go_at_call 208;refine hcon.mono ?_;rintro e w' ⟨N,rfl,hN,hh,hb⟩)
   go_ret2
   exact ⟨rfl,hb⟩
  | some n =>
   rw[ha] at hr
   have hB:=Lib.atoi_bound ha (by simpa using h18)
   have hA:=Any.strconv_Atoi { Qk with } s n h18 ha w
   have hI:=fun t=>Any.strconv_Itoa Qj n (by omega) (by omega) (Lib.bytesWorld w 5 t) (Lib.bytesWorld_var w 5 t hL.tab)
   have hz: ∀t k os,Below w.heap.size w (Go.Sort.grow ((Lib.bytesWorld w 5 t).drewN k) os):=fun t k os=>by
    have h1:=Lib.bytesWorld_below w 5 t
    exact ⟨h1.os,h1.tape,h1.output,by have:=h1.size;simp only[Go.Sort.grow,Array.size_append];exact Nat.le_trans this (Nat.le_add_right _ _),fun b hb=>(Go.Sort.heap_grow_old ((Lib.bytesWorld w 5 t).drewN k) os (aC hb h1.size:b<((Lib.bytesWorld w 5 t).drewN k).heap.size)).trans (h1.block b hb)⟩
   replace hr:(if (⟨(Lib.itoa n).toArray⟩:ByteArray)=s/\ -999999999<=n/\n<=999999999 then some (n,true) else some (0,false))=some r:=hr
   generalize (⟨(Lib.itoa n).toArray⟩:ByteArray)=q at hr hI
   by_cases e1:q=s
   ·subst e1
    by_cases e2: -999999999<=n/\n<=999999999
    ·rw[if_pos ⟨rfl,e2.1,e2.2⟩] at hr
     obtain rfl:=ae hr
     go_enter Tryz.func170,Tryz.ntmps170
     go_wp2_with (first | (go_at_call 208;refine hA.mono ?_;rintro e w' ⟨rfl,t,rfl⟩) | (go_at_call 209;refine (hI _).mono ?_;rintro e w' ⟨rfl,k,os,rfl⟩) | (go_at_call 67;refine (Fo _ _ _ _).mono ?_;rintro e w' ⟨rfl,rfl⟩))
     go_ret2
     exact ⟨rfl,hz _ _ _⟩
    ·rw[if_neg fun k=>e2 k.2] at hr
     obtain rfl:=ae hr
     go_enter Tryz.func170,Tryz.ntmps170
     go_wp2_with (first | (go_at_call 208;refine hA.mono ?_;rintro e w' ⟨rfl,t,rfl⟩) | (go_at_call 209;refine (hI _).mono ?_;rintro e w' ⟨rfl,k,os,rfl⟩) | (go_at_call 67;refine (Fo _ _ _ _).mono ?_;rintro e w' ⟨rfl,rfl⟩))
     go_ret2
     exact ⟨rfl,hz _ _ _⟩
   ·rw[if_neg fun k=>e1 k.1] at hr
    obtain rfl:=ae hr
    have e2: ¬q.toList=s.toList:=fun k=>e1 (Go.WideShapes.bytes_inj (by rw[<-ByteArray.toList_eq,<-ByteArray.toList_eq];exact k))
    go_enter Tryz.func170,Tryz.ntmps170
    go_wp2_with (first | (go_at_call 208;refine hA.mono ?_;rintro e w' ⟨rfl,t,rfl⟩) | (go_at_call 209;refine (hI _).mono ?_;rintro e w' ⟨rfl,k,os,rfl⟩) | (go_at_call 67;refine (Fo _ _ _ _).mono ?_;rintro e w' ⟨rfl,rfl⟩))
    go_ret2
    exact ⟨rfl,hz _ _ _⟩
theorem CA:FOk Tryz.prog 170 vT:=Vj (enters_of Tryz.func170 (by kernel_rfl) rfl) OA
theorem Fp:FOk Tryz.prog 260 vU:=adx adz (by kernel_rfl) (enters_of Tryz.func260 (by kernel_rfl) rfl)
theorem CX:FOk Tryz.prog 209 uD:=Y6 Qj (enters_of Tryz.func209 (by kernel_rfl) rfl)
theorem Ao:FOk Tryz.prog 212 tV:=fk [(209,uD)] ⟨CX,trivial⟩ Tryz.func212 .no
theorem yc:FOk Tryz.prog 261 sp:=fk [(118,Bj),(212,tV)] ⟨Ii,Ao,trivial⟩ Tryz.func261 .no
theorem JG:FOk Tryz.prog 210 zW:=fk [(170,vT),(260,vU),(261,sp)] ⟨CA,Fp,yc,trivial⟩ Tryz.func210 .no
theorem CY:FOk Tryz.prog 262 uE:=Y7 Y8 Vl 9 (enters_of Tryz.func262 (by kernel_rfl) rfl)
theorem wm:FOk Tryz.prog 211 ra:=fk [(261,sp),(262,uE)] ⟨yc,CY,trivial⟩ Tryz.func211 (.t (.t (.t (.two (.t (.loop [.slot 3 (.own 9 y9),.s 15] (.t (.t (.two (.atX [.slot 3 (.own 9 y9)] .no) .no))))) .no))))
theorem GU:FOk Tryz.prog 171 xQ:=fk [(169,od),(210,zW),(211,ra)] ⟨sZ,JG,wm,trivial⟩ Tryz.func171 (.t (.t (.t (.two (.t (.loop [.s 16,.box 4 [(.own 238 (.prod y4 Ju))]] .no)) .no))))
theorem Mq:FOk Tryz.prog 213 Cr:=fk [] trivial Tryz.func213 (.t (.t (.two (.t (.loop [.s 3,.s 4] .no)) .no)))
theorem CZ:FOk Tryz.prog 172 uF:=fk [(67,fG),(211,ra),(212,tV),(213,Cr)] ⟨hZ,wm,Ao,Mq,trivial⟩ Tryz.func172 .no
theorem C1:FOk Tryz.prog 116 uG:=fk [(169,od),(170,vT),(171,xQ),(172,uF)] ⟨sZ,CA,GU,CZ,trivial⟩ Tryz.func116 .no
theorem OB:FOk Tryz.prog 69 ES:=Qi (ps:=[.rd y9]) (A:=y65) (E:=161) (t:=LZ) (B:=y3) (m:=m_i_ScanLog) (fk [(115,pg),(116,uG)] ⟨wk,C1,trivial⟩ Tryz.func69 (.t (.t (.t (.t (.two (.loop [.slot 5 (.own 3 y3),.slot 6 (.own 161 LZ),.s 7] .no) .no))))))
theorem Bx:FOk Tryz.prog 28 sQ:=fk [(64,fW),(65,iS),(66,kI),(67,fG),(68,qf),(69,ES)] ⟨jy,l7,oh,hZ,ua,OB,trivial⟩ Tryz.func28 (.t (.t (.t (.two (.t (.loop [.s 37] .no)) .no))))
theorem wo:FOk Tryz.prog 173 rQ:=fk [] trivial Tryz.func173 .no
theorem Ap:FOk Tryz.prog 133 tW:=fk [(173,rQ)] ⟨wo,trivial⟩ Tryz.func133 .no
theorem Fq:FOk Tryz.prog 84 vV:=fk [(133,tW)] ⟨Ap,trivial⟩ Tryz.func84 (.t (.t (.two (.t (.loop [.s 12,.box 3 [(.num .i64),(.own 68 y68)]] .no)) .no)))
theorem ta:FOk Tryz.prog 117 oe:=fk [(173,rQ)] ⟨wo,trivial⟩ Tryz.func117 (.t (.t (.two (.t (.loop [.s 16,.box 3 [(.num .i64),(.own 4 y4),(.own 65 y65)]] .no)) .no)))
theorem C2:FOk Tryz.prog 85 uH:=fk [(117,oe),(134,vN)] ⟨ta,Cx,trivial⟩ Tryz.func85 (.t (.t (.two (.t (.loop [.s 12,.box 3 [(.own 97 y97),(.own 146 Gz)]] .no)) (.two (.t (.loop [.s 27,.box 3 [(.own 97 y97),(.own 146 Gz)]] .no)) .no))))
theorem GV:FOk Tryz.prog 41 xR:=fk [(84,vV),(85,uH)] ⟨Fq,C2,trivial⟩ Tryz.func41 .no
theorem ig:FOk Tryz.prog 86 dq:=fk [] trivial Tryz.func86 (.t (.two (.t (.loop [.s 8] .no)) .no))
theorem C3:FOk Tryz.prog 87 uI:=fk [] trivial Tryz.func87 .no
theorem GW:FOk Tryz.prog 42 xS:=fk [(86,dq),(87,uI)] ⟨ig,C3,trivial⟩ Tryz.func42 .no
theorem OC:FOk Tryz.prog 88 ET:=fk [(64,fW),(65,iS),(66,kI),(68,qf)] ⟨jy,l7,oh,ua,trivial⟩ Tryz.func88 .no
theorem Aq:FOk Tryz.prog 70 rR:=fk [(65,iS),(68,qf),(117,oe)] ⟨l7,ua,ta,trivial⟩ Tryz.func70 .no
theorem xr:FOk Tryz.prog 174 pM:=fk [(67,fG)] ⟨hZ,trivial⟩ Tryz.func174 (.t (.t (.t (.two (.t (.loop [.s 32] (.t (.t (.two (.t (.two (.t (.loop [.s 38] .no)) .no)) .no))))) .no))))
theorem Ij:FOk Tryz.prog 119 Bk:=fk [(67,fG),(71,lT),(174,pM)] ⟨hZ,pF,xr,trivial⟩ Tryz.func119 (.t (.two (.t (.loop [.s 11] .no)) .no))
theorem R4:FOk Tryz.prog 214 Ia:=fk [(263,fg)] ⟨ka,trivial⟩ Tryz.func214 (.t (.t (.t (.two (.t (.loop [.slot 6 (.own 3 (.int .i64)),.s 18,.row 5 3 y3] .no)) (.two (.loop [.slot 6 (.own 3 (.int .i64)),.row 5 3 y3] (.t (.two (.t (.loop [.slot 6 (.own 3 y3),.s 42,.row 5 3 y3] (.t (.t (.two (.at [.slot 6 (.own 3 y3),.row 5 3 y3] .no) .no))))) .no))) .no))))) (an:=[(34,.bool)])
theorem yS:FOk Tryz.prog 216 tX:=fk [] trivial Tryz.func216 (.t (.t (.two (.t (.loop [.slot 3 (.own 3 y3),.s 4] (.t (.join [.slot 3 (.own 3 y3)] .no .no)))) .no)))
theorem Vq:FOk Tryz.prog 313 L7:=fk [] trivial Tryz.func313 .no
theorem Zb:FOk Tryz.prog 264 Qo:=fk [(313,L7)] ⟨Vq,trivial⟩ Tryz.func264 (.t (.t (.two (.t (.loop [.s 13,.row 3 288 ahC] .no)) .no)))
theorem Fs:FOk Tryz.prog 217 yI:=fk [(266,jt)] ⟨np,trivial⟩ Tryz.func217 (.t (.t (.two (.t (.loop [.s 7,.s 8] .no)) .no)))
theorem Vr:FOk Tryz.prog 265 L8:=fk [(216,tX),(217,yI),(266,jt)] ⟨yS,Fs,np,trivial⟩ Tryz.func265 (.t (.t (.two (.t (.loop [.s 9,.s 18] (.t (.t (.two (.t (.t (.loop [.s 9,.s 28] (.t (.t (.join [.s 9] .no .no)))))) .no))))) .no)))
theorem C4:FOk Tryz.prog 215 uJ:=fk [(216,tX),(264,Qo),(265,L8)] ⟨yS,Zb,Vr,trivial⟩ Tryz.func215 (.t (.t (.t (.two (.t (.loop [.s 26,.row 6 65 y65] (.t (.t (.two (.t (.t (.loop [.s 9,.row 6 65 y65] (.t (.two (.t (.loop [.s 38,.row 6 65 y65] (.t (.t (.two (.t (.t (.loop [.s 55,.row 6 65 y65] .no))) .no))))) .no))))) .no))))) .no))))
theorem By:FOk Tryz.prog 175 sR:=aiX (V:=⟨tt,[(119,Bk),(214,Ia),(215,uJ)],[(1000000,.raw)],26,[]⟩) Y9 ⟨Ij,R4,C4,trivial⟩ mixed Tryz.func175 rfl rfl (enters_of Tryz.func175 (by kernel_rfl) rfl) ⟨rfl,rfl⟩ (bd rfl) rfl .no (fun d=>by kernel_rfl)
theorem JH:FOk Tryz.prog 176 zX:=fk [(216,tX),(217,yI)] ⟨yS,Fs,trivial⟩ Tryz.func176 (.t (.two (.t (.loop [.s 14] (.t (.t (.two (.t (.t (.loop [.s 24] .no))) .no))))) .no))
theorem sq:FOk Tryz.prog 218 lf:=Vh N2 (enters_of Tryz.func218 (by kernel_rfl) rfl) 3
theorem qj:FOk Tryz.prog 219 jv:=fk [] trivial Tryz.func219 (.t (.t (.two (.t (.loop [.s 3] (.t (.two (.t (.two (.t (.two (.t (.loop [.s 3,.s 5,.row 0 3 y3] (.t (.two (.at [.s 3,.row 0 3 y3] .no) .no)))) .no)) .no)) .no)))) .no))) (an:=[(28,.raw),(56,.raw),(59,.raw)])
theorem JI:FOk Tryz.prog 177 zY:=fk [(173,rQ),(218,lf),(219,jv)] ⟨wo,sq,qj,trivial⟩ Tryz.func177 .no
theorem Ft:FOk Tryz.prog 120 vW:=fk [(175,sR),(176,zX),(177,zY)] ⟨By,JH,JI,trivial⟩ Tryz.func120 (.t (.t (.t (.two (.t (.loop [.slot 7 (.own 3 y3),.s 20] (.t (.t (.two (.at [.slot 7 (.own 3 y3)] .no) .no))))) .no))))
theorem GX:FOk Tryz.prog 72 xT:=fk [(119,Bk),(120,vW)] ⟨Ij,Ft,trivial⟩ Tryz.func72 (.t (.t (.t (.two (.t (.loop [.slot 5 (.own 75 y75),.s 17] (.t (.t (.two (.t (.t (.loop [.slot 5 (.own 75 y75),.s 25] .no))) .no))))) .no))))
theorem C5:FOk Tryz.prog 29 uK:=fk [(70,rR),(71,lT),(72,xT)] ⟨Aq,pF,GX,trivial⟩ Tryz.func29 .no
theorem OD:FOk Tryz.prog 184 EU:=fk [(64,fW),(66,kI),(67,fG),(133,tW)] ⟨jy,oh,hZ,Ap,trivial⟩ Tryz.func184 .no
theorem JJ:FOk Tryz.prog 135 zZ:=fk [(29,uK),(184,EU)] ⟨C5,OD,trivial⟩ Tryz.func135 .no
theorem nC:FOk Tryz.prog 271 gu:=fk [] trivial Tryz.func271 (.t (.two (.t (.loop [.s 8] .no)) .no))
theorem nr:FOk Tryz.prog 224 fX:=fk [(271,gu)] ⟨nC,trivial⟩ Tryz.func224 (.t (.t (.t (.two (.t (.loop [.s 5,.s 6,.row 0 75 y75] (.t (.two (.at [.s 5,.row 0 75 y75] .no) .no)))) .no)))) (an:=[(38,.raw),(41,.raw)])
theorem nD (a b:Int) (W:World):Calls Tryz.prog 327 #[.int .i64 a,.int .i64 b] W fun e c=>e= .returned (.int .i64 (cmpI a b))/\c=W:=by
 unfold cmpI;by_cases h:a<b
 ·go_enter Tryz.func327,Tryz.ntmps327
  go_wp2
  go_ret
  simp[h]
 ·by_cases k:b<a
  ·go_enter Tryz.func327,Tryz.ntmps327
   go_wp2
   go_ret
   simp[h,k]
  ·go_enter Tryz.func327,Tryz.ntmps327
   go_wp2
   go_ret
   simp[h,k]
theorem nE (x y:Int×Int) (W:World):Calls Tryz.prog 273 #[.agg #[.int .i64 x.1,.int .i64 x.2],.agg #[.int .i64 y.1,.int .i64 y.2]] W fun e b=>e= .returned (.int .i64 (RN x y))/\ ∃q os',b=Go.Sort.grow (W.drewN q) os':=by
 unfold RN;have a:=nD;generalize cmpI=c at a⊢;by_cases h:x.1=y.1
 ·rw[if_pos h]
  go_enter Tryz.func273,Tryz.ntmps273
  go_wp2_with (go_at_call 327;refine (a _ _ _).mono ?_;rintro e b ⟨rfl,rfl⟩)
  go_ret
  exact ⟨rfl,0,_,by rw[Go.Sort.alloc_eq_grow,Go.Sort.alloc_eq_grow,Go.Sort.grow_grow];rfl⟩
 ·rw[if_neg h]
  go_enter Tryz.func273,Tryz.ntmps273
  go_wp2_with (go_at_call 327;refine (a _ _ _).mono ?_;rintro e b ⟨rfl,rfl⟩)
  go_ret
  exact ⟨rfl,0,_,by rw[Go.Sort.alloc_eq_grow,Go.Sort.alloc_eq_grow,Go.Sort.grow_grow];rfl⟩
theorem oi:FOk Tryz.prog 272 gZ:=Ve Gy (by intro w;kernel_rfl) (by intro w;kernel_rfl) Y1 Y2 (enters_of Tryz.func273 (by kernel_rfl) rfl) (fun _ _ _ _ _ _ _ _ x y=>nE x y _) (enters_of Tryz.func272 (by kernel_rfl) rfl) 75
theorem Fu:FOk Tryz.prog 327 vX:=fk [] trivial Tryz.func327 .no
theorem C6:FOk Tryz.prog 273 uL:=fk [(327,vX)] ⟨Fu,trivial⟩ Tryz.func273 .no
theorem pj:FOk Tryz.prog 274 iw:=fk [] trivial Tryz.func274 (.t (.t (.two (.t (.loop [.s 3] (.t (.two (.t (.two (.t (.two (.t (.loop [.s 3,.s 5,.row 0 75 y75] (.t (.two (.at [.s 3,.row 0 75 y75] .no) .no)))) .no)) .no)) .no)))) .no))) (an:=[(28,.raw),(56,.raw),(59,.raw)])
theorem OE:FOk Tryz.prog 225 EV:=fk [(272,gZ),(273,uL),(274,iw)] ⟨oi,C6,pj,trivial⟩ Tryz.func225 .no
theorem qk:FOk Tryz.prog 275 jw:=fk [] trivial Tryz.func275 (.t (.two (.t (.loop [.s 8] .no)) .no))
theorem oj:FOk Tryz.prog 227 hY:=fk [(275,jw)] ⟨qk,trivial⟩ Tryz.func227 .no
theorem yT:FOk Tryz.prog 226 rb:=fk [(227,hY)] ⟨oj,trivial⟩ Tryz.func226 .no
theorem Bz:FOk Tryz.prog 185 sS:=fk [(224,fX),(225,EV),(226,rb)] ⟨nr,OE,yT,trivial⟩ Tryz.func185 .no
theorem C7:FOk Tryz.prog 136 uM:=fk [(185,sS)] ⟨Bz,trivial⟩ Tryz.func136 .no
theorem OF:FOk Tryz.prog 89 EW:=fk [(135,zZ),(136,uM)] ⟨JJ,C7,trivial⟩ Tryz.func89 (.t (.t (.t (.two (.t (.at [.box 13 [(.num .i64),.boo,(.own 75 y75),(.own 75 y75)],.gone 11] .no)) .no))))
theorem Fv:FOk Tryz.prog 43 vY:=fk [(88,ET),(89,EW)] ⟨OC,OF,trivial⟩ Tryz.func43 .no
theorem GY:FOk Tryz.prog 15 xU:=fk [(28,sQ),(41,xR),(42,xS),(43,vY)] ⟨Bx,GV,GW,Fv,trivial⟩ Tryz.func15 .no
theorem R5:FOk Tryz.prog 31 Ib:=fk [] trivial Tryz.func31 .no
theorem OG:FOk Tryz.prog 9 EX:=fk [(31,Ib)] ⟨R5,trivial⟩ Tryz.func9 (.t (.t (.two (.t (.loop [.s 5] .no)) .no)))
theorem OH:FOk Tryz.prog 44 EY:=fk [(9,EX)] ⟨OG,trivial⟩ Tryz.func44 .no
theorem JK:FOk Tryz.prog 16 Aa:=fk [(44,EY)] ⟨OH,trivial⟩ Tryz.func16 .no
theorem JL:FOk Tryz.prog 12 Ab:=fk [] trivial Tryz.func12 (.t (.two (.t (.loop [.par 0 [] 75 y75,.s 1,.s 5] .no)) .no))
theorem JM:FOk Tryz.prog 45 Ac:=fk [(12,Ab)] ⟨JL,trivial⟩ Tryz.func45 .no
theorem Fw:FOk Tryz.prog 17 vZ:=fk [(45,Ac)] ⟨JM,trivial⟩ Tryz.func17 .no
theorem CB:FOk Tryz.prog 137 v7:=fk [] trivial Tryz.func137 (.t (.two (.t (.loop [.s 1,.s 5] .no)) .no))
theorem JN:FOk Tryz.prog 138 Ad:=fk [] trivial Tryz.func138 (.t (.two (.t (.loop [.s 1,.s 5] .no)) .no))
theorem GZ:FOk Tryz.prog 90 xV:=fk [(137,v7),(138,Ad)] ⟨CB,JN,trivial⟩ Tryz.func90 (.t (.two (.t (.loop [.s 1,.s 5] .no)) .no))
theorem Fx:FOk Tryz.prog 46 v8:=fk [(90,xV)] ⟨GZ,trivial⟩ Tryz.func46 .no
theorem JO:FOk Tryz.prog 139 Ae:=fk [] trivial Tryz.func139 (.t (.two (.t (.loop [.s 1,.s 5] .no)) .no))
theorem JP:FOk Tryz.prog 140 Af:=fk [(137,v7)] ⟨CB,trivial⟩ Tryz.func140 (.t (.two (.t (.loop [.s 1,.s 5] .no)) .no))
theorem Ar:FOk Tryz.prog 91 rS:=fk [(139,Ae),(140,Af)] ⟨JO,JP,trivial⟩ Tryz.func91 (.t (.two (.t (.loop [.s 1,.s 5] .no)) .no))
theorem G0:FOk Tryz.prog 141 xW:=fk [] trivial Tryz.func141 (.t (.two (.t (.loop [.s 1,.s 5] .no)) .no))
theorem yU:FOk Tryz.prog 92 re:=fk [(141,xW)] ⟨G0,trivial⟩ Tryz.func92 (.t (.two (.t (.loop [.s 1,.s 5] .no)) .no))
theorem C8:FOk Tryz.prog 47 uN:=fk [(91,rS),(92,re)] ⟨Ar,yU,trivial⟩ Tryz.func47 .no
theorem yV:FOk Tryz.prog 48 rf:=fk [] trivial Tryz.func48 (.t (.two (.t (.loop [.s 1,.s 5] .no)) .no))
theorem G5:FOk Tryz.prog 18 xX:=fk [(46,v8),(47,uN),(48,rf)] ⟨Fx,C8,yV,trivial⟩ Tryz.func18 .no
theorem JQ:FOk Tryz.prog 13 Ag:=fk [] trivial Tryz.func13 (.t (.two (.t (.loop [.s 1,.s 5] .no)) .no))
theorem JR:FOk Tryz.prog 49 Ah:=fk [(13,Ag)] ⟨JQ,trivial⟩ Tryz.func49 .no
theorem Fy:FOk Tryz.prog 19 wc:=fk [(49,Ah)] ⟨JR,trivial⟩ Tryz.func19 .no
theorem wq:FOk Tryz.prog 4 we:=fk [(5,Cc),(7,Cf),(10,Cj),(11,xC),(14,xN),(15,xU),(16,Aa),(17,vZ),(18,xX),(19,wc)] ⟨Mb,Me,Mh,GG,GR,GY,JK,Fw,G5,Fy,trivial⟩ Tryz.func4 .no
end R
namespace D
open Go.RowKit
theorem wt (f:(Int×Yq5)×Yq9×(List Yq8)×ByteArray) (g:Int) (r:Bool) (p:fU f g=some r) {I:Hp} {w0:World} (c:Value) (a:Value) (d:Value) (b:Value) (k:(ah 129 (aL (ah 3 be) (ah 225 (aL be (aL be (aL be be)))))).rd I [c] f.1.2) (i:(ah 131 (aL be (aL (ah 4 rp) (ah 65 (ah 3 be))))).rd I [a] f.2.1.1) (h:(ah 137 (aL be (aL (ah 267 (aL be (aL be (aL be be)))) be))).rd I [d] f.2.1.2) (j:(ah 106 (aL be (aL be be))).rd I [b] f.2.2.1) (q:Lay Tryz.prog I):Con Tryz.prog 4 #[.agg #[.int .i64 f.1.1,c,a,d,b,.string f.2.2.2],.int .i64 g] I w0 [] (fun v=>v= .bool r) (fun _=>[]):=fun w C o =>
 ((R.wq).con rfl w0 I undef [.agg #[.int .i64 f.1.1,c,a,d,b,.string f.2.2.2],.int .i64 g] (f,(g,())) r q ⟨_,_,rfl,⟨[.int .i64 f.1.1,c,a,d,b,.string f.2.2.2],rfl,⟨_,_,rfl,⟨_,_,rfl,rfl,k⟩,⟨_,_,rfl,⟨_,_,rfl,i,h⟩,⟨_,_,rfl,j,rfl⟩⟩⟩⟩,⟨_,_,rfl,⟨[.int .i64 g],rfl,rfl⟩,rfl⟩⟩ p w C o).mono fun e n ⟨v,m,_,l⟩=>by
  obtain ⟨h1,s⟩:=R.zm (h1:=fun _=>rfl) (show St I w0 n (Ch.own R.Ty.bool.rep [v] r::C) from l);exact ⟨v,m,(List.cons.inj h1).1,s⟩
def I64 (n:Int):Prop:= -9223372036854775808<=n/\n<=9223372036854775807
class Data (α:Type) where
 lim:α->Prop
 sm:α->Prop
instance:Data Int:=⟨I64,fun _=>True⟩
instance:Data Bool:=⟨fun _=>True,fun _=>True⟩
instance:Data ByteArray:=⟨fun s=>s.size<=9223372036854775807,fun s=>s.size<=1048576⟩
instance {α β:Type} [Data α] [Data β] :Data (α×β):=⟨fun x=>Data.lim x.1/\Data.lim x.2,fun x=>Data.sm x.1/\Data.sm x.2⟩
instance {α:Type} [Data α] :Data (List α):=⟨fun xs=>xs.length<=9223372036854775807/\ ∀x,x∈xs->Data.lim x,fun xs=>xs.length<=1048576/\ ∀x,x∈xs->Data.sm x⟩
structure Opens (P:Program) (t:TypeId) {α:Type} [Data α] (R:Rep α):Prop where
 out: ∀ {H:Type} (enc:TypeId×Value->H) (w:World) (fuel:Nat) (cs:List Value) (x:DataW H×List MemPlace),DataW.trod enc P w 0 (fun _=>true) true fuel t cs=some x-> ∃a:α,R.rd (hp w) cs a/\Data.lim a
theorem Vs {P:Program} {t:TypeId} (h:P.underlying t=some (.int .i64)):Opens P t be:=by
 constructor;intro H a w fuel d x b;obtain ⟨n,rfl,-,c⟩:=DataW.trod_int h b;refine ⟨n,rfl,show I64 n from ?_⟩;simp[Lit.wf,IntKind.min,IntKind.max,IntKind.signed,IntKind.bits] at c;unfold I64;omega
theorem R6 {P:Program} {t:TypeId} (h:P.underlying t=some .bool):Opens P t rp:=by
 constructor;intro H a w fuel c x b;obtain ⟨n,rfl,-⟩:=DataW.trod_bool h b;exact ⟨n,rfl,trivial⟩
theorem Mr {P:Program} {t:TypeId} (h:P.underlying t=some .string):Opens P t Iy:=by
 constructor;intro H a w fuel d x c;obtain ⟨n,rfl,-,b⟩:=DataW.trod_string h c;exact ⟨n,rfl,show n.size<=_ by unfold maxLen at b;omega⟩
theorem iT {P:Program} {t e:TypeId} {α:Type} [Data α] {R:Rep α} {E:TypeId} (h:P.underlying t=some (.slice e)) (hc:P.cellsOf e=R.size) (V:0<R.size) (L:Opens P e R):Opens P t (ah E R):=by
 constructor;intro H G w fuel cs x B;rcases Go.Deep.open_slice h B with ⟨rfl,-⟩ | ⟨a,len,cap,m,n,D,Pl,rfl,-,hl,S,M,-,A⟩
 ·exact ⟨[],⟨none,0,rfl,by simp,.inl rfl⟩,Nat.zero_le _,fun x B=>by cases B⟩
 have K:m=cap:=by simpa using M
 subst K;rw[hc] at A;by_cases hz:len=0
 ·subst hz;exact ⟨[],⟨some a,m,rfl,by simp,.inl rfl⟩,Nat.zero_le _,fun x B=>by cases B⟩
 ·have l: ∀i,i<len-> ∃c:List Value,∃y:α,c.length=R.size/\(∀j,j<R.size->w.cell? ((a.add (i*R.size)).add j)=c[j]?)/\R.rd (hp w) c y/\Data.lim y:=by
   intro i k;obtain ⟨c,u,F⟩:=A i (by omega);obtain ⟨-,J,U⟩:=World.cells?_some u;obtain ⟨y,q⟩:=L.out G w _ _ _ F;exact ⟨c,y,J,U,q⟩
  obtain ⟨Z,y0,hc0,N,-⟩:=l 0 (by omega);have d:=N 0 V;have r: ∃v,Z[0]? =some v:=⟨_,List.getElem?_eq_getElem (by omega)⟩;obtain ⟨v,hv⟩:=r;rw[hv] at d;have ha:(a.add (0*R.size)).add 0=a:=by simp[Addr.add]
  rw[ha] at d;obtain ⟨b,off,spot⟩:=a;have W: ∃f T C,w.heap[b]? =some (.cells f T C)/\spot=none:=by
   simp only[World.cell?] at d;split at d
   ·rename_i f T C I;cases spot with
    | none=>exact ⟨f,T,C,I,rfl⟩
    | some s=>simp at d
   ·simp at d
  obtain ⟨f,T,C,O,rfl⟩:=W;have z: ∀i j,(Addr.add ⟨b,off,none⟩ i).add j=⟨b,off+i+j,none⟩:=by
   intro i j;by_cases u:i=0 <;> by_cases F:j=0 <;> simp[Addr.add,u,F,Nat.add_assoc]
  haveI:Inhabited α:=⟨y0⟩
  obtain ⟨X,Q⟩:=Go.Deep.choose_lt (α:=α) (n:=len) (p:=fun i y=> ∃c:List Value,c.length=R.size/\(∀j,j<R.size->f.toList[off+i*R.size+j]? =c[j]?)/\R.rd (hp w) c y/\Data.lim y) (fun i k=>by
   obtain ⟨c,y,u,F,J⟩:=l i k;refine ⟨y,c,u,fun j hj=>?_,J⟩
   have:=F j hj
   rw[z] at this;simp only[World.cell?,O] at this;simpa using this)
  have g:((List.range len).map X).length=len:=by simp
  have o: ∀i y,((List.range len).map X)[i]? =some y->i<len/\y=X i:=fun i y q=>by
   have k:i<len:=by have:=(List.getElem?_eq_some_iff.1 q).1;omega
   exact ⟨k,by simpa [k] using q.symm⟩
  refine ⟨(List.range len).map X,⟨some ⟨b,off,none⟩,m,by rw[g],by rw[g];unfold maxLen at S;unfold lim;omega,.inr ⟨b,off,f,T,C,rfl,O,fun i y q=>?_⟩⟩,by rw[g];unfold maxLen at S;omega,fun y q=>?_⟩
  ·obtain ⟨k,rfl⟩:=o i y q;obtain ⟨c,Y,e2,e3,-⟩:=Q i k;exact ⟨c,Y,e2,e3⟩
  ·obtain ⟨i,k,L⟩:=List.mem_iff_getElem?.1 q |>.imp fun i k=>o i y k;obtain ⟨-,-,-,-,e4⟩:=Q i k;rw[L];exact e4
structure OpensFs (P:Program) (fs:List Field) (o:Nat) {α:Type} [Data α] (R:Rep α):Prop where
 out: ∀ {H:Type} (enc:TypeId×Value->H) (w:World) (fuel:Nat) (cs:List Value),cs.length=o+R.size->
  (∀f∈fs,∃x,DataW.trod enc P w 0 (fun _=>true) true fuel f.type ((cs.drop f.offset).take (P.cellsOf f.type))=some x)-> ∃a:α,R.rd (hp w) (cs.drop o) a/\Data.lim a
theorem ji {P:Program} {f:Field} {o:Nat} {α:Type} [Data α] {R:Rep α} (c:f.offset=o) (d:P.cellsOf f.type=R.size) (h:Opens P f.type R):OpensFs P [f] o R:=by
 constructor;intro H b w fuel g e a;obtain ⟨x,a⟩:=a f (by simp);rw[c,d,List.take_of_length_le (by rw[bF];omega)] at a;exact h.out b w _ _ _ a
theorem cR {P:Program} {f:Field} {fs:List Field} {o:Nat} {α β:Type} [Data α] [Data β] {R:Rep α} {S:Rep β} (m:f.offset=o) (n:P.cellsOf f.type=R.size) (h:Opens P f.type R) (hs:OpensFs P fs (o+R.size) S):OpensFs P (f::fs) o (aL R S):=by
 constructor;intro H c w fuel e k d;have p:e.length=o+(R.size+S.size):=k;obtain ⟨b,l,i⟩:=hs.out c w fuel e (by omega) (fun g r=>d g (by simp[r]));obtain ⟨x,d⟩:=d f (by simp);rw[m,n] at d;obtain ⟨a,q,j⟩:=h.out c w _ _ _ d;refine ⟨(a,b),⟨(e.drop o).take R.size,e.drop (o+R.size),?_,q,l⟩,j,i⟩;rw[<-List.drop_drop,List.take_append_drop]
theorem eT {P:Program} {t:TypeId} {fs:Array Field} {α:Type} [Data α] {R:Rep α} (h:P.underlying t=some (.struct fs)) (o:P.cellsOf t=R.size) (e:OpensFs P fs.toList 0 R):Opens P t R:=by
 constructor;intro H a w fuel c x g;obtain ⟨l,n,-,-,m,p,b⟩:=DataW.trod_struct h g
 have:=e.out a w n c (by omega) (fun f j=>by
  obtain ⟨i,k,rfl⟩:=List.getElem_of_mem j;have d:fs[i]? =some fs.toList[i]:=by simp
  exact ⟨_,(b i _ d).trans (List.getElem?_eq_getElem (by simp at k;omega))⟩)
 simpa using this
theorem St.below {w0 w:World} {cs:List Ch} (h:St (hp w0) w0 w cs):Below w0.heap.size w0 w:=by
 obtain ⟨⟨c,i,g,a⟩,f,-⟩:=h;refine ⟨c,i,g,a,fun b d=>?_⟩;have e:w0.heap[b]? =some w0.heap[b]:=Array.getElem?_eq_getElem d;rw[e];exact f b _ e
theorem cy {n:Int} (h1: -9223372036854775808<=n) (a:n<=9223372036854775807):i64.wrap n=n:=by
 simp only[IntKind.wrap,IntKind.bits,IntKind.signed,Bool.true_and];split <;> rename_i h <;> simp at h <;> omega
theorem af {i:Nat} (h:i<9223372036854775807):i64.wrap ((i:Int)+1)=((i+1:Nat):Int):=by
 rw[cy (by omega) (by omega)];rfl
theorem au {α:Type} {xs:List α} {i:Nat} (h:i<xs.length):aK xs (i:Int)=some (xs[i]):=by
 unfold aK;rw[if_pos (Int.natCast_nonneg _)];simp[h]
theorem br {i n:Nat} (h:i<n):decide ((i:Int)<(n:Int))=true:=by simp[h]
theorem bf {n:Nat} :decide ((n:Int)<(n:Int))=false:=by simp
theorem dC (k:Nat) (h:k<=9223372036854775807):k<aP:=by unfold aP;omega
theorem yd {α:Type} {b n:Nat} {z:α} (h:n*b<=140737488355328):mkI b (n:Int) z=some (List.replicate n z):=by
 unfold mkI;rw[if_pos ⟨Int.natCast_nonneg _,by simpa using h⟩];simp
theorem Ms {R S:Type} {f:S->Option (Out R S)} (inv:Nat->S) (N:Nat) (h: ∀i,i<N->f (inv i)=some (.nxt (inv (i+1)))): ∀(m i k:Nat),i+m=N->aj f (k+m) (inv i)=aj f k (inv N)
 | 0,i,k,e=>by rw[show i=N by omega];rfl
 | m+1,i,k,e=>by
  rw[<-Nat.add_assoc,aj,h i (by omega)];exact Ms inv N h m (i+1) k (by omega)
theorem Mt {R S:Type} {f:S->Option (Out R S)} (inv:Nat->S) (N:Nat) {s:S} (h: ∀i,i<N->f (inv i)=some (.nxt (inv (i+1)))) (a:f (inv N)=some (.brk s)) (b:N<aP):aj f aP (inv 0)=some (.brk s):=by
 have e:aP=(aP - N - 1)+1+N:=by omega
 rw[e,Ms inv N h N 0 _ (by omega),aj,a]
theorem toL {R α:Type} {f:List α×Int->Option (Out R (List α×Int))} {z:α} (xs:List α) (g:xs.length<=9223372036854775807)
  (a: ∀ys i (h:i<xs.length),ys.length=xs.length->f (ys,(i:Int))=some (.nxt (ys.set i xs[i],((i+1:Nat):Int)))) (b: ∀ys,ys.length=xs.length->f (ys,(xs.length:Int))=some (.brk (ys,(xs.length:Int)))) :
  aj f aP (List.replicate xs.length z,0)=some (.brk (xs,(xs.length:Int))):=by
 have j:(List.replicate xs.length z,(0:Int))=(fun i:Nat=>(xs.take i++(List.replicate xs.length z).drop i,(i:Int))) 0:=by simp
 rw[j];refine Mt (fun i:Nat=>(xs.take i++(List.replicate xs.length z).drop i,(i:Int))) xs.length (fun i c=>?_) ?_ (dC _ g)
 ·have d:(xs.take i++(List.replicate xs.length z).drop i).length=xs.length:=by
   rw[aF,aB,bF,List.length_replicate];omega
  rw[a _ i c d];congr 3;have e:(xs.take i).length=i:=by rw[aB];omega
  rw[List.set_append_right _ _ (by omega),e,Nat.sub_self,List.drop_eq_getElem_cons (by rw[List.length_replicate];exact c),List.set_cons_zero,List.take_succ_eq_append_getElem c,aD]
  rfl
 ·have:=b xs rfl
  rw[List.take_of_length_le (aH _),List.drop_of_length_le (by rw[List.length_replicate];exact aH _),List.append_nil];exact this
def M8 {α:Type} [Data α] (m:α->Int->Option Int):Prop:= ∀x l,Data.lim x->0<=l->l<=1048576-> ∃r,m x l=some r/\(r<0\/(0<=r/\r<=l/\Data.sm x))
def JS {α:Type} [Data α] (m:α->Option α):Prop:= ∀x,Data.sm x->m x=some x
def Fz {α:Type} [Data α] [DecidableEq α] (m:α->α->Option Bool):Prop:= ∀x y,Data.sm x->Data.sm y->m x y=some (decide (x=y))
theorem aiJ {α:Type} [Data α] {f:Int×Int->Option zF } (xs:List α)
  (a: ∀i (h:i<xs.length) l,0<=l->l<=1048576-> ∃r,f (l,(i:Int))=some (if r<0 then .ret (-1) else .nxt (r,((i+1:Nat):Int)))/\(r<0\/(0<=r/\r<=l/\Data.sm xs[i])))
  (b: ∀l,f (l,(xs.length:Int))=some (.brk (l,(xs.length:Int)))): ∀(m i k:Nat) (l:Int),i+m=xs.length->m<k->0<=l->l<=1048576->
   aj f k (l,(i:Int))=some (.ret (-1))\/ ∃r,aj f k (l,(i:Int))=some (.brk (r,(xs.length:Int)))/\0<=r/\r<=l/\ ∀j (h:j<xs.length),i<=j->Data.sm xs[j]
 | 0,i,k,l,e,hk,h0,h1=>by
  obtain ⟨k,rfl⟩: ∃q,k=q+1:=⟨k - 1,by omega⟩;obtain rfl:i=xs.length:=by omega
  exact .inr ⟨l,by rw[aj,b],h0,Int.le_refl _,fun j g u=>by omega⟩
 | m+1,i,k,l,e,hk,h0,h1=>by
  obtain ⟨k,rfl⟩: ∃q,k=q+1:=⟨k - 1,by omega⟩;obtain ⟨r,p,c⟩:=a i (by omega) l h0 h1;rw[aj,p];rcases c with c | ⟨c,w,t⟩
  ·rw[if_pos c];exact .inl rfl
  ·rw[if_neg (by omega)];rcases aiJ xs a b m (i+1) k r (by omega) (by omega) c (by omega) with h | ⟨q,n,o,v,s⟩
   ·exact .inl h
   ·refine .inr ⟨q,n,o,by omega,fun j g u=>?_⟩;by_cases d:j=i
    ·subst d;exact t
    ·exact s j g (by omega)
theorem szL {α:Type} [Data α] {f:Int×Int->Option zF } (xs:List α) {l:Int} (m:xs.length<=9223372036854775807)
  (a: ∀i (h:i<xs.length) l,0<=l->l<=1048576-> ∃r,f (l,(i:Int))=some (if r<0 then .ret (-1) else .nxt (r,((i+1:Nat):Int)))/\(r<0\/(0<=r/\r<=l/\Data.sm xs[i])))
  (b: ∀l,f (l,(xs.length:Int))=some (.brk (l,(xs.length:Int)))) (o:0<=l) (h1:l<=1048576) :
  ∃r,(if decide (i64.wrap (l - (xs.length:Int))<0) then (some (-1)) else (aJ (aj f aP (i64.wrap (l - (xs.length:Int)),0)) (fun r=>some r) (fun d=>some d.1)))=some r/\(r<0\/(0<=r/\r<=l/\Data.sm xs)):=by
 rw[cy (by omega) (by omega)];by_cases h:l - (xs.length:Int)<0
 ·exact ⟨-1,by rw[if_pos (decide_eq_true h)],.inl (by decide)⟩
 ·rw[if_neg (by simpa using h)];rcases aiJ xs a b xs.length 0 aP (l - xs.length) (by omega) (dC _ m) (by omega) (by omega) with e | ⟨r,e,c,p,g⟩
  ·exact ⟨-1,by rw[show ((0:Int))=((0:Nat):Int) from rfl,e];rfl,.inl (by decide)⟩
  ·refine ⟨r,by rw[show ((0:Int))=((0:Nat):Int) from rfl,e];rfl,.inr ⟨c,by omega,by omega,fun x k=>?_⟩⟩;obtain ⟨j,n,rfl⟩:=List.getElem_of_mem k;exact g j n (Nat.zero_le _)
theorem szF {α:Type} [Data α] (xs:List α) {l:Int} (b:xs.length<=9223372036854775807) (a: ∀x:α,Data.sm x) (c:0<=l) (h1:l<=1048576) :
  ∃r,(if decide (i64.wrap (l - (xs.length:Int))<0) then (some (-1)) else (some (i64.wrap (l - (xs.length:Int)))))=some r/\(r<0\/(0<=r/\r<=l/\Data.sm xs)):=by
 rw[cy (by omega) (by omega)];by_cases h:l - (xs.length:Int)<0
 ·exact ⟨-1,by rw[if_pos (decide_eq_true h)],.inl (by decide)⟩
 ·exact ⟨_,by rw[if_neg (by simpa using h)],.inr ⟨by omega,by omega,by omega,fun x _=>a x⟩⟩
theorem ahE {α:Type} [DecidableEq α] {f:Int->Option (Out Bool Int)} (xs ys:List α) (g:xs.length=ys.length)
  (a: ∀i (h:i<xs.length) (n:i<ys.length),f (i:Int)=some (if xs[i] =ys[i] then .nxt ((i+1:Nat):Int) else .ret false)) (b:f (xs.length:Int)=some (.brk (xs.length:Int))): ∀(m i k:Nat),i+m=xs.length->m<k->
   aj f k (i:Int)=some (if xs.drop i=ys.drop i then .brk (xs.length:Int) else .ret false)
 | 0,i,k,e,hk=>by
  obtain ⟨k,rfl⟩: ∃q,k=q+1:=⟨k - 1,by omega⟩;obtain rfl:i=xs.length:=by omega
  rw[aj,b,List.drop_of_length_le (aH _),List.drop_of_length_le (by omega),if_pos rfl]
 | m+1,i,k,e,hk=>by
  obtain ⟨k,rfl⟩: ∃q,k=q+1:=⟨k - 1,by omega⟩;have d:i<xs.length:=by omega
  have c:i<ys.length:=by omega
  have l:=List.drop_eq_getElem_cons d;have j:=List.drop_eq_getElem_cons c;rw[aj,a i d c,l,j];by_cases h:xs[i] =ys[i]
  ·rw[if_pos h];simp only;rw[ahE xs ys g a b m (i+1) k (by omega) (by omega)];simp only[List.cons.injEq,h,true_and]
  ·rw[if_neg h];simp only[List.cons.injEq,h,false_and,if_false]
theorem eqL {α:Type} [DecidableEq α] {f:Int->Option (Out Bool Int)} (xs ys:List α) (d:xs.length<=9223372036854775807)
  (a: ∀i (h:i<xs.length) (j:i<ys.length),f (i:Int)=some (if xs[i] =ys[i] then .nxt ((i+1:Nat):Int) else .ret false)) (b:f (xs.length:Int)=some (.brk (xs.length:Int))) :
  (if (xs.length:Int) !=(ys.length:Int) then (some false) else (aJ (aj f aP 0) (fun r=>some r) (fun g=>some true)))=some (decide (xs=ys)):=by
 by_cases c:xs.length=ys.length
 ·rw[if_neg (by rw[c];simp),show ((0:Int))=((0:Nat):Int) from rfl,ahE xs ys c a b xs.length 0 aP (by omega) (dC _ d)];by_cases h:xs=ys
  ·subst h;simp[aJ]
  ·simp[aJ,h]
 ·have:xs≠ys:=fun e=>c (by rw[e])
  rw[if_pos (by simp;omega)];simp[this]
theorem jz {α:Type} {c d:Prop} [Decidable c] [Decidable d] {a b:α} (h:c↔d):(if c then some a else some b)=some (if d then a else b):=by
 by_cases k:c
 ·rw[if_pos k,if_pos (h.1 k)]
 ·rw[if_neg k,if_neg (fun e=>k (h.2 e))]
theorem su {α:Type} {c d:Prop} [Decidable c] [Decidable d] {a b:α} (h:c↔ ¬d):(if c then some b else some a)=some (if d then a else b):=by
 by_cases k:d
 ·rw[if_neg (fun e=>h.1 e k),if_pos k]
 ·rw[if_pos (h.2 k),if_neg k]
theorem eqB {α:Type} [DecidableEq α] {f:Int->Option (Out Bool Int)} {K:Option Bool} (xs ys:List α) (d:xs.length<=9223372036854775807) (c:xs.length=ys.length)
  (a: ∀i (h:i<xs.length) (g:i<ys.length),f (i:Int)=some (if xs[i] =ys[i] then .nxt ((i+1:Nat):Int) else .ret false)) (b:f (xs.length:Int)=some (.brk (xs.length:Int))) :
  aJ (aj f aP 0) (fun r=>some r) (fun e=>K)=(if xs=ys then K else some false):=by
 rw[show ((0:Int))=((0:Nat):Int) from rfl,ahE xs ys c a b xs.length 0 aP (by omega) (dC _ d)];by_cases h:xs=ys
 ·subst h;simp[aJ]
 ·simp[aJ,h]
theorem afI {f:Int->Option (Out Int Int)} (xs ys:List Int)
  (a: ∀i (h:i<xs.length) (u:i<ys.length),f (i:Int)=some (if xs[i] < ys[i] then .ret (-1) else if xs[i] > ys[i] then .ret 1 else .nxt ((i+1:Nat):Int))) (b: ∀i,xs.length<=i\/ys.length<=i->f (i:Int)=some (.brk (i:Int))): ∀(m i k:Nat),i+m=xs.length->m<k->
   (∃r,aj f k (i:Int)=some (.ret r)/\r≠0/\xs≠ys)\/ ∃s,aj f k (i:Int)=some (.brk s)/\(xs.length=ys.length->xs.drop i=ys.drop i)
 | 0,i,k,e,hk=>by
  obtain ⟨k,rfl⟩: ∃q,k=q+1:=⟨k - 1,by omega⟩;exact .inr ⟨_,by rw[aj,b i (.inl (by omega))],fun h=>by rw[List.drop_of_length_le (by omega),List.drop_of_length_le (by omega)]⟩
 | m+1,i,k,e,hk=>by
  obtain ⟨k,rfl⟩: ∃q,k=q+1:=⟨k - 1,by omega⟩;have j:i<xs.length:=by omega
  by_cases c:i<ys.length
  ·have d: ∀h:xs[i] ≠ys[i],xs≠ys:=fun h e=>h (by subst e;rfl);rw[aj,a i j c];by_cases g:xs[i] < ys[i]
   ·rw[if_pos g];exact .inl ⟨-1,rfl,by decide,d (by omega)⟩
   ·rw[if_neg g];by_cases l:xs[i] > ys[i]
    ·rw[if_pos l];exact .inl ⟨1,rfl,by decide,d (by omega)⟩
    ·rw[if_neg l];rcases afI xs ys a b m (i+1) k (by omega) (by omega) with h | ⟨s,n,t⟩
     ·exact .inl h
     ·refine .inr ⟨s,n,fun p=>?_⟩;have o:xs[i] =ys[i]:=by omega
      rw[List.drop_eq_getElem_cons j,List.drop_eq_getElem_cons c,t p,o]
  ·exact .inr ⟨_,by rw[aj,b i (.inr (by omega))],fun h=>by omega⟩
instance:LawfulBEq ByteArray where
 eq_of_beq {a b} h:=ByteArray.ext (eq_of_beq (show (a.data==b.data)=true from h))
 rfl {a}:=beq_self_eq_true a.data
theorem dG {α β:Type} (p:α×β):(p.1,p.2)=p:=rfl
theorem aA {α:Type} [Data α] {xs:List α} (h:Data.sm xs):xs.length<=1048576/\ ∀x,x∈xs->Data.sm x:=h
theorem fZ {α:Type} [Data α] {xs:List α} (h:Data.lim xs):xs.length<=9223372036854775807/\ ∀x,x∈xs->Data.lim x:=h
theorem Qp:M8 wP:=fun c l a d b=>szF c (fZ a).1 (fun _=>trivial) d b
theorem Vt:M8 yu:=fun c l a d b=>szF c (fZ a).1 (fun _=>⟨trivial,trivial,trivial,trivial⟩) d b
theorem Vu:M8 tx:=by
 intro x l c m j;unfold tx
 try simp only[dG]
 obtain ⟨f,e,b⟩:=Qp x.1 l c.1 (by omega) (by omega);rw[e];simp only[aa];rcases b with b | ⟨b,k,h⟩
 ·exact ⟨-1,by rw[if_pos (decide_eq_true b)],.inl (by decide)⟩
 rw[if_neg (by simpa using b)];obtain ⟨i,d,a⟩:=Vt x.2 f c.2 (by omega) (by omega);rw[d];simp only[aa];rcases a with a | ⟨a,n,g⟩
 ·exact ⟨-1,by rw[if_pos (decide_eq_true a)],.inl (by decide)⟩
 rw[if_neg (by simpa using a)];exact ⟨_,rfl,.inr ⟨by omega,by omega,⟨h,g⟩⟩⟩
theorem R7:M8 vu:=fun b l a k c=>szL (f:=mG b) b (fZ a).1 (fun i h l d g=>by
 obtain ⟨r,e,j⟩:=Vu b[i] l ((fZ a).2 _ (List.getElem_mem h)) d g;refine ⟨r,?_,j⟩;simp only[mG,br h,if_true,au h,aa,dG,e,af (show i<9223372036854775807 by have:=(fZ a).1;omega)];exact jz (by simp)) (fun l=>by simp only[mG,bf];rfl) k c
theorem OI:M8 pP:=by
 intro x l b h e;unfold pP
 try simp only[dG]
 obtain ⟨f,c,a⟩:=R7 x.2 l b.2 (by omega) (by omega);rw[c];simp only[aa];rcases a with a | ⟨a,g,d⟩
 ·exact ⟨-1,by rw[if_pos (decide_eq_true a)],.inl (by decide)⟩
 rw[if_neg (by simpa using a)];exact ⟨_,rfl,.inr ⟨by omega,by omega,⟨trivial,d⟩⟩⟩
theorem Vv:M8 yw:=fun c l a d b=>szF c (fZ a).1 (fun _=>trivial) d b
theorem Vx:M8 yx:=fun b l a k c=>szL (f:=ot b) b (fZ a).1 (fun i h l d g=>by
 obtain ⟨r,e,j⟩:=Qp b[i] l ((fZ a).2 _ (List.getElem_mem h)) d g;refine ⟨r,?_,j⟩;simp only[ot,br h,if_true,au h,aa,dG,e,af (show i<9223372036854775807 by have:=(fZ a).1;omega)];exact jz (by simp)) (fun l=>by simp only[ot,bf];rfl) k c
theorem JT:M8 mH:=by
 intro x l c m j;unfold mH
 try simp only[dG]
 obtain ⟨f,e,b⟩:=Vv x.2.1 l c.2.1 (by omega) (by omega);rw[e];simp only[aa];rcases b with b | ⟨b,k,h⟩
 ·exact ⟨-1,by rw[if_pos (decide_eq_true b)],.inl (by decide)⟩
 rw[if_neg (by simpa using b)];obtain ⟨i,d,a⟩:=Vx x.2.2 f c.2.2 (by omega) (by omega);rw[d];simp only[aa];rcases a with a | ⟨a,n,g⟩
 ·exact ⟨-1,by rw[if_pos (decide_eq_true a)],.inl (by decide)⟩
 rw[if_neg (by simpa using a)];exact ⟨_,rfl,.inr ⟨by omega,by omega,⟨trivial,h,g⟩⟩⟩
theorem G6:M8 py:=fun b l a k c=>szL (f:=iz b) b (fZ a).1 (fun i h l d g=>by
 obtain ⟨r,e,j⟩:=JT b[i] l ((fZ a).2 _ (List.getElem_mem h)) d g;refine ⟨r,?_,j⟩;simp only[iz,br h,if_true,au h,aa,dG,e,af (show i<9223372036854775807 by have:=(fZ a).1;omega)];exact jz (by simp)) (fun l=>by simp only[iz,bf];rfl) k c
theorem R8:M8 vv:=fun c l a d b=>szF c (fZ a).1 (fun _=>⟨trivial,trivial,trivial,trivial⟩) d b
theorem Zc:M8 wQ:=by
 intro x l b h e;unfold wQ
 try simp only[dG]
 obtain ⟨f,c,a⟩:=R8 x l b (by omega) (by omega);rw[c];simp only[aa];rcases a with a | ⟨a,g,d⟩
 ·exact ⟨-1,by rw[if_pos (decide_eq_true a)],.inl (by decide)⟩
 rw[if_neg (by simpa using a)];exact ⟨_,rfl,.inr ⟨by omega,by omega,d⟩⟩
theorem G7:M8 ln:=by
 intro x l b h e;unfold ln
 try simp only[dG]
 obtain ⟨f,c,a⟩:=Zc x.2.1 l b.2.1 (by omega) (by omega);rw[c];simp only[aa];rcases a with a | ⟨a,g,d⟩
 ·exact ⟨-1,by rw[if_pos (decide_eq_true a)],.inl (by decide)⟩
 rw[if_neg (by simpa using a)];exact ⟨_,rfl,.inr ⟨by omega,by omega,⟨trivial,d,trivial⟩⟩⟩
theorem FA:M8 nP:=fun b l a k c=>szL (f:=gy b) b (fZ a).1 (fun i h l d g=>by
 obtain ⟨r,e,j⟩:=G7 b[i] l ((fZ a).2 _ (List.getElem_mem h)) d g;refine ⟨r,?_,j⟩;simp only[gy,br h,if_true,au h,aa,dG,e,af (show i<9223372036854775807 by have:=(fZ a).1;omega)];exact jz (by simp)) (fun l=>by simp only[gy,bf];rfl) k c
theorem Mu:M8 ou:=by
 intro x l c m j;unfold ou
 try simp only[dG]
 obtain ⟨f,e,b⟩:=G6 x.1 l c.1 (by omega) (by omega);rw[e];simp only[aa];rcases b with b | ⟨b,k,h⟩
 ·exact ⟨-1,by rw[if_pos (decide_eq_true b)],.inl (by decide)⟩
 rw[if_neg (by simpa using b)];obtain ⟨i,d,a⟩:=FA x.2 f c.2 (by omega) (by omega);rw[d];simp only[aa];rcases a with a | ⟨a,n,g⟩
 ·exact ⟨-1,by rw[if_pos (decide_eq_true a)],.inl (by decide)⟩
 rw[if_neg (by simpa using a)];exact ⟨_,rfl,.inr ⟨by omega,by omega,⟨h,g⟩⟩⟩
theorem FC:M8 nQ:=fun c l a d b=>szF c (fZ a).1 (fun _=>⟨trivial,trivial,trivial⟩) d b
theorem R9:M8 rA:=by
 intro x l d s q;unfold rA
 try simp only[dG]
 obtain ⟨j,i,c⟩:=OI x.1 l d.1 (by omega) (by omega);rw[i];simp only[aa];rcases c with c | ⟨c,r,h⟩
 ·exact ⟨-1,by rw[if_pos (decide_eq_true c)],.inl (by decide)⟩
 rw[if_neg (by simpa using c)];obtain ⟨p,n,a⟩:=Mu x.2.1 j d.2.1 (by omega) (by omega);rw[n];simp only[aa];rcases a with a | ⟨a,u,m⟩
 ·exact ⟨-1,by rw[if_pos (decide_eq_true a)],.inl (by decide)⟩
 rw[if_neg (by simpa using a)];obtain ⟨g,o,b⟩:=FC x.2.2.1 p d.2.2.1 (by omega) (by omega);rw[o];simp only[aa];rcases b with b | ⟨b,t,k⟩
 ·exact ⟨-1,by rw[if_pos (decide_eq_true b)],.inl (by decide)⟩
 rw[if_neg (by simpa using b)];rw[cy (by have:x.2.2.2.size<=9223372036854775807:=d.2.2.2;omega) (by omega)];by_cases e:g - (x.2.2.2.size:Int)<0
 ·exact ⟨-1,by rw[if_pos (decide_eq_true e)],.inl (by decide)⟩
 rw[if_neg (by simpa using e)];have f:x.2.2.2.size<=1048576:=by omega
 exact ⟨_,rfl,.inr ⟨by omega,by omega,⟨h,m,k,f⟩⟩⟩
theorem Qq:JS sC:=by
 intro a c;have e:=(aA c).1;unfold sC;rw[yd (by omega)];simp only[aa];rw[toL (f:=pQ a) a (by omega) (fun b i h d=>by simp only[pQ,br h,if_true,au h,au (show i<b.length by omega),aa,dG,af (show i<9223372036854775807 by omega),Int.toNat_natCast]) (fun b d=>by simp only[pQ,bf];rfl)]
 rfl
theorem Zd:JS wR:=by
 intro x a;unfold wR;simp only[dG,aa]
theorem Vy:JS tz:=by
 intro a b;have e:=(aA b).1;unfold tz;rw[yd (by omega)];simp only[aa];rw[toL (f:=ox a) a (by omega) (fun c i h d=>by simp only[ox,br h,if_true,au h,au (show i<c.length by omega),aa,dG,Zd a[i] ((aA b).2 _ (List.getElem_mem h)),af (show i<9223372036854775807 by omega),Int.toNat_natCast]) (fun c d=>by simp only[ox,bf];rfl)]
 rfl
theorem Vz:JS tC:=by
 intro x a;unfold tC;simp only[dG,aa,Qq x.1 a.1,Vy x.2 a.2]
theorem Sa:JS rB:=by
 intro a b;have e:=(aA b).1;unfold rB;rw[yd (by omega)];simp only[aa];rw[toL (f:=mI a) a (by omega) (fun c i h d=>by simp only[mI,br h,if_true,au h,au (show i<c.length by omega),aa,dG,Vz a[i] ((aA b).2 _ (List.getElem_mem h)),af (show i<9223372036854775807 by omega),Int.toNat_natCast]) (fun c d=>by simp only[mI,bf];rfl)]
 rfl
theorem OJ:JS pR:=by
 intro x a;unfold pR;simp only[dG,aa,Sa x.2 a.2]
theorem VB:JS tD:=by
 intro a c;have e:=(aA c).1;unfold tD;rw[yd (by omega)];simp only[aa];rw[toL (f:=oy a) a (by omega) (fun b i h d=>by simp only[oy,br h,if_true,au h,au (show i<b.length by omega),aa,dG,af (show i<9223372036854775807 by omega),Int.toNat_natCast]) (fun b d=>by simp only[oy,bf];rfl)]
 rfl
theorem VC:JS tE:=by
 intro a b;have e:=(aA b).1;unfold tE;rw[yd (by omega)];simp only[aa];rw[toL (f:=oz a) a (by omega) (fun c i h d=>by simp only[oz,br h,if_true,au h,au (show i<c.length by omega),aa,dG,Qq a[i] ((aA b).2 _ (List.getElem_mem h)),af (show i<9223372036854775807 by omega),Int.toNat_natCast]) (fun c d=>by simp only[oz,bf];rfl)]
 rfl
theorem JU:JS mJ:=by
 intro x a;unfold mJ;simp only[dG,aa,VB x.2.1 a.2.1,VC x.2.2 a.2.2]
theorem G8:JS lp:=by
 intro a b;have e:=(aA b).1;unfold lp;rw[yd (by omega)];simp only[aa];rw[toL (f:=iA a) a (by omega) (fun c i h d=>by simp only[iA,br h,if_true,au h,au (show i<c.length by omega),aa,dG,JU a[i] ((aA b).2 _ (List.getElem_mem h)),af (show i<9223372036854775807 by omega),Int.toNat_natCast]) (fun c d=>by simp only[iA,bf];rfl)]
 rfl
theorem VD:JS tF:=by
 intro x a;unfold tF;simp only[dG,aa]
theorem Sb:JS rC:=by
 intro a b;have e:=(aA b).1;unfold rC;rw[yd (by omega)];simp only[aa];rw[toL (f:=mK a) a (by omega) (fun c i h d=>by simp only[mK,br h,if_true,au h,au (show i<c.length by omega),aa,dG,VD a[i] ((aA b).2 _ (List.getElem_mem h)),af (show i<9223372036854775807 by omega),Int.toNat_natCast]) (fun c d=>by simp only[mK,bf];rfl)]
 rfl
theorem Ze:JS wS:=by
 intro x a;unfold wS;simp only[dG,aa,Sb x a]
theorem G9:JS lq:=by
 intro x a;unfold lq;simp only[dG,aa,Ze x.2.1 a.2.1]
theorem FD:JS ko:=by
 intro a b;have e:=(aA b).1;unfold ko;rw[yd (by omega)];simp only[aa];rw[toL (f:=gz a) a (by omega) (fun c i h d=>by simp only[gz,br h,if_true,au h,au (show i<c.length by omega),aa,dG,G9 a[i] ((aA b).2 _ (List.getElem_mem h)),af (show i<9223372036854775807 by omega),Int.toNat_natCast]) (fun c d=>by simp only[gz,bf];rfl)]
 rfl
theorem Mv:JS oA:=by
 intro x a;unfold oA;simp only[dG,aa,G8 x.1 a.1,FD x.2 a.2]
theorem Ha:JS lr:=by
 intro x a;unfold lr;simp only[dG,aa]
theorem FE:JS kp:=by
 intro a b;have e:=(aA b).1;unfold kp;rw[yd (by omega)];simp only[aa];rw[toL (f:=gA a) a (by omega) (fun c i h d=>by simp only[gA,br h,if_true,au h,au (show i<c.length by omega),aa,dG,Ha a[i] ((aA b).2 _ (List.getElem_mem h)),af (show i<9223372036854775807 by omega),Int.toNat_natCast]) (fun c d=>by simp only[gA,bf];rfl)]
 rfl
theorem Sc:JS jG:=by
 intro x a;unfold jG;simp only[dG,aa,OJ x.1 a.1,Mv x.2.1 a.2.1,FE x.2.2.1 a.2.2.1]
theorem Qr:Fz wT:=fun b c a e=>eqL (f:=pS b c) b c (by have:=(aA a).1;omega) (fun i h d=>by
 simp only[pS,br h,if_true,au h,au d,aa,dG,af (show i<9223372036854775807 by have:=(aA a).1;omega)]
 first | exact jz (by simp) | exact su (by simp) | exact jz (by simp[Prod.ext_iff])) (by simp only[pS,bf];rfl)
theorem Zf:Fz wU:=by
 intro x y a b;unfold wU
 try simp only[dG,aa]
 repeat' split
 all_goals simp_all[Prod.ext_iff]
theorem VE:Fz yy:=fun b c a e=>eqL (f:=oB b c) b c (by have:=(aA a).1;omega) (fun i h d=>by
 simp only[oB,br h,if_true,au h,au d,aa,dG,Zf b[i] c[i] ((aA a).2 _ (List.getElem_mem h)) ((aA e).2 _ (List.getElem_mem d)),af (show i<9223372036854775807 by have:=(aA a).1;omega)]
 first | exact jz (by simp) | exact su (by simp) | exact jz (by simp[Prod.ext_iff])) (by simp only[oB,bf];rfl)
theorem VF:Fz tG:=by
 intro x y a b;unfold tG
 try simp only[dG,aa,Qr x.1 y.1 a.1 b.1,VE x.2 y.2 a.2 b.2]
 repeat' split
 all_goals simp_all[Prod.ext_iff]
theorem Sd:Fz vx:=fun b c a e=>eqL (f:=mL b c) b c (by have:=(aA a).1;omega) (fun i h d=>by
 simp only[mL,br h,if_true,au h,au d,aa,dG,VF b[i] c[i] ((aA a).2 _ (List.getElem_mem h)) ((aA e).2 _ (List.getElem_mem d)),af (show i<9223372036854775807 by have:=(aA a).1;omega)]
 first | exact jz (by simp) | exact su (by simp) | exact jz (by simp[Prod.ext_iff])) (by simp only[mL,bf];rfl)
theorem OK:Fz pT:=by
 intro x y a b;unfold pT
 try simp only[dG,aa,Sd x.2 y.2 a.2 b.2]
 repeat' split
 all_goals simp_all[Prod.ext_iff]
theorem VG:Fz yz:=fun b c a e=>eqL (f:=oC b c) b c (by have:=(aA a).1;omega) (fun i h d=>by
 simp only[oC,br h,if_true,au h,au d,aa,dG,af (show i<9223372036854775807 by have:=(aA a).1;omega)]
 first | exact jz (by simp) | exact su (by simp) | exact jz (by simp[Prod.ext_iff])) (by simp only[oC,bf];rfl)
theorem VH:Fz yA:=fun b c a e=>eqL (f:=oD b c) b c (by have:=(aA a).1;omega) (fun i h d=>by
 simp only[oD,br h,if_true,au h,au d,aa,dG,Qr b[i] c[i] ((aA a).2 _ (List.getElem_mem h)) ((aA e).2 _ (List.getElem_mem d)),af (show i<9223372036854775807 by have:=(aA a).1;omega)]
 first | exact jz (by simp) | exact su (by simp) | exact jz (by simp[Prod.ext_iff])) (by simp only[oD,bf];rfl)
theorem JV:Fz mM:=by
 intro x y a b;unfold mM
 try simp only[dG,aa,VG x.2.1 y.2.1 a.2.1 b.2.1,VH x.2.2 y.2.2 a.2.2 b.2.2]
 repeat' split
 all_goals simp_all[Prod.ext_iff]
theorem Hb:Fz pz:=fun b c a e=>eqL (f:=iB b c) b c (by have:=(aA a).1;omega) (fun i h d=>by
 simp only[iB,br h,if_true,au h,au d,aa,dG,JV b[i] c[i] ((aA a).2 _ (List.getElem_mem h)) ((aA e).2 _ (List.getElem_mem d)),af (show i<9223372036854775807 by have:=(aA a).1;omega)]
 first | exact jz (by simp) | exact su (by simp) | exact jz (by simp[Prod.ext_iff])) (by simp only[iB,bf];rfl)
theorem VI:Fz tH:=by
 intro x y a b;unfold tH
 try simp only[dG,aa]
 repeat' split
 all_goals simp_all[Prod.ext_iff]
theorem Se:Fz vy:=fun b c a e=>eqL (f:=mN b c) b c (by have:=(aA a).1;omega) (fun i h d=>by
 simp only[mN,br h,if_true,au h,au d,aa,dG,VI b[i] c[i] ((aA a).2 _ (List.getElem_mem h)) ((aA e).2 _ (List.getElem_mem d)),af (show i<9223372036854775807 by have:=(aA a).1;omega)]
 first | exact jz (by simp) | exact su (by simp) | exact jz (by simp[Prod.ext_iff])) (by simp only[mN,bf];rfl)
theorem Zg:Fz wV:=by
 intro x y a b;unfold wV
 try simp only[dG,aa,Se x y a b]
 repeat' split
 all_goals simp_all[Prod.ext_iff]
theorem Hc:Fz lu:=by
 intro x y a b;unfold lu
 try simp only[dG,aa,Zg x.2.1 y.2.1 a.2.1 b.2.1]
 repeat' split
 all_goals simp_all[Prod.ext_iff]
theorem FF:Fz nR:=fun b c a e=>eqL (f:=gB b c) b c (by have:=(aA a).1;omega) (fun i h d=>by
 simp only[gB,br h,if_true,au h,au d,aa,dG,Hc b[i] c[i] ((aA a).2 _ (List.getElem_mem h)) ((aA e).2 _ (List.getElem_mem d)),af (show i<9223372036854775807 by have:=(aA a).1;omega)]
 first | exact jz (by simp) | exact su (by simp) | exact jz (by simp[Prod.ext_iff])) (by simp only[gB,bf];rfl)
theorem Mw:Fz oE:=by
 intro x y a b;unfold oE
 try simp only[dG,aa,Hb x.1 y.1 a.1 b.1,FF x.2 y.2 a.2 b.2]
 repeat' split
 all_goals simp_all[Prod.ext_iff]
theorem He:Fz lx:=by
 intro x y a b;unfold lx
 try simp only[dG,aa]
 repeat' split
 all_goals simp_all[Prod.ext_iff]
theorem FG:Fz nS:=fun b c a e=>eqL (f:=gC b c) b c (by have:=(aA a).1;omega) (fun i h d=>by
 simp only[gC,br h,if_true,au h,au d,aa,dG,He b[i] c[i] ((aA a).2 _ (List.getElem_mem h)) ((aA e).2 _ (List.getElem_mem d)),af (show i<9223372036854775807 by have:=(aA a).1;omega)]
 first | exact jz (by simp) | exact su (by simp) | exact jz (by simp[Prod.ext_iff])) (by simp only[gC,bf];rfl)
theorem Ik:Fz jH:=by
 intro x y a b;unfold jH
 try simp only[dG,aa,OK x.1 y.1 a.1 b.1,Mw x.2.1 y.2.1 a.2.1 b.2.1,FG x.2.2.1 y.2.2.1 a.2.2.1 b.2.2.1]
 repeat' split
 all_goals simp_all[Prod.ext_iff]
theorem Zh:Fz w8:=by
 intro x y a b;unfold w8
 try simp only[dG,aa]
 repeat' split
 all_goals simp_all[Prod.ext_iff]
theorem Mx:Fz tR:=fun b c a e=>eqL (f:=oT b c) b c (by have:=(aA a).1;omega) (fun i h d=>by
 simp only[oT,br h,if_true,au h,au d,aa,dG,Zh b[i] c[i] ((aA a).2 _ (List.getElem_mem h)) ((aA e).2 _ (List.getElem_mem d)),af (show i<9223372036854775807 by have:=(aA a).1;omega)]
 first | exact jz (by simp) | exact su (by simp) | exact jz (by simp[Prod.ext_iff])) (by simp only[oT,bf];rfl)
theorem VJ:Fz tS:=by
 intro x y a b;unfold tS
 try simp only[dG,aa,Mx x.1 y.1 a.1 b.1,Mx x.2 y.2 a.2 b.2]
 repeat' split
 all_goals simp_all[Prod.ext_iff]
theorem OL:Fz kE:=by
 intro x y a b;unfold kE
 try simp only[dG,aa,VJ x.2.2 y.2.2 a.2.2 b.2.2]
 repeat' split
 all_goals simp_all[Prod.ext_iff]
theorem cq {R S:Type} {f:S->Option (Out R S)} (Inv:Nat->S->Prop) (Q:Out R S->Prop) (N:Nat)
  (h: ∀i s,i<=N->Inv i s->(i<N/\ ∃a,f s=some (.nxt a)/\Inv (i+1) a)\/ ∃o,f s=some o/\(∀a,o≠ .nxt a)/\Q o) {s:S} (g:Inv 0 s) (p:N<aP): ∃o,aj f aP s=some o/\Q o:=by
 have key: ∀(k i:Nat) (s:S),i<=N->N<i+k->Inv i s-> ∃o,aj f k s=some o/\Q o:=by
  intro k;induction k with
  | zero=>intro i s d m;omega
  | succ k ih =>
   intro i s d m n;rcases h i s d n with ⟨q,a,e,c⟩ | ⟨o,e,l,b⟩
   ·obtain ⟨o,j,b⟩:=ih (i+1) a (by omega) (by omega) c;exact ⟨o,by rw[aj,e];exact j,b⟩
   ·refine ⟨o,?_,b⟩;rw[aj,e];cases o with
    | nxt a=>exact absurd rfl (l a)
    | brk a=>rfl
    | ret r=>rfl
 exact key aP 0 s (by omega) (by omega) g
theorem kd {R S:Type} {f:S->Option (Out R S)} (Inv:Nat->S->Prop) (N:Nat) (h: ∀i s,i<N->Inv i s-> ∃a,f s=some (.nxt a)/\Inv (i+1) a) (d: ∀s,Inv N s->f s=some (.brk s)) {s:S} (j:Inv 0 s) (g:N<aP): ∃a,aj f aP s=some (.brk a)/\Inv N a:=by
 obtain ⟨o,e,a,rfl,h⟩:=cq (f:=f) Inv (fun o=> ∃a,o= .brk a/\Inv N a) N (fun i s k b=>by
  by_cases c:i<N
  ·exact .inl ⟨c,h i s c b⟩
  ·obtain rfl:i=N:=by omega
   exact .inr ⟨_,d s b,(fun a e=>by cases e),s,rfl,b⟩) j g
 exact ⟨a,e,h⟩
theorem aQ {R S:Type} {f:S->Option (Out R S)} (a:Nat->S) (N:Nat) (h: ∀i,i<N->f (a i)=some (.nxt (a (i+1)))) (b:f (a N)=some (.brk (a N))) (c:N<aP):aj f aP (a 0)=some (.brk (a N)):=Mt a N h b c
theorem pw {k:Nat} (h:k<=9223372036854775807):k<aP:=dC k h
theorem As {i:Nat} (h:i<=9223372036854775807):i64.wrap (i:Int)=(i:Int):=cy (by omega) (by omega)
theorem lh {i:Nat} (h:i<=9223372036854775807):i64.wrap ((i:Int) - 1)=(i:Int) - 1:=cy (by omega) (by omega)
theorem aI {α:Type} {b:Nat} {xs ys:List α} (h:(xs.length+ys.length)*b<=140737488355328):cr b xs ys=some (xs++ys):=by unfold cr;rw[if_pos h]
theorem bg {R S T:Type} {x:Option (Out R S)} {r:R} {a:R->Option T} {k:S->Option T} (h:x=some (.ret r)):aJ x a k=a r:=by rw[h];rfl
theorem ai {R S T:Type} {x:Option (Out R S)} {s:S} {a:R->Option T} {k:S->Option T} (h:x=some (.brk s)):aJ x a k=k s:=by rw[h];rfl
def nth {α:Type} [Inhabited α] (xs:List α) (i:Int):α:=xs.getD i.toNat default
section
variable {α:Type} [Inhabited α] {xs ys:List α}
theorem aq {i:Int} (a:0<=i) (h1:i<xs.length):aK xs i=some (nth xs i):=by
 unfold aK nth;rw[if_pos a]
 have:i.toNat<xs.length:=by omega
 simp[List.getD_eq_getElem?_getD,this]
theorem cG {i:Nat} (h:i<xs.length):nth xs (i:Int)=xs[i]:=by simp[nth,List.getD_eq_getElem?_getD,h]
theorem bm {i:Int} (a:0<=i) (h1:i<xs.length):nth xs i∈xs:=by
 have:i.toNat<xs.length:=by omega
 have e:nth xs i=xs[i.toNat]:=by simp[nth,List.getD_eq_getElem?_getD,this]
 rw[e];exact List.getElem_mem this
theorem ke {i:Int} (a:0<=i) (h1:i<xs.length):nth (xs++ys) i=nth xs i:=by
 have:i.toNat<xs.length:=by omega
 simp[nth,List.getD_eq_getElem?_getD,List.getElem?_append_left this]
theorem adB {β:Type} [Inhabited β] {f:α->β} {i:Int} (a:0<=i) (h1:i<xs.length):nth (xs.map f) i=f (nth xs i):=by
 have:i.toNat<xs.length:=by omega
 simp[nth,List.getD_eq_getElem?_getD,this]
theorem FH {x:α} (h:x∈xs): ∃i:Nat,i<xs.length/\nth xs (i:Int)=x:=by
 obtain ⟨i,a,rfl⟩:=List.getElem_of_mem h;exact ⟨i,a,cG a⟩
theorem rT {i:Int} {x:α} (a:0<=i) (h1:i<xs.length):nth (xs.set i.toNat x) i=x:=by
 have:i.toNat<xs.length:=by omega
 simp[nth,List.getD_eq_getElem?_getD,this]
theorem xc {i j:Int} {x:α} (b:0<=i) (a:0<=j) (h:i≠j):nth (xs.set i.toNat x) j=nth xs j:=by
 have:i.toNat≠j.toNat:=by omega
 simp[nth,List.getD_eq_getElem?_getD,List.getElem?_set_ne this]
theorem adC (h:xs.length=ys.length) (k: ∀i:Nat,i<xs.length->nth xs (i:Int)=nth ys (i:Int)):xs=ys:=by
 refine List.ext_getElem h fun i a b=>?_
 have:=k i a
 rwa [cG a,cG b] at this
end
section
variable {κ:Type} [DecidableEq κ]
def nbL (l:List κ):Option κ->List κ
 | none=>l
 | some x=>if x∈l then l else l++ [x]
def nbI (l:List κ):Option κ->Int
 | none=> -1
 | some x=>(l.idxOf x:Int)
def nbS (l:List κ) (os:List (Option κ)):List κ:=os.foldl nbL l
def nbR (l:List κ):List (Option κ)->List Int
 | [] =>[]
 | o::os=>nbI l o::nbR (nbL l o) os
theorem Au (l:List κ) (os:List (Option κ)) (o:Option κ):nbS l (os++ [o])=nbL (nbS l os) o:=by simp[nbS]
theorem xd: ∀(l:List κ) (os:List (Option κ)) (o:Option κ),nbR l (os++ [o])=nbR l os++ [nbI (nbS l os) o]
 | l,[],o=>rfl
 | l,p::os,o=>by
  show nbI l p::nbR (nbL l p) (os++ [o])=nbI l p::nbR (nbL l p) os++ [nbI (nbS (nbL l p) os) o];rw[xd (nbL l p) os o];rfl
theorem jj: ∀(l:List κ) (os:List (Option κ)),(nbR l os).length=os.length
 | l,[] =>rfl
 | l,o::os=>by show (nbR (nbL l o) os).length+1=_;rw[jj];rfl
theorem Sf (l : List κ) (o : Option κ) : l <+: nbL l o := by
  cases o with
  | none => exact List.prefix_refl l
  | some x => unfold nbL; simp only; split
              · exact List.prefix_refl l
              · exact List.prefix_append l [x]
theorem om: ∀(l:List κ) (os:List (Option κ)),l <+:nbS l os
 | l,[] =>List.prefix_refl l
 | l,o::os=>(Sf l o).trans (om (nbL l o) os)
theorem VK {l : List κ} {o : Option κ} (h : l.Nodup) : (nbL l o).Nodup := by
  cases o with
  | none => exact h
  | some x => unfold nbL; simp only; split
              · exact h
              · rename_i d; exact List.nodup_append.2 ⟨h, by simp, by rintro a e b c rfl; simp at c; exact d (c ▸ e)⟩
theorem wu: ∀ {l:List κ} {os:List (Option κ)},l.Nodup->(nbS l os).Nodup
 | l,[],h=>h
 | l,o::os,h=>wu (l:=nbL l o) (os:=os) (VK h)
theorem VL {l : List κ} {o : Option κ} {x : κ} : x ∈ nbL l o ↔ x ∈ l \/ o = some x := by
  cases o with
  | none => simp [nbL]
  | some y => unfold nbL; simp only; split
              · rename_i h; constructor
                · exact .inl
                · rintro (a | a)
                  · exact a
                  · simp at a; exact a ▸ h
              · simp; exact or_congr Iff.rfl eq_comm
theorem BA: ∀ {l:List κ} {os:List (Option κ)} {x:κ},x∈nbS l os↔x∈l\/some x∈os
 | l,[],x=>by simp[nbS]
 | l,o::os,x=>by
  show x∈nbS (nbL l o) os↔_;rw[BA,VL,List.mem_cons,or_assoc];exact or_congr Iff.rfl (or_congr eq_comm Iff.rfl)
theorem pH {l:List κ} {x:κ} (h:x∈l):nbL l (some x)=l:=by simp[nbL,h]
theorem pI {l:List κ} {x:κ} (h:x∉l):nbL l (some x)=l++ [x]:=by simp[nbL,h]
theorem tc {l:List κ} {x:κ} (h:x∉l):l.idxOf x=l.length:=List.idxOf_eq_length h
def bfS (nx:κ->List (Option κ)) (first:κ):Nat->List κ
 | 0=>[first]
 | i+1=>match (bfS nx first i)[i]? with
  | some x=>nbS (bfS nx first i) (nx x)
  | none=>bfS nx first i
def bfR (nx:κ->List (Option κ)) (first:κ):Nat->List (List Int)
 | 0=>[]
 | i+1=>bfR nx first i++(match (bfS nx first i)[i]? with
  | some x=>[nbR (bfS nx first i) (nx x)]
  | none=>[])
variable {nx:κ->List (Option κ)} {first:κ}
theorem JW {i:Nat} (h:i<(bfS nx first i).length):bfS nx first (i+1)=nbS (bfS nx first i) (nx ((bfS nx first i)[i])):=by
 rw[bfS,List.getElem?_eq_getElem h]
theorem Av {i:Nat} (h:i<(bfS nx first i).length):bfR nx first (i+1)=bfR nx first i++ [nbR (bfS nx first i) (nx ((bfS nx first i)[i]))]:=by
 rw[bfR,List.getElem?_eq_getElem h]
theorem bV (i:Nat):bfS nx first i <+:bfS nx first (i+1):=by
 rw[bfS];split
 ·exact om _ _
 ·exact List.prefix_refl _
theorem BB {i j:Nat} (h:i<=j):bfS nx first i <+:bfS nx first j:=by
 induction h with
 | refl=>exact List.prefix_refl _
 | step _ ih=>exact ih.trans (bV _)
theorem ri: ∀i,(bfS nx first i).Nodup
 | 0=>by simp[bfS]
 | i+1=>by
  rw[bfS];split
  ·exact wu (ri i)
  ·exact ri i
theorem nt {G:κ->Prop} (b:G first) (h: ∀x,G x-> ∀y,some y∈nx x->G y): ∀i,∀x∈bfS nx first i,G x
 | 0=>by simp[bfS];exact b
 | i+1=>by
  rw[bfS];split
  ·rename_i y c;intro x a;rcases BA.1 a with a | a
   ·exact nt b h i x a
   ·exact h y (nt b h i y (List.mem_of_getElem? c)) x a
  ·exact nt b h i
theorem My (i:Nat):(bfS nx first i)[0]? =some first:=by
 obtain ⟨t,a⟩:=BB (nx:=nx) (first:=first) (Nat.zero_le i);rw[<-a];rfl
theorem mj: ∀ {i:Nat},(∀j,j<i->j<(bfS nx first j).length)->(bfR nx first i).length=i
 | 0,_=>rfl
 | i+1,h=>by rw[Av (h i (by omega)),aF,mj fun j a=>h j (by omega)];rfl
def bfE (nx:κ->List (Option κ)) (first:κ) (N:Nat):Prop:=N=(bfS nx first N).length/\ ∀i,i<N->i<(bfS nx first i).length
theorem aa6 {B:Nat} (d: ∀i,(bfS nx first i).length<=B): ∃N,N<=B/\bfE nx first N:=by
 have key: ∀m i,i+m=B->(∀j,j<i->j<(bfS nx first j).length)-> ∃N,N<=B/\bfE nx first N:=by
  intro m;induction m with
  | zero =>
   intro i c a;have g:=d i;have f:i<=(bfS nx first i).length:=by
    cases i with
    | zero=>omega
    | succ i =>
     have:=a i (by omega)
     have hp:=(bV (nx:=nx) (first:=first) i).length_le;omega
   exact ⟨i,by omega,by omega,a⟩
  | succ m ih =>
   intro i c a;by_cases h:i<(bfS nx first i).length
   ·exact ih (i+1) (by omega) fun j b=>by
     by_cases e:j=i
     ·subst e;exact h
     ·exact a j (by omega)
   ·have f:i<=(bfS nx first i).length:=by
     cases i with
     | zero=>omega
     | succ i =>
      have:=a i (by omega)
      have hp:=(bV (nx:=nx) (first:=first) i).length_le;omega
    exact ⟨i,by omega,by omega,a⟩
 exact key B 0 (by omega) (by omega)
theorem Zi {N M:Nat} (h:bfE nx first N) (k:bfE nx first M):N=M:=by
 rcases Nat.lt_trichotomy N M with e | e | e
 ·have:=k.2 N e;have:=h.1;omega
 ·exact e
 ·have:=h.2 M e;have:=k.1;omega
end
section
variable {α:Type} [Inhabited α]
def smk (mk:α->Nat):List α->Nat
 | [] =>0
 | x::xs=>mk x+smk mk xs
def mkd (mk:α->Nat) (m:α->Nat->α):List α->Nat->List α
 | [],_=>[]
 | x::xs,k=>m x k::mkd mk m xs (k+mk x)
theorem JX (mk:α->Nat): ∀(xs:List α) (x:α),smk mk (xs++ [x])=smk mk xs+mk x
 | [],x=>by simp[smk]
 | y::xs,x=>by simp[smk,JX mk xs x,Nat.add_assoc]
theorem JY (mk:α->Nat) (m:α->Nat->α): ∀(xs:List α) (x:α) (k:Nat),mkd mk m (xs++ [x]) k=mkd mk m xs k++ [m x (k+smk mk xs)]
 | [],x,k=>by simp[mkd,smk]
 | y::xs,x,k=>by simp[mkd,smk,JY mk m xs x,Nat.add_assoc]
theorem aX (mk:α->Nat) (m:α->Nat->α): ∀(xs:List α) (k:Nat),(mkd mk m xs k).length=xs.length
 | [],_=>rfl
 | x::xs,k=>by simp[mkd,aX mk m xs]
theorem JZ (mk:α->Nat) (m:α->Nat->α): ∀(xs:List α) (k i:Nat),(mkd mk m xs k).take i=mkd mk m (xs.take i) k
 | [],_,_=>by simp[mkd]
 | x::xs,k,0=>by simp[mkd]
 | x::xs,k,i+1=>by simp[mkd,JZ mk m xs]
theorem Zj {xs:List α} {k:Nat} (h:k<xs.length):xs.take (k+1)=xs.take k++ [nth xs (k:Int)]:=by
 rw[List.take_succ_eq_append_getElem h,cG h]
theorem afJ (mk:α->Nat) (m:α->Nat->α) (xs:List α) (k:Nat) {i:Nat} (h:i<xs.length):nth (mkd mk m xs k) (i:Int)=m (nth xs (i:Int)) (k+smk mk (xs.take i)):=by
 have a:i<(mkd mk m xs k).length:=by rw[aX];exact h
 have e:=Zj a;rw[JZ,JZ,Zj h,JY] at e
 have:=List.append_cancel_left e
 simpa using this.symm
theorem J4 (mk:α->Nat) {xs:List α} {i:Nat} (h:i<xs.length):smk mk (xs.take (i+1))=smk mk (xs.take i)+mk (nth xs (i:Int)):=by rw[Zj h,JX]
theorem VM (mk:α->Nat): ∀(xs:List α) (i:Nat),smk mk (xs.take i)<=smk mk xs
 | [],_=>by simp
 | x::xs,0=>by simp[smk]
 | x::xs,i+1=>by simp[smk];exact VM mk xs i
theorem kg (mk:α->Nat) {B:Nat} : ∀(xs:List α),(∀x∈xs,mk x<=B)->smk mk xs<=xs.length*B
 | [],_=>by simp[smk]
 | x::xs,h=>by
  have b:=kg mk xs fun y a=>h y (by simp[a]);have c:=h x (by simp);simp only[smk,aM,Nat.add_mul,Nat.one_mul];omega
theorem adD {xs ys:List α} {i:Nat} (hi:i<xs.length) (a:ys.length=i) (x:α):(ys++xs.drop i).set i x=ys++ [x] ++xs.drop (i+1):=by
 rw[List.set_append_right _ _ (by omega),a,Nat.sub_self,List.drop_eq_getElem_cons hi,List.set_cons_zero,aD];rfl
theorem Hf {R:Type} {f:List α×Int×Int->Option (Out R (List α×Int×Int))} (xs:List α) (mk:α->Nat) (m:α->Nat->α) (j:xs.length<=9223372036854775807) {k:Nat} (l:k+smk mk xs<=4611686018427387904)
  (b: ∀ys (i k:Nat),i<xs.length->ys.length=xs.length->nth ys (i:Int)=nth xs (i:Int)->k+mk (nth xs (i:Int))<=4611686018427387904->f (ys,(k:Int),(i:Int))=some (.nxt (ys.set i (m (nth xs (i:Int)) k),((k+mk (nth xs (i:Int)):Nat):Int),((i+1:Nat):Int))))
  (d: ∀ys (k:Nat),ys.length=xs.length->f (ys,(k:Int),(xs.length:Int))=some (.brk (ys,(k:Int),(xs.length:Int)))) :
  aj f aP (xs,(k:Int),0)=some (.brk (mkd mk m xs k,((k+smk mk xs:Nat):Int),(xs.length:Int))):=by
 have a: ∀i,i<=xs.length->(mkd mk m (xs.take i) k++xs.drop i).length=xs.length:=fun i c=>by
  rw[aF,aX,aB,bF];omega
 have:=aQ (f:=f) (fun i=>(mkd mk m (xs.take i) k++xs.drop i,((k+smk mk (xs.take i):Nat):Int),(i:Int))) xs.length (fun i c=>by
  have g:(mkd mk m (xs.take i) k).length=i:=by rw[aX,aB];omega
  have e:=VM mk xs (i+1);rw[J4 mk c] at e;rw[b _ i (k+smk mk (xs.take i)) c (a i (by omega)) ?_ (by omega),adD c g,Zj c,JY,JX,Nat.add_assoc];have h:i<(mkd mk m (xs.take i) k++xs.drop i).length:=by rw[a i (by omega)];exact c
  rw[cG h,cG c,List.getElem_append_right (by omega)];simp[g]) (by
  have:=d (mkd mk m (xs.take xs.length) k++xs.drop xs.length) (k+smk mk (xs.take xs.length)) (a _ (aH _))
  exact this) (pw j)
 simpa [mkd,smk] using this
theorem Hg {f:Int×Int->Option zF } (xs:List α) (mk:α->Nat) (m:α->Nat->α) (g:xs.length<=9223372036854775807) {k:Nat} (h:k+smk mk xs<=4611686018427387904)
  (b: ∀(i a:Nat),i<xs.length->nth (mkd mk m xs k) (i:Int)=m (nth xs (i:Int)) a->a+mk (nth xs (i:Int))<=4611686018427387904->f ((a:Int),(i:Int))=some (.nxt (((a+mk (nth xs (i:Int)):Nat):Int),((i+1:Nat):Int))))
  (c: ∀(a:Nat),f ((a:Int),(xs.length:Int))=some (.brk ((a:Int),(xs.length:Int)))) :
  aj f aP ((k:Int),0)=some (.brk (((k+smk mk xs:Nat):Int),(xs.length:Int))):=by
 have:=aQ (f:=f) (fun i=>(((k+smk mk (xs.take i):Nat):Int),(i:Int))) xs.length (fun i d=>by
  have e:=VM mk xs (i+1);rw[J4 mk d] at e;rw[b i (k+smk mk (xs.take i)) d (afJ mk m xs k d) (by omega),J4 mk d,Nat.add_assoc]) (c _) (pw g)
 simpa [smk] using this
end
theorem lj {α:Type} {xs:List α} {i:Nat} {x:α} (h:i<xs.length):aK (xs.set i x) (i:Int)=some x:=by
 rw[au (by rw[List.length_set];exact h)];simp
theorem M9 {n:Nat} :decide ((n:Int)<0)=false:=by simp only[decide_eq_false_iff_not];omega
def eB (x:Int×Int):Nat:=1+1
def yW (x:Int×Int) (k:Nat):Int×Int:=(((k:Nat):Int),((k+1:Nat):Int))
theorem Qs (xs:List (Int×Int)) (a:Data.sm xs):smk eB xs<=1048576*2:=by
 obtain ⟨c,d⟩:=aA a;have b:=kg eB (B:=2) xs (fun x a=>by
  simp[eB])
 exact Nat.le_trans b (Nat.mul_le_mul_right _ c)
theorem Qt (xs:List (Int×Int)) (l:Data.sm xs) {k:Nat} (b:k+smk eB xs<=4611686018427387904):ng xs (k:Int)=some (((k+smk eB xs:Nat):Int),mkd eB yW xs k):=by
 obtain ⟨n,d⟩:=aA l;unfold ng;rw[ai (Hf (f:=lM) xs eB yW (by omega) b (fun c i k p g j b=>by
  have m:=d _ (bm (xs:=xs) (i:=(i:Int)) (by omega) (by omega));unfold lM;have a:i<c.length:=by omega
  generalize o:nth xs (i:Int)=z at *;have h:k+(1+1)<=4611686018427387904:=b;simp only;rw[if_pos (by simp;omega),aq (by omega) (by omega),j];simp only[aa,Int.toNat_natCast,lj a,List.set_set,af (show i<9223372036854775807 by omega),af (show k<9223372036854775807 by omega),af (show k+1<9223372036854775807 by omega)];have e:k+eB z=k+1+1:=by unfold eB;omega
  rw[e];rfl) (fun c k g=>by
  unfold lM;simp only;rw[if_neg (by simp;omega)]))]
theorem Qu (xs:List (Int×Int)) (h:Data.sm xs) {k:Nat} (b:k+smk eB xs<=4611686018427387904):nk (mkd eB yW xs k) (k:Int)=some ((k+smk eB xs:Nat):Int):=by
 obtain ⟨n,c⟩:=aA h;unfold nk;rw[ai (Hg (f:=lR _) xs eB yW (by omega) b (fun i a m g b=>by
  have j:=c _ (bm (xs:=xs) (i:=(i:Int)) (by omega) (by omega));unfold lR;generalize l:nth xs (i:Int)=z at *;have d:a+(1+1)<=4611686018427387904:=b;simp only;rw[if_pos (by simp[aX];omega),aq (by omega) (by rw[aX];omega),g];simp only[yW,aa,bne_self_eq_false,Bool.false_eq_true,if_false,M9,af (show i<9223372036854775807 by omega),af (show a<9223372036854775807 by omega),af (show a+1<9223372036854775807 by omega)];have e:a+eB z=a+1+1:=by unfold eB;omega
  rw[e]) (fun a=>by
  unfold lR;simp only;rw[if_neg (by simp[aX])]))]
def fw (x:Int):Nat:=1
def FI (x:Int) (k:Nat):Int:=((k:Nat):Int)
theorem VN (xs:List Int) (a:Data.sm xs):smk fw xs<=1048576*1:=by
 obtain ⟨c,d⟩:=aA a;have b:=kg fw (B:=1) xs (fun x a=>by
  simp[fw])
 exact Nat.le_trans b (Nat.mul_le_mul_right _ c)
theorem VO (xs:List Int) (l:Data.sm xs) {k:Nat} (b:k+smk fw xs<=4611686018427387904):oY xs (k:Int)=some (((k+smk fw xs:Nat):Int),mkd fw FI xs k):=by
 obtain ⟨n,d⟩:=aA l;unfold oY;rw[ai (Hf (f:=mO) xs fw FI (by omega) b (fun c i k p g j b=>by
  have m:=d _ (bm (xs:=xs) (i:=(i:Int)) (by omega) (by omega));unfold mO;have a:i<c.length:=by omega
  generalize o:nth xs (i:Int)=z at *;have h:k+(1)<=4611686018427387904:=b;simp only;rw[if_pos (by simp;omega),aq (by omega) (by omega),j];simp only[aa,Int.toNat_natCast,lj a,List.set_set,af (show i<9223372036854775807 by omega),af (show k<9223372036854775807 by omega)];have e:k+fw z=k+1:=by unfold fw;omega
  rw[e];rfl) (fun c k g=>by
  unfold mO;simp only;rw[if_neg (by simp;omega)]))]
theorem VP (xs:List Int) (h:Data.sm xs) {k:Nat} (b:k+smk fw xs<=4611686018427387904):pd (mkd fw FI xs k) (k:Int)=some ((k+smk fw xs:Nat):Int):=by
 obtain ⟨n,c⟩:=aA h;unfold pd;rw[ai (Hg (f:=ni _) xs fw FI (by omega) b (fun i a m g b=>by
  have j:=c _ (bm (xs:=xs) (i:=(i:Int)) (by omega) (by omega));unfold ni;generalize l:nth xs (i:Int)=z at *;have d:a+(1)<=4611686018427387904:=b;simp only;rw[if_pos (by simp[aX];omega),aq (by omega) (by rw[aX];omega),g];simp only[FI,aa,bne_self_eq_false,Bool.false_eq_true,if_false,M9,af (show i<9223372036854775807 by omega),af (show a<9223372036854775807 by omega)];have e:a+fw z=a+1:=by unfold fw;omega
  rw[e]) (fun a=>by
  unfold ni;simp only;rw[if_neg (by simp[aX])]))]
def gp (x:Int×Int×Int×Int):Nat:=1+1+1+1
def BC (x:Int×Int×Int×Int) (k:Nat):Int×Int×Int×Int:=(((k:Nat):Int),((k+1:Nat):Int),((k+1+1:Nat):Int),((k+1+1+1:Nat):Int))
theorem Zk (xs:List Yq4) (a:Data.sm xs):smk gp xs<=1048576*4:=by
 obtain ⟨c,d⟩:=aA a;have b:=kg gp (B:=4) xs (fun x a=>by
  simp[gp])
 exact Nat.le_trans b (Nat.mul_le_mul_right _ c)
theorem Zl (xs:List Yq4) (l:Data.sm xs) {k:Nat} (b:k+smk gp xs<=4611686018427387904):pU xs (k:Int)=some (((k+smk gp xs:Nat):Int),mkd gp BC xs k):=by
 obtain ⟨n,d⟩:=aA l;unfold pU;rw[ai (Hf (f:=lz) xs gp BC (by omega) b (fun c i k p g j b=>by
  have m:=d _ (bm (xs:=xs) (i:=(i:Int)) (by omega) (by omega));unfold lz;have a:i<c.length:=by omega
  generalize o:nth xs (i:Int)=z at *;have h:k+(1+1+1+1)<=4611686018427387904:=b;simp only;rw[if_pos (by simp;omega),aq (by omega) (by omega),j];simp only[aa,Int.toNat_natCast,lj a,List.set_set,af (show i<9223372036854775807 by omega),af (show k<9223372036854775807 by omega),af (show k+1<9223372036854775807 by omega),af (show k+1+1<9223372036854775807 by omega),af (show k+1+1+1<9223372036854775807 by omega)];have e:k+gp z=k+1+1+1+1:=by unfold gp;omega
  rw[e];rfl) (fun c k g=>by
  unfold lz;simp only;rw[if_neg (by simp;omega)]))]
theorem Zm (xs:List Yq4) (h:Data.sm xs) {k:Nat} (b:k+smk gp xs<=4611686018427387904):p8 (mkd gp BC xs k) (k:Int)=some ((k+smk gp xs:Nat):Int):=by
 obtain ⟨n,c⟩:=aA h;unfold p8;rw[ai (Hg (f:=lN _) xs gp BC (by omega) b (fun i a m g b=>by
  have j:=c _ (bm (xs:=xs) (i:=(i:Int)) (by omega) (by omega));unfold lN;generalize l:nth xs (i:Int)=z at *;have d:a+(1+1+1+1)<=4611686018427387904:=b;simp only;rw[if_pos (by simp[aX];omega),aq (by omega) (by rw[aX];omega),g];simp only[BC,aa,bne_self_eq_false,Bool.false_eq_true,if_false,M9,af (show i<9223372036854775807 by omega),af (show a<9223372036854775807 by omega),af (show a+1<9223372036854775807 by omega),af (show a+1+1<9223372036854775807 by omega),af (show a+1+1+1<9223372036854775807 by omega)];have e:a+gp z=a+1+1+1+1:=by unfold gp;omega
  rw[e]) (fun a=>by
  unfold lN;simp only;rw[if_neg (by simp[aX])]))]
def eR (x:(List Int)×Yq1):Nat:=smk fw (x.1)+smk gp (x.2)
def xe (x:(List Int)×Yq1) (k:Nat):(List Int)×Yq1:=(mkd fw FI (x.1) (k),mkd gp BC (x.2) (k+smk fw (x.1)))
theorem VQ (xs:List HQ) (a:Data.sm xs):smk eR xs<=1048576*5242880:=by
 obtain ⟨d,e⟩:=aA a;have b:=kg eR (B:=5242880) xs (fun x a=>by
  have c:=e x a;have f:=VN (x.1) c.1;have g:=Zk (x.2) c.2;unfold eR;omega)
 exact Nat.le_trans b (Nat.mul_le_mul_right _ d)
theorem VR (xs:List HQ) (m:Data.sm xs) {k:Nat} (c:k+smk eR xs<=4611686018427387904):oF xs (k:Int)=some (((k+smk eR xs:Nat):Int),mkd eR xe xs k):=by
 obtain ⟨q,n⟩:=aA m;unfold oF;rw[ai (Hf (f:=kt) xs eR xe (by omega) c (fun d i k r g h c=>by
  have a:=n _ (bm (xs:=xs) (i:=(i:Int)) (by omega) (by omega));unfold kt;have b:i<d.length:=by omega
  generalize p:nth xs (i:Int)=z at *;have l:k+(smk fw (z.1)+smk gp (z.2))<=4611686018427387904:=c;have j:=VO (z.1) a.1 (k:=k) (by omega);have o:=Zl (z.2) a.2 (k:=k+smk fw (z.1)) (by omega);simp only;rw[if_pos (by simp;omega),aq (by omega) (by omega),h];simp only[aa,Int.toNat_natCast,lj b,List.set_set,af (show i<9223372036854775807 by omega),j,o];have e:k+eR z=k+smk fw (z.1)+smk gp (z.2):=by unfold eR;omega
  rw[e];rfl) (fun d k g=>by
  unfold kt;simp only;rw[if_neg (by simp;omega)]))]
theorem VS (xs:List HQ) (m:Data.sm xs) {k:Nat} (c:k+smk eR xs<=4611686018427387904):oU (mkd eR xe xs k) (k:Int)=some ((k+smk eR xs:Nat):Int):=by
 obtain ⟨p,d⟩:=aA m;unfold oU;rw[ai (Hg (f:=kF _) xs eR xe (by omega) c (fun i a o l c=>by
  have b:=d _ (bm (xs:=xs) (i:=(i:Int)) (by omega) (by omega));unfold kF;generalize n:nth xs (i:Int)=z at *;have h:a+(smk fw (z.1)+smk gp (z.2))<=4611686018427387904:=c;have g:=VP (z.1) b.1 (k:=a) (by omega);have j:=Zm (z.2) b.2 (k:=a+smk fw (z.1)) (by omega);simp only;rw[if_pos (by simp[aX];omega),aq (by omega) (by rw[aX];omega),l];simp only[xe,aa,bne_self_eq_false,Bool.false_eq_true,if_false,M9,af (show i<9223372036854775807 by omega),g,j];have e:a+eR z=a+smk fw (z.1)+smk gp (z.2):=by unfold eR;omega
  rw[e]) (fun a=>by
  unfold kF;simp only;rw[if_neg (by simp[aX])]))]
def eS (x:Bool):Nat:=1
def BD (x:Bool) (k:Nat):Bool:=((Int.tmod ((k:Nat):Int) 3)==0)
theorem Zn (xs:List Bool) (a:Data.sm xs):smk eS xs<=1048576*1:=by
 obtain ⟨c,d⟩:=aA a;have b:=kg eS (B:=1) xs (fun x a=>by
  simp[eS])
 exact Nat.le_trans b (Nat.mul_le_mul_right _ c)
theorem Zo (xs:List Bool) (l:Data.sm xs) {k:Nat} (b:k+smk eS xs<=4611686018427387904):pV xs (k:Int)=some (((k+smk eS xs:Nat):Int),mkd eS BD xs k):=by
 obtain ⟨n,d⟩:=aA l;unfold pV;rw[ai (Hf (f:=lA) xs eS BD (by omega) b (fun c i k p g j b=>by
  have m:=d _ (bm (xs:=xs) (i:=(i:Int)) (by omega) (by omega));unfold lA;have a:i<c.length:=by omega
  generalize o:nth xs (i:Int)=z at *;have h:k+(1)<=4611686018427387904:=b;simp only;rw[if_pos (by simp;omega),aq (by omega) (by omega),j];simp only[aa,Int.toNat_natCast,lj a,List.set_set,af (show i<9223372036854775807 by omega),af (show k<9223372036854775807 by omega)];have e:k+eS z=k+1:=by unfold eS;omega
  rw[e];rfl) (fun c k g=>by
  unfold lA;simp only;rw[if_neg (by simp;omega)]))]
theorem Zp (xs:List Bool) (h:Data.sm xs) {k:Nat} (b:k+smk eS xs<=4611686018427387904):p9 (mkd eS BD xs k) (k:Int)=some ((k+smk eS xs:Nat):Int):=by
 obtain ⟨n,c⟩:=aA h;unfold p9;rw[ai (Hg (f:=lO _) xs eS BD (by omega) b (fun i a m g b=>by
  have j:=c _ (bm (xs:=xs) (i:=(i:Int)) (by omega) (by omega));unfold lO;generalize l:nth xs (i:Int)=z at *;have d:a+(1)<=4611686018427387904:=b;simp only;rw[if_pos (by simp[aX];omega),aq (by omega) (by rw[aX];omega),g];simp only[BD,aa,bne_self_eq_false,Bool.false_eq_true,if_false,M9,af (show i<9223372036854775807 by omega),af (show a<9223372036854775807 by omega)];have e:a+eS z=a+1:=by unfold eS;omega
  rw[e]) (fun a=>by
  unfold lO;simp only;rw[if_neg (by simp[aX])]))]
def gq (x:List Int):Nat:=smk fw (x)
def BE (x:List Int) (k:Nat):List Int:=mkd fw FI x k
theorem Zq (xs:List (List Int)) (a:Data.sm xs):smk gq xs<=1048576*1048576:=by
 obtain ⟨d,e⟩:=aA a;have b:=kg gq (B:=1048576) xs (fun x a=>by
  have c:=e x a;have f:=VN (x) c;unfold gq;omega)
 exact Nat.le_trans b (Nat.mul_le_mul_right _ d)
theorem Zr (xs:List (List Int)) (n:Data.sm xs) {k:Nat} (b:k+smk gq xs<=4611686018427387904):pW xs (k:Int)=some (((k+smk gq xs:Nat):Int),mkd gq BE xs k):=by
 obtain ⟨o,g⟩:=aA n;unfold pW;rw[ai (Hf (f:=lB) xs gq BE (by omega) b (fun d i k q h m b=>by
  have c:=g _ (bm (xs:=xs) (i:=(i:Int)) (by omega) (by omega));unfold lB;have a:i<d.length:=by omega
  generalize p:nth xs (i:Int)=z at *;have l:k+(smk fw (z))<=4611686018427387904:=b;have j:=VO (z) c (k:=k) (by omega);simp only;rw[if_pos (by simp;omega),aq (by omega) (by omega),m];simp only[aa,Int.toNat_natCast,lj a,List.set_set,af (show i<9223372036854775807 by omega),j];have e:k+gq z=k+smk fw (z):=by unfold gq;omega
  rw[e];rfl) (fun d k h=>by
  unfold lB;simp only;rw[if_neg (by simp;omega)]))]
theorem Zs (xs:List (List Int)) (l:Data.sm xs) {k:Nat} (b:k+smk gq xs<=4611686018427387904):qa (mkd gq BE xs k) (k:Int)=some ((k+smk gq xs:Nat):Int):=by
 obtain ⟨o,d⟩:=aA l;unfold qa;rw[ai (Hg (f:=lP _) xs gq BE (by omega) b (fun i a n j b=>by
  have c:=d _ (bm (xs:=xs) (i:=(i:Int)) (by omega) (by omega));unfold lP;generalize m:nth xs (i:Int)=z at *;have h:a+(smk fw (z))<=4611686018427387904:=b;have g:=VP (z) c (k:=a) (by omega);simp only;rw[if_pos (by simp[aX];omega),aq (by omega) (by rw[aX];omega),j];simp only[BE,aa,bne_self_eq_false,Bool.false_eq_true,if_false,M9,af (show i<9223372036854775807 by omega),g];have e:a+gq z=a+smk fw (z):=by unfold gq;omega
  rw[e]) (fun a=>by
  unfold lP;simp only;rw[if_neg (by simp[aX])]))]
def bu (x:Int×(List Bool)×(List (List Int))):Nat:=1+smk eS (x.2.1)+smk gq (x.2.2)
def mn (x:Int×(List Bool)×(List (List Int))) (k:Nat):Int×(List Bool)×(List (List Int)):=(((k:Nat):Int),mkd eS BD (x.2.1) (k+1),mkd gq BE (x.2.2) (k+1+smk eS (x.2.1)))
theorem J5 (xs:List Yq2) (a:Data.sm xs):smk bu xs<=1048576*1099512676353:=by
 obtain ⟨d,e⟩:=aA a;have b:=kg bu (B:=1099512676353) xs (fun x a=>by
  have c:=e x a;have f:=Zn (x.2.1) c.2.1;have g:=Zq (x.2.2) c.2.2;unfold bu;omega)
 exact Nat.le_trans b (Nat.mul_le_mul_right _ d)
theorem J6 (xs:List Yq2) (m:Data.sm xs) {k:Nat} (c:k+smk bu xs<=4611686018427387904):jn xs (k:Int)=some (((k+smk bu xs:Nat):Int),mkd bu mn xs k):=by
 obtain ⟨q,n⟩:=aA m;unfold jn;rw[ai (Hf (f:=fH) xs bu mn (by omega) c (fun d i k r g h c=>by
  have a:=n _ (bm (xs:=xs) (i:=(i:Int)) (by omega) (by omega));unfold fH;have b:i<d.length:=by omega
  generalize p:nth xs (i:Int)=z at *;have l:k+(1+smk eS (z.2.1)+smk gq (z.2.2))<=4611686018427387904:=c;have j:=Zo (z.2.1) a.2.1 (k:=k+1) (by omega);have o:=Zr (z.2.2) a.2.2 (k:=k+1+smk eS (z.2.1)) (by omega);simp only;rw[if_pos (by simp;omega),aq (by omega) (by omega),h];simp only[aa,Int.toNat_natCast,lj b,List.set_set,af (show i<9223372036854775807 by omega),af (show k<9223372036854775807 by omega),j,o];have e:k+bu z=k+1+smk eS (z.2.1)+smk gq (z.2.2):=by unfold bu;omega
  rw[e];rfl) (fun d k g=>by
  unfold fH;simp only;rw[if_neg (by simp;omega)]))]
theorem J7 (xs:List Yq2) (m:Data.sm xs) {k:Nat} (c:k+smk bu xs<=4611686018427387904):jr (mkd bu mn xs k) (k:Int)=some ((k+smk bu xs:Nat):Int):=by
 obtain ⟨p,d⟩:=aA m;unfold jr;rw[ai (Hg (f:=fT _) xs bu mn (by omega) c (fun i a o l c=>by
  have b:=d _ (bm (xs:=xs) (i:=(i:Int)) (by omega) (by omega));unfold fT;generalize n:nth xs (i:Int)=z at *;have h:a+(1+smk eS (z.2.1)+smk gq (z.2.2))<=4611686018427387904:=c;have g:=Zp (z.2.1) b.2.1 (k:=a+1) (by omega);have j:=Zs (z.2.2) b.2.2 (k:=a+1+smk eS (z.2.1)) (by omega);simp only;rw[if_pos (by simp[aX];omega),aq (by omega) (by rw[aX];omega),l];simp only[mn,aa,bne_self_eq_false,Bool.false_eq_true,if_false,M9,af (show i<9223372036854775807 by omega),af (show a<9223372036854775807 by omega),g,j];have e:a+bu z=a+1+smk eS (z.2.1)+smk gq (z.2.2):=by unfold bu;omega
  rw[e]) (fun a=>by
  unfold fT;simp only;rw[if_neg (by simp[aX])]))]
def dm (x:Int×Int×Int×Int):Nat:=1+1+1+1
def xf (x:Int×Int×Int×Int) (k:Nat):Int×Int×Int×Int:=(((k:Nat):Int),((k+1:Nat):Int),((k+1+1:Nat):Int),((k+1+1+1:Nat):Int))
theorem VT (xs:List Yq4) (a:Data.sm xs):smk dm xs<=1048576*4:=by
 obtain ⟨c,d⟩:=aA a;have b:=kg dm (B:=4) xs (fun x a=>by
  simp[dm])
 exact Nat.le_trans b (Nat.mul_le_mul_right _ c)
theorem VU (xs:List Yq4) (l:Data.sm xs) {k:Nat} (b:k+smk dm xs<=4611686018427387904):oG xs (k:Int)=some (((k+smk dm xs:Nat):Int),mkd dm xf xs k):=by
 obtain ⟨n,d⟩:=aA l;unfold oG;rw[ai (Hf (f:=ku) xs dm xf (by omega) b (fun c i k p g j b=>by
  have m:=d _ (bm (xs:=xs) (i:=(i:Int)) (by omega) (by omega));unfold ku;have a:i<c.length:=by omega
  generalize o:nth xs (i:Int)=z at *;have h:k+(1+1+1+1)<=4611686018427387904:=b;simp only;rw[if_pos (by simp;omega),aq (by omega) (by omega),j];simp only[aa,Int.toNat_natCast,lj a,List.set_set,af (show i<9223372036854775807 by omega),af (show k<9223372036854775807 by omega),af (show k+1<9223372036854775807 by omega),af (show k+1+1<9223372036854775807 by omega),af (show k+1+1+1<9223372036854775807 by omega)];have e:k+dm z=k+1+1+1+1:=by unfold dm;omega
  rw[e];rfl) (fun c k g=>by
  unfold ku;simp only;rw[if_neg (by simp;omega)]))]
theorem VV (xs:List Yq4) (h:Data.sm xs) {k:Nat} (b:k+smk dm xs<=4611686018427387904):oV (mkd dm xf xs k) (k:Int)=some ((k+smk dm xs:Nat):Int):=by
 obtain ⟨n,c⟩:=aA h;unfold oV;rw[ai (Hg (f:=kG _) xs dm xf (by omega) b (fun i a m g b=>by
  have j:=c _ (bm (xs:=xs) (i:=(i:Int)) (by omega) (by omega));unfold kG;generalize l:nth xs (i:Int)=z at *;have d:a+(1+1+1+1)<=4611686018427387904:=b;simp only;rw[if_pos (by simp[aX];omega),aq (by omega) (by rw[aX];omega),g];simp only[xf,aa,bne_self_eq_false,Bool.false_eq_true,if_false,M9,af (show i<9223372036854775807 by omega),af (show a<9223372036854775807 by omega),af (show a+1<9223372036854775807 by omega),af (show a+1+1<9223372036854775807 by omega),af (show a+1+1+1<9223372036854775807 by omega)];have e:a+dm z=a+1+1+1+1:=by unfold dm;omega
  rw[e]) (fun a=>by
  unfold kG;simp only;rw[if_neg (by simp[aX])]))]
def bz (x:Int×(Yq1)×Int):Nat:=1+smk dm (x.2.1)+1
def kK (x:Int×(Yq1)×Int) (k:Nat):Int×(Yq1)×Int:=(((k:Nat):Int),mkd dm xf (x.2.1) (k+1),((k+1+smk dm (x.2.1):Nat):Int))
theorem Hh (xs:List xw) (a:Data.sm xs):smk bz xs<=1048576*4194306:=by
 obtain ⟨d,e⟩:=aA a;have b:=kg bz (B:=4194306) xs (fun x a=>by
  have c:=e x a;have f:=VT (x.2.1) c.2.1;unfold bz;omega)
 exact Nat.le_trans b (Nat.mul_le_mul_right _ d)
theorem Hi (xs:List xw) (n:Data.sm xs) {k:Nat} (b:k+smk bz xs<=4611686018427387904):iC xs (k:Int)=some (((k+smk bz xs:Nat):Int),mkd bz kK xs k):=by
 obtain ⟨o,g⟩:=aA n;unfold iC;rw[ai (Hf (f:=fl) xs bz kK (by omega) b (fun d i k q h m b=>by
  have c:=g _ (bm (xs:=xs) (i:=(i:Int)) (by omega) (by omega));unfold fl;have a:i<d.length:=by omega
  generalize p:nth xs (i:Int)=z at *;have l:k+(1+smk dm (z.2.1)+1)<=4611686018427387904:=b;have j:=VU (z.2.1) c.2.1 (k:=k+1) (by omega);simp only;rw[if_pos (by simp;omega),aq (by omega) (by omega),m];simp only[aa,Int.toNat_natCast,lj a,List.set_set,af (show i<9223372036854775807 by omega),af (show k<9223372036854775807 by omega),af (show k+1+smk dm (z.2.1)<9223372036854775807 by omega),j];have e:k+bz z=k+1+smk dm (z.2.1)+1:=by unfold bz;omega
  rw[e];rfl) (fun d k h=>by
  unfold fl;simp only;rw[if_neg (by simp;omega)]))]
theorem Hj (xs:List xw) (l:Data.sm xs) {k:Nat} (b:k+smk bz xs<=4611686018427387904):iO (mkd bz kK xs k) (k:Int)=some ((k+smk bz xs:Nat):Int):=by
 obtain ⟨o,d⟩:=aA l;unfold iO;rw[ai (Hg (f:=fq _) xs bz kK (by omega) b (fun i a n j b=>by
  have c:=d _ (bm (xs:=xs) (i:=(i:Int)) (by omega) (by omega));unfold fq;generalize m:nth xs (i:Int)=z at *;have h:a+(1+smk dm (z.2.1)+1)<=4611686018427387904:=b;have g:=VV (z.2.1) c.2.1 (k:=a+1) (by omega);simp only;rw[if_pos (by simp[aX];omega),aq (by omega) (by rw[aX];omega),j];simp only[kK,aa,bne_self_eq_false,Bool.false_eq_true,if_false,M9,af (show i<9223372036854775807 by omega),af (show a<9223372036854775807 by omega),af (show a+1+smk dm (z.2.1)<9223372036854775807 by omega),g];have e:a+bz z=a+1+smk dm (z.2.1)+1:=by unfold bz;omega
  rw[e]) (fun a=>by
  unfold fq;simp only;rw[if_neg (by simp[aX])]))]
def bA (x:Int×Int×Int):Nat:=1+1+1
def kL (x:Int×Int×Int) (k:Nat):Int×Int×Int:=(((k:Nat):Int),((k+1:Nat):Int),((k+1+1:Nat):Int))
theorem Hk (xs:List Yq8) (a:Data.sm xs):smk bA xs<=1048576*3:=by
 obtain ⟨c,d⟩:=aA a;have b:=kg bA (B:=3) xs (fun x a=>by
  simp[bA])
 exact Nat.le_trans b (Nat.mul_le_mul_right _ c)
theorem Hl (xs:List Yq8) (l:Data.sm xs) {k:Nat} (b:k+smk bA xs<=4611686018427387904):iD xs (k:Int)=some (((k+smk bA xs:Nat):Int),mkd bA kL xs k):=by
 obtain ⟨n,d⟩:=aA l;unfold iD;rw[ai (Hf (f:=fm) xs bA kL (by omega) b (fun c i k p g j b=>by
  have m:=d _ (bm (xs:=xs) (i:=(i:Int)) (by omega) (by omega));unfold fm;have a:i<c.length:=by omega
  generalize o:nth xs (i:Int)=z at *;have h:k+(1+1+1)<=4611686018427387904:=b;simp only;rw[if_pos (by simp;omega),aq (by omega) (by omega),j];simp only[aa,Int.toNat_natCast,lj a,List.set_set,af (show i<9223372036854775807 by omega),af (show k<9223372036854775807 by omega),af (show k+1<9223372036854775807 by omega),af (show k+1+1<9223372036854775807 by omega)];have e:k+bA z=k+1+1+1:=by unfold bA;omega
  rw[e];rfl) (fun c k g=>by
  unfold fm;simp only;rw[if_neg (by simp;omega)]))]
theorem Hm (xs:List Yq8) (h:Data.sm xs) {k:Nat} (b:k+smk bA xs<=4611686018427387904):iP (mkd bA kL xs k) (k:Int)=some ((k+smk bA xs:Nat):Int):=by
 obtain ⟨n,c⟩:=aA h;unfold iP;rw[ai (Hg (f:=fu _) xs bA kL (by omega) b (fun i a m g b=>by
  have j:=c _ (bm (xs:=xs) (i:=(i:Int)) (by omega) (by omega));unfold fu;generalize l:nth xs (i:Int)=z at *;have d:a+(1+1+1)<=4611686018427387904:=b;simp only;rw[if_pos (by simp[aX];omega),aq (by omega) (by rw[aX];omega),g];simp only[kL,aa,bne_self_eq_false,Bool.false_eq_true,if_false,M9,af (show i<9223372036854775807 by omega),af (show a<9223372036854775807 by omega),af (show a+1<9223372036854775807 by omega),af (show a+1+1<9223372036854775807 by omega)];have e:a+bA z=a+1+1+1:=by unfold bA;omega
  rw[e]) (fun a=>by
  unfold fu;simp only;rw[if_neg (by simp[aX])]))]
def cX (x:Int×Yq5):Nat:=smk eR (x.2)
def Aw (x:Int×Yq5) (k:Nat):Int×Yq5:=(x.1,mkd eR xe (x.2) (k))
theorem Si (x:Int×Yq5) (a:Data.sm x):cX x<=5497558138880:=by
 have b:=VQ (x.2) a.2;unfold cX;omega
theorem Sj (x:Int×Yq5) (c:Data.sm x) {k:Nat} (b:k+cX x<=4611686018427387904):mP x (k:Int)=some (((k+cX x:Nat):Int),Aw x k):=by
 unfold cX at b;have a:=VR (x.2) c.2 (k:=k) (by omega);unfold mP;simp only[dG,aa,a];have e:k+cX x=k+smk eR (x.2):=by unfold cX;omega
 rw[e];rfl
theorem Sk (x:Int×Yq5) (c:Data.sm x) {k:Nat} (b:k+cX x<=4611686018427387904):nj (Aw x k) (k:Int)=some ((k+cX x:Nat):Int):=by
 unfold cX at b;have a:=VS (x.2) c.2 (k:=k) (by omega);unfold nj Aw;simp only[dG,aa,Bool.false_eq_true,if_false,M9,a];have e:k+cX x=k+smk eR (x.2):=by unfold cX;omega
 rw[e]
def cT (x:(List Yq2)×Yq3):Nat:=smk bu (x.1)+smk bz (x.2)
def xg (x:(List Yq2)×Yq3) (k:Nat):(List Yq2)×Yq3:=(mkd bu mn (x.1) (k),mkd bz kK (x.2) (k+smk bu (x.1)))
theorem OM (x:(List Yq2)×Yq3) (a:Data.sm x):cT x<=1152927002168131584:=by
 have c:=J5 (x.1) a.1;have b:=Hh (x.2) a.2;unfold cT;omega
theorem ON (x:(List Yq2)×Yq3) (a:Data.sm x) {k:Nat} (d:k+cT x<=4611686018427387904):lC x (k:Int)=some (((k+cT x:Nat):Int),xg x k):=by
 unfold cT at d;have b:=J6 (x.1) a.1 (k:=k) (by omega);have c:=Hi (x.2) a.2 (k:=k+smk bu (x.1)) (by omega);unfold lC;simp only[dG,aa,b,c];have e:k+cT x=k+smk bu (x.1)+smk bz (x.2):=by unfold cT;omega
 rw[e];rfl
theorem OO (x:(List Yq2)×Yq3) (a:Data.sm x) {k:Nat} (d:k+cT x<=4611686018427387904):lQ (xg x k) (k:Int)=some ((k+cT x:Nat):Int):=by
 unfold cT at d;have b:=J7 (x.1) a.1 (k:=k) (by omega);have c:=Hj (x.2) a.2 (k:=k+smk bu (x.1)) (by omega);unfold lQ xg;simp only[dG,aa,Bool.false_eq_true,if_false,M9,b,c];have e:k+cT x=k+smk bu (x.1)+smk bz (x.2):=by unfold cT;omega
 rw[e]
def gG (x:(Int×Yq5)×Yq9×(List Yq8)×ByteArray):Nat:=cX (x.1)+cT (x.2.1)+smk bA (x.2.2.1)
def xh (x:(Int×Yq5)×Yq9×(List Yq8)×ByteArray) (k:Nat):(Int×Yq5)×Yq9×(List Yq8)×ByteArray:=(Aw (x.1) (k),xg (x.2.1) (k+cX (x.1)),mkd bA kL (x.2.2.1) (k+cX (x.1)+cT (x.2.1)),x.2.2.2)
theorem Mz (x:(Int×Yq5)×Yq9×(List Yq8)×ByteArray) (a:Data.sm x):gG x<=1152932499729416192:=by
 have b:=Si (x.1) a.1;have c:=OM (x.2.1) a.2.1;have d:=Hk (x.2.2.1) a.2.2.1;unfold gG;omega
theorem MA (x:(Int×Yq5)×Yq9×(List Yq8)×ByteArray) (a:Data.sm x) {k:Nat} (d:k+gG x<=4611686018427387904):gi x (k:Int)=some (((k+gG x:Nat):Int),xh x k):=by
 unfold gG at d;have b:=Sj (x.1) a.1 (k:=k) (by omega);have c:=ON (x.2.1) a.2.1 (k:=k+cX (x.1)) (by omega);have f:=Hl (x.2.2.1) a.2.2.1 (k:=k+cX (x.1)+cT (x.2.1)) (by omega);unfold gi;simp only[dG,aa,b,c,f];have e:k+gG x=k+cX (x.1)+cT (x.2.1)+smk bA (x.2.2.1):=by unfold gG;omega
 rw[e];rfl
theorem VW (x:(Int×Yq5)×Yq9×(List Yq8)×ByteArray) (a:Data.sm x) {k:Nat} (d:k+gG x<=4611686018427387904):jh (xh x k) (k:Int)=some ((k+gG x:Nat):Int):=by
 unfold gG at d;have b:=Sk (x.1) a.1 (k:=k) (by omega);have c:=OO (x.2.1) a.2.1 (k:=k+cX (x.1)) (by omega);have f:=Hm (x.2.2.1) a.2.2.1 (k:=k+cX (x.1)+cT (x.2.1)) (by omega);unfold jh xh;simp only[dG,aa,Bool.false_eq_true,if_false,M9,b,c,f];have e:k+gG x=k+cX (x.1)+cT (x.2.1)+smk bA (x.2.2.1):=by unfold gG;omega
 rw[e]
def l8 (x:Yq6×Yq6):Nat:=smk eB (x.1)+smk eB (x.2)
def FJ (x:Yq6×Yq6) (k:Nat):Yq6×Yq6:=(mkd eB yW (x.1) (k),mkd eB yW (x.2) (k+smk eB (x.1)))
theorem Zt (x:Yq6×Yq6) (a:Data.sm x):l8 x<=4194304:=by
 have c:=Qs (x.1) a.1;have b:=Qs (x.2) a.2;unfold l8;omega
theorem Zu (x:Yq6×Yq6) (a:Data.sm x) {k:Nat} (d:k+l8 x<=4611686018427387904):p7 x (k:Int)=some (((k+l8 x:Nat):Int),FJ x k):=by
 unfold l8 at d;have b:=Qt (x.1) a.1 (k:=k) (by omega);have c:=Qt (x.2) a.2 (k:=k+smk eB (x.1)) (by omega);unfold p7;simp only[dG,aa,b,c];have e:k+l8 x=k+smk eB (x.1)+smk eB (x.2):=by unfold l8;omega
 rw[e];rfl
theorem Zv (x:Yq6×Yq6) (a:Data.sm x) {k:Nat} (d:k+l8 x<=4611686018427387904):qb (FJ x k) (k:Int)=some ((k+l8 x:Nat):Int):=by
 unfold l8 at d;have b:=Qu (x.1) a.1 (k:=k) (by omega);have c:=Qu (x.2) a.2 (k:=k+smk eB (x.1)) (by omega);unfold qb FJ;simp only[dG,aa,Bool.false_eq_true,if_false,M9,b,c];have e:k+l8 x=k+smk eB (x.1)+smk eB (x.2):=by unfold l8;omega
 rw[e]
def jb (x:Int×Bool×KN):Nat:=l8 (x.2.2)
def Ax (x:Int×Bool×KN) (k:Nat):Int×Bool×KN:=(x.1,x.2.1,FJ (x.2.2) (k))
theorem Sl (x:Int×Bool×KN) (a:Data.sm x):jb x<=4194304:=by
 have b:=Zt (x.2.2) a.2.2;unfold jb;omega
theorem Sn (x:Int×Bool×KN) (c:Data.sm x) {k:Nat} (b:k+jb x<=4611686018427387904):nh x (k:Int)=some (((k+jb x:Nat):Int),Ax x k):=by
 unfold jb at b;have a:=Zu (x.2.2) c.2.2 (k:=k) (by omega);unfold nh;simp only[dG,aa,a];have e:k+jb x=k+l8 (x.2.2):=by unfold jb;omega
 rw[e];rfl
theorem So (x:Int×Bool×KN) (c:Data.sm x) {k:Nat} (b:k+jb x<=4611686018427387904):gX (Ax x k) (k:Int)=some ((k+jb x:Nat):Int):=by
 unfold jb at b;have a:=Zv (x.2.2) c.2.2 (k:=k) (by omega);unfold gX Ax;simp only[dG,aa,Bool.false_eq_true,if_false,M9,a];have e:k+jb x=k+l8 (x.2.2):=by unfold jb;omega
 rw[e]
end D
namespace D
abbrev Pr:=Int×Int
def ltP (a b:Pr):Prop:=a.1<b.1\/a.1=b.1/\a.2<b.2
instance (a b:Pr):Decidable (ltP a b):=inferInstanceAs (Decidable (_\/_))
theorem VX (a:Pr): ¬ltP a a:=by unfold ltP;omega
theorem MB {a b c:Pr} (h:ltP a b) (k:ltP b c):ltP a c:=by unfold ltP at *;omega
theorem VY {a b:Pr} (h:ltP a b): ¬ltP b a:=by unfold ltP at *;omega
theorem OP (a b:Pr):ltP a b\/a=b\/ltP b a:=by
 unfold ltP;by_cases h:a=b
 ·exact .inr (.inl h)
 ·have: ¬(a.1=b.1/\a.2=b.2):=fun e=>h (Prod.ext e.1 e.2)
  omega
abbrev Str (l:List Pr):Prop:=l.Pairwise ltP
theorem J8: ∀ {l m:List Pr},Str l->Str m->(∀x,x∈l↔x∈m)->l=m
 | [],[],_,_,_=>rfl
 | [],b::m,_,_,h=>absurd ((h b).2 (List.mem_cons_self ..)) (by simp)
 | a::l,[],_,_,h=>absurd ((h a).1 (List.mem_cons_self ..)) (by simp)
 | a::l,b::m,hl,hm,h=>by
  obtain ⟨i,k⟩:=List.pairwise_cons.1 hl;obtain ⟨g,j⟩:=List.pairwise_cons.1 hm;have d:a=b:=by
   rcases az ((h a).1 (List.mem_cons_self ..)) with e | e
   ·exact e
   ·rcases az ((h b).2 (List.mem_cons_self ..)) with f | f
    ·exact f.symm
    ·exact absurd (g a e) (VY (i b f))
  subst d;rw[J8 k j fun x=>?_];constructor
  ·intro c;rcases az ((h x).1 (bp _ c)) with e | e
   ·subst e;exact absurd (i x c) (VX x)
   ·exact e
  ·intro c;rcases az ((h x).2 (bp _ c)) with e | e
   ·subst e;exact absurd (g x c) (VX x)
   ·exact e
def ahd (p:Pr):List Pr->Nat
 | [] =>0
 | a::l=>if ltP a p then ahd p l+1 else 0
theorem VZ (p:Pr): ∀l:List Pr,ahd p l<=l.length
 | [] =>aH _
 | a::l=>by
  unfold ahd;split
  ·have:=VZ p l;rw[aM];omega
  ·exact Nat.zero_le _
theorem aa7 (p:Pr): ∀(l:List Pr) (i:Nat),i<ahd p l-> ∃x,l[i]? =some x/\ltP x p
 | [],i,h=>by simp[ahd] at h
 | a::l,i,h=>by
  unfold ahd at h;split at h
  ·rename_i c;cases i with
   | zero=>exact ⟨a,rfl,c⟩
   | succ i =>
    obtain ⟨x,b,d⟩:=aa7 p l i (by omega);exact ⟨x,by simpa using b,d⟩
  ·omega
theorem aa8 (p:Pr): ∀(l:List Pr) x,l[ahd p l]? =some x-> ¬ltP x p
 | [],x,h=>by simp at h
 | a::l,x,h=>by
  unfold ahd at h;split at h
  ·exact aa8 p l x (by simpa using h)
  ·rename_i b;simp at h;subst h;exact b
def put (l:List Pr) (p:Pr):List Pr:=if l[ahd p l]? =some p then l else l.take (ahd p l)++p::l.drop (ahd p l)
theorem Qv (a:Pr) (l:List Pr) (p:Pr):put (a::l) p=if ltP a p then a::put l p else if a=p then a::l else p::a::l:=by
 unfold put;by_cases h:ltP a p
 ·have e:ahd p (a::l)=ahd p l+1:=by rw[ahd,if_pos h]
  rw[e,if_pos h];by_cases k:l[ahd p l]? =some p
  ·rw[if_pos (by simpa using k),if_pos k]
  ·rw[if_neg (by simpa using k),if_neg k];rfl
 ·have e:ahd p (a::l)=0:=by rw[ahd,if_neg h]
  rw[e,if_neg h];by_cases k:a=p
  ·rw[if_pos (by simp[k]),if_pos k]
  ·rw[if_neg (by simpa using k),if_neg k];rfl
theorem OQ {x p:Pr} : ∀l:List Pr,x∈put l p↔x=p\/x∈l
 | [] =>by simp[put,ahd]
 | a::l=>by
  rw[Qv];split
  ·rw[List.mem_cons,OQ l,List.mem_cons];grind
  ·split
   ·rename_i e;subst e;rw[List.mem_cons];grind
   ·rw[List.mem_cons]
theorem V0 {p:Pr} : ∀ {l:List Pr},Str l->Str (put l p)
 | [],_=>by simp[put,ahd]
 | a::l,h=>by
  obtain ⟨e,g⟩:=List.pairwise_cons.1 h;rw[Qv];split
  ·rename_i d;refine List.pairwise_cons.2 ⟨fun x b=>?_,V0 g⟩;rcases (OQ l).1 b with rfl | b
   ·exact d
   ·exact e x b
  ·rename_i d;split
   ·exact h
   ·rename_i f;have hp:ltP p a:=by
     rcases OP p a with c | c | c
     ·exact c
     ·exact absurd c.symm f
     ·exact absurd c d
    refine List.pairwise_cons.2 ⟨fun x b=>?_,h⟩;rcases az b with rfl | b
    ·exact hp
    ·exact MB hp (e x b)
def Qw (l m:List Pr):List Pr:=m.foldl put l
theorem J9: ∀ {m l:List Pr},Str l->Str (Qw l m)
 | [],l,h=>h
 | p::m,l,h=>J9 (m:=m) (V0 h)
theorem Ka {x:Pr} : ∀ {m l:List Pr},x∈Qw l m↔x∈l\/x∈m
 | [],l=>by simp[Qw]
 | p::m,l=>by
  show x∈Qw (put l p) m↔_;rw[Ka,OQ,List.mem_cons];grind
def nub:List Pr->List Pr
 | [] =>[]
 | [a] =>[a]
 | a::b::l=>if a=b then nub (b::l) else a::nub (b::l)
theorem Kb {x:Pr} : ∀ {l:List Pr},x∈nub l↔x∈l
 | [] =>Iff.rfl
 | [a] =>Iff.rfl
 | a::b::l=>by
  rw[nub];split
  ·rename_i e;subst e;rw[Kb];simp
  ·rw[List.mem_cons,Kb,List.mem_cons (l:=b::l)]
theorem OR: ∀ {l:List Pr},l.Pairwise (fun a b=> ¬ltP b a)->Str (nub l)
 | [],_=>List.Pairwise.nil
 | [a],_=>by simp[nub]
 | a::b::l,h=>by
  obtain ⟨i,f⟩:=List.pairwise_cons.1 h;rw[nub];split
  ·exact OR f
  ·rename_i g;refine List.pairwise_cons.2 ⟨fun x e=>?_,OR f⟩;have d:ltP a b:=by
    rcases OP a b with c | c | c
    ·exact c
    ·exact absurd c g
    ·exact absurd c (i b (List.mem_cons_self ..))
   rcases az (Kb.1 e) with rfl | e
   ·exact d
   ·rcases OP b x with c | c | c
    ·exact MB d c
    ·subst c;exact d
    ·exact absurd c ((List.pairwise_cons.1 f).1 x e)
theorem Sp {l:List Pr} {f:Pr->Bool} (h:Str l):Str (l.filter f):=List.Pairwise.filter _ h
end D
namespace D
open Go.RowKit
theorem FK {α R:Type} {f:Int->Option (Out R Int)} (l:List α) (b:α->Bool) (r:Nat->R) (v:l.length<=9223372036854775807) (h: ∀i (hi:i<l.length),f (i:Int)=some (if b l[i] then .ret (r i) else .nxt ((i+1:Nat):Int))) (n:f (l.length:Int)=some (.brk (l.length:Int))) :
  (∃(i:Nat) (hi:i<l.length),b l[i] =true/\(∀j (a:j<i),b (l[j]'(by omega))=false)/\aj f aP 0=some (.ret (r i)))\/((∀x,x∈l->b x=false)/\aj f aP 0=some (.brk (l.length:Int))):=by
 obtain ⟨o,e,p⟩:=cq (f:=f) (fun i s=>s=(i:Int)/\ ∀j (a:j<l.length),j<i->b l[j] =false) (fun o=>(∃(i:Nat) (hi:i<l.length),b l[i] =true/\(∀j (a:j<i),b (l[j]'(by omega))=false)/\o= .ret (r i))\/((∀x,x∈l->b x=false)/\o= .brk (l.length:Int))) l.length (fun i s hi g=>by
  obtain ⟨rfl,g⟩:=g;by_cases d:i<l.length
  ·cases k:b l[i] with
   | true=>exact .inr ⟨_,by rw[h i d,k,if_pos rfl],fun t m=>by simp at m,.inl ⟨i,d,k,fun j a=>g j (by omega) a,by simp⟩⟩
   | false=>exact .inl ⟨d,_,by rw[h i d,k,if_neg (by simp)],rfl,fun j a q=>by
     by_cases c:j=i
     ·subst c;exact k
     ·exact g j a (by omega)⟩
  ·obtain rfl:i=l.length:=by omega
   exact .inr ⟨_,n,fun t m=>by simp at m,.inr ⟨fun x u=>by
    obtain ⟨j,a,rfl⟩:=List.getElem_of_mem u;exact g j a a,rfl⟩⟩) (s:=0) ⟨rfl,fun j a y=>by omega⟩ (dC _ v)
 rcases p with ⟨i,hi,d,w,rfl⟩ | ⟨d,rfl⟩
 ·exact .inl ⟨i,hi,d,w,e⟩
 ·exact .inr ⟨d,e⟩
section
variable {l m:List Pr} {p:Pr}
theorem ahF {a b:Pr} :((a.1==b.1)&&((a.2==b.2)&&true))=decide (a=b):=by
 rw[Bool.eq_iff_iff];simp[Prod.ext_iff]
theorem ahG {a b:Pr} :(Bool.and.match_1 (fun (_:Bool)=>Bool) (a.1==b.1) (fun (_:Unit)=>false) (fun (_:Unit)=>Bool.and.match_1 (fun (_:Bool)=>Bool) (a.2==b.2) (fun (_:Unit)=>false) (fun (_:Unit)=>true)))=decide (a=b):=ahF
theorem ahH (d:l.length<=1073741824):wZ l p=some (decide (p∈l)):=by
 unfold wZ;rcases FK (f:=pY l p) l (fun x=>decide (x=p)) (fun _=>true) (by omega) (fun i a=>by
   unfold pY;rw[br a,if_pos rfl,au a];simp only[aa,ahF,af (show i<9223372036854775807 by omega)];split <;> rfl) (by
   unfold pY;rw[bf];rfl) with ⟨i,a,b,-,e⟩ | ⟨b,e⟩
 ·rw[bg e,decide_eq_true (by rw[<-of_decide_eq_true b];exact List.getElem_mem a)]
 ·rw[ai e,decide_eq_false fun c=>by have:=b p c;simp at this]
theorem ahI (d:l.length<=1073741824): ∃r:Int,dk l p=some r/\(0<=r↔p∈l):=by
 unfold dk;rcases FK (f:=cE l p) l (fun x=>decide (p=x)) (fun i=>(i:Int)) (by omega) (fun i a=>by
   unfold cE;rw[br a,if_pos rfl,au a];simp only[aa,ahF,af (show i<9223372036854775807 by omega)];split <;> rfl) (by
   unfold cE;rw[bf];rfl) with ⟨i,a,b,-,e⟩ | ⟨b,e⟩
 ·exact ⟨_,bg e,by
   have:p∈l:=by rw[of_decide_eq_true b];exact List.getElem_mem a
   simp[this]⟩
 ·exact ⟨_,ai e,by
   have:p∉l:=fun c=>by have:=b p c;simp at this
   simp[this]⟩
theorem ahJ (a:l.length<=1073741824):cF l p=some (decide (p∈l)):=by
 unfold cF;obtain ⟨r,e,h⟩:=ahI (l:=l) (p:=p) a;rw[dG,e,aa];congr 1;rw[Bool.eq_iff_iff,decide_eq_true_iff,decide_eq_true_iff];exact h
theorem afK {d:Pr->Bool} {f:Pr->Option Bool} (b: ∀x,f x=some (d x)) (g:l.length<=1073741824) :
  (∃(i:Nat) (hi:i<l.length),d l[i] =true/\(∀j (h:j<i),d (l[j]'(by omega))=false)/\bP l f=some (i:Int))\/((∀x,x∈l->d x=false)/\bP l f=some (-1)):=by
 unfold bP;rcases FK (f:=b7 l f) l d (fun i=>(i:Int)) (by omega) (fun i hi=>by
   unfold b7;rw[br hi,if_pos rfl,au hi];simp only[aa,dG,b,af (show i<9223372036854775807 by omega)];split <;> rfl) (by
   unfold b7;rw[bf];rfl) with ⟨i,hi,a,c,e⟩ | ⟨a,e⟩
 ·exact .inl ⟨i,hi,a,c,bg e⟩
 ·exact .inr ⟨a,ai e⟩
theorem aa9 (a b:Pr):tM a b=some (decide (ltP a b)):=by
 unfold tM ltP;by_cases h:a.1<b.1
 ·simp[h]
 ·by_cases k:a.1=b.1 <;> simp[h,k]
end
def mkB (l:List UInt8):ByteArray:=⟨l.toArray⟩
theorem adE (a b:List UInt8):mkB a++mkB b=mkB (a++b):=ByteArray.ext (by simp[mkB])
theorem bR (a:List UInt8):(mkB a).size=a.length:=by simp[mkB,ByteArray.size]
theorem ga (a:List UInt8):(mkB a).data.toList=a:=by simp[mkB]
theorem Kc (a b:List UInt8) (h:a.length+b.length<=9223372036854775807):pv (mkB a) (mkB b)=some (mkB (a++b)):=by
 unfold pv chk;rw[bR,bR,if_pos h,aa,adE]
theorem ai1: ∀d:Fin 10,IntKind.u8.wrap (i64.wrap (48+(d.val:Int)))=48+(d.val:Int):=by decide
theorem ai2 {d:Nat} (h:d<10):B2 [IntKind.u8.wrap (i64.wrap (48+(d:Int)))] =mkB [UInt8.ofNat (48+d)]:=by
 rw[ai1 ⟨d,h⟩];show ByteArray.empty.push (UInt8.ofNat (48+(d:Int)).toNat)=_;rw[show (48+(d:Int)).toNat=48+d by omega];rfl
theorem ai3 (m:Int):(if decide ((Int.tmod m 10)<0) then (some (i64.wrap (-(Int.tmod m 10)))) else (some (Int.tmod m 10)):Option Int)=some ((m.natAbs % 10:Nat):Int):=by
 by_cases h:m<0
 ·obtain ⟨k,rfl⟩: ∃k:Nat,m= -(k:Int):=⟨m.natAbs,by omega⟩;have e:Int.tmod (-(k:Int)) 10= -((k % 10:Nat):Int):=by rw[Int.neg_tmod];rfl
  rw[e,Int.natAbs_neg,Int.natAbs_natCast];by_cases a:k % 10=0
  ·rw[a];rfl
  ·rw[if_pos (decide_eq_true (by omega)),Int.neg_neg,cy (by omega) (by omega)]
 ·obtain ⟨k,rfl⟩: ∃k:Nat,m=(k:Int):=⟨m.natAbs,by omega⟩;have e:Int.tmod (k:Int) 10=((k % 10:Nat):Int):=rfl;rw[e,if_neg (by simp;omega),Int.natAbs_natCast]
theorem aiK {m:Int} (h:I64 m):Hr m 10=m.tdiv 10/\(m.tdiv 10).natAbs=m.natAbs / 10:=by
 have k:(m.tdiv 10).natAbs=m.natAbs / 10:=Int.natAbs_tdiv m 10;unfold I64 at h;refine ⟨?_,k⟩;unfold Hr;exact cy (by omega) (by omega)
theorem adF {m:Int} {out:List UInt8} (a:m≠0) (h:I64 m) (b:out.length<=1000):eI (m,mkB out)=some (.nxt (m.tdiv 10,mkB (UInt8.ofNat (48+m.natAbs % 10)::out))):=by
 unfold eI;simp only[];rw[if_pos (by simpa using a),ai3,aa,ai2 (Nat.mod_lt _ (by omega)),Kc _ _ (by simp;omega),aa,(aiK h).1];rfl
theorem aba (u:Nat):1<=Lib.nDigits u:=by
 by_cases h:u<10
 ·rw[Lib.nDigits_small h];omega
 ·rw[Lib.nDigits_big h];omega
theorem V1: ∀(k:Nat) (m:Int) (out:List UInt8),m≠0->I64 m->Lib.nDigits m.natAbs<=k->out.length+Lib.nDigits m.natAbs<=100->aj eI (k+1) (m,mkB out)=some (.brk (0,mkB (Lib.decDigits m.natAbs++out)))
 | 0,m,out,_,_,h,_=>by have:=aba m.natAbs;omega
 | k+1,m,out,h0,hm,h,hl=>by
  rw[aj,adF h0 hm (by omega)];show aj eI (k+1) (m.tdiv 10,_)=_;have a:=(aiK hm).2;by_cases b:m.natAbs<10
  ·have c:m.tdiv 10=0:=by
    have:(m.tdiv 10).natAbs=0:=by rw[a];omega
    omega
   rw[c,aj]
   have:eI (0,mkB (UInt8.ofNat (48+m.natAbs % 10)::out))=some (.brk (0,mkB (UInt8.ofNat (48+m.natAbs % 10)::out))):=rfl
   rw[this,Lib.decDigits_one b,Nat.mod_eq_of_lt b];rfl
  ·have c:m.tdiv 10≠0:=by
    intro e;rw[e] at a
    have:m.natAbs / 10=0:=by simpa using a.symm
    omega
   have f:=Lib.nDigits_big b;have d:I64 (m.tdiv 10):=by unfold I64 at hm⊢;omega
   rw[V1 k _ _ c d (by rw[a];omega) (by rw[a,aM];omega),a]
   have:Lib.decDigits m.natAbs=Lib.decDigits (m.natAbs / 10)++ [UInt8.ofNat (48+m.natAbs % 10)]:=by rw[Lib.decDigits,dif_neg b]
   rw[this,aD];rfl
theorem ye {n:Int} (h:I64 n):(Lib.itoa n).length<=21:=Lib.itoa_length_le n h.1 h.2
theorem ahK {n:Int} (h:I64 n):Lib.nDigits n.natAbs<=21:=by
 have:=ye h
 unfold Lib.itoa at this;split at this
 ·rw[aM,Lib.decDigits_length] at this;omega
 ·rw[Lib.decDigits_length] at this;rw[show n.natAbs=n.toNat by omega];exact this
theorem xi {n:Int} (h:I64 n):cz n=some (mkB (Lib.itoa n)):=by
 unfold cz;by_cases b:n=0
 ·subst b;rw[if_pos (by rfl:((0:Int)==0)=true)]
  have:Lib.itoa 0= [48]:=by unfold Lib.itoa;rw[if_neg (by decide)];exact Lib.decDigits_one (by decide)
  rw[this];rfl
 rw[if_neg (by simpa using b)];have c:=ahK h;have f:=dC 100 (by omega);obtain ⟨k,d⟩: ∃k,aP=k+1:=⟨aP - 1,by omega⟩;have e:aj eI aP (n,(⟨#[]⟩:ByteArray))=some (.brk (0,mkB (Lib.decDigits n.natAbs++ []))):=by
  rw[d];exact V1 k n [] b h (by omega) (by simp;omega)
 rw[ai e,List.append_nil];have g:(Lib.decDigits n.natAbs).length<=21:=by rw[Lib.decDigits_length];exact c
 unfold Lib.itoa;by_cases a:n<0
 ·rw[if_pos (decide_eq_true a),if_pos a];show (pv (mkB [45]) _).bind _=_;rw[Kc _ _ (by simp;omega)];rfl
 ·rw[if_neg (by simpa using a),if_neg a,show n.natAbs=n.toNat by omega]
theorem Ay {n:Int} (h:I64 n):dR n=some (mkB (Lib.itoa n)):=by
 unfold dR pB R.Y5 chk;rw[if_pos (show -9223372036854775808<=n/\n<=9223372036854775807 from h)];rfl
theorem V2 (xs:List (List UInt8)) (y sep:List UInt8):Lib.join (xs++ [y]) sep=if xs= [] then y else Lib.join xs sep++sep++y:=by
 cases xs with
 | nil=>rw[if_pos rfl];exact Lib.join_one _ _
 | cons x r =>
  rw[if_neg (by simp),List.cons_append,Lib.join_cons,Lib.join_cons];simp[Lib.joinTail,aD]
theorem FL: ∀(a:List UInt8) (acc:Nat) (b:List UInt8),Lib.decFrom acc (a++b)=(Lib.decFrom acc a).bind fun m=>Lib.decFrom m b
 | [],acc,b=>rfl
 | x::a,acc,b=>by
  rw[List.cons_append,Lib.decFrom,Lib.decFrom];cases Lib.digitVal x with
  | none=>rfl
  | some d=>exact FL a _ b
theorem V3 {d:Nat} (h:d<10):Lib.digitVal (UInt8.ofNat (48+d))=some d:=by
 have e:(UInt8.ofNat (48+d)).toNat=48+d:=by simp;omega
 unfold Lib.digitVal;rw[e,if_pos ⟨by omega,by omega⟩];congr 1;omega
theorem Dq {u:Nat} (h: ¬u<10):Lib.decDigits u=Lib.decDigits (u / 10)++ [UInt8.ofNat (48+u % 10)]:=by rw[Lib.decDigits,dif_neg h]
theorem OS (u:Nat):Lib.decFrom 0 (Lib.decDigits u)=some u:=by
 induction u using Nat.strongRecOn with
 | _ u a =>
  by_cases h:u<10
  ·rw[Lib.decDigits_one h,Lib.decFrom,V3 h];simp[Lib.decFrom]
  ·rw[Dq h,FL,a (u / 10) (by omega),aa,Lib.decFrom,V3 (Nat.mod_lt _ (by omega))];simp only[Lib.decFrom];congr 1;omega
theorem afM (u:Nat):Lib.decDigits u≠ []:=fun h=>by
 have:=Lib.decDigits_length u
 rw[h] at this
 have:=aba u
 simp at *;omega
theorem Il (u:Nat):Lib.decNat (Lib.decDigits u)=some u:=by
 unfold Lib.decNat;rw[if_neg (by simpa using afM u),OS]
theorem Qx (u:Nat): ∃d r,d<10/\Lib.decDigits u=UInt8.ofNat (48+d)::r:=by
 induction u using Nat.strongRecOn with
 | _ u b =>
  by_cases h:u<10
  ·exact ⟨u,[],h,Lib.decDigits_one h⟩
  ·obtain ⟨d,r,a,e⟩:=b (u / 10) (by omega);exact ⟨d,_,a,by rw[Dq h,e];rfl⟩
theorem OT {d:Nat} (h:d<10):(UInt8.ofNat (48+d)==45)=false/\(UInt8.ofNat (48+d)==43)=false:=by
 have: ∀d:Fin 10,(UInt8.ofNat (48+d.val)==45)=false/\(UInt8.ofNat (48+d.val)==43)=false:=by decide
 exact this ⟨d,h⟩
theorem V4 (n:Int):Lib.atoi (Lib.itoa n)=some n:=by
 unfold Lib.itoa;by_cases h:n<0
 ·rw[if_pos h];show (Lib.decNat (Lib.decDigits n.natAbs)).map (fun (m:Nat)=> -(m:Int))=_;rw[Il];simp;omega
 ·rw[if_neg h];obtain ⟨d,r,a,e⟩:=Qx n.toNat;have k:=Il n.toNat;rw[e] at k⊢;show (if (UInt8.ofNat (48+d)==45)=true then _ else if (UInt8.ofNat (48+d)==43)=true then _ else _)=_;rw[if_neg (by rw[(OT a).1];decide),if_neg (by rw[(OT a).2];decide),k];simp;omega
def dst (p:Nat×Nat) (b:UInt8):Nat×Nat:=if 48<=b.toNat/\b.toNat<=57 then (p.1*10+(b.toNat - 48),p.2+1) else p
theorem V5 {d:Nat} (h:d<10) (p:Nat×Nat):dst p (UInt8.ofNat (48+d))=(p.1*10+d,p.2+1):=by
 have e:(UInt8.ofNat (48+d)).toNat=48+d:=by simp;omega
 unfold dst;rw[e,if_pos ⟨by omega,by omega⟩,show 48+d - 48=d by omega]
theorem V6 (u:Nat):(Lib.decDigits u).foldl dst (0,0)=(u,Lib.nDigits u):=by
 induction u using Nat.strongRecOn with
 | _ u a =>
  by_cases h:u<10
  ·rw[Lib.decDigits_one h,List.foldl_cons,List.foldl_nil,V5 h,Lib.nDigits_small h];simp
  ·rw[Dq h,List.foldl_append,a (u / 10) (by omega),List.foldl_cons,List.foldl_nil,V5 (Nat.mod_lt _ (by omega)),Lib.nDigits_big h];congr 1;show u / 10*10+u % 10=u;omega
theorem Zw (n:Int):(Lib.itoa n).foldl dst (0,0)=(n.natAbs,Lib.nDigits n.natAbs):=by
 unfold Lib.itoa;split
 ·rw[List.foldl_cons,show dst (0,0) 45=(0,0) from rfl,V6]
 ·rw[V6,show n.toNat=n.natAbs by omega]
theorem abb: ∀(l:List UInt8) (p:Nat×Nat),p.1<10 ^ p.2->(l.foldl dst p).1<10 ^ (l.foldl dst p).2
 | [],p,h=>h
 | b::l,p,h=>by
  rw[List.foldl_cons];refine abb l _ ?_;unfold dst;split
  ·rename_i k;show p.1*10+(b.toNat - 48)<10 ^ (p.2+1);rw[Nat.pow_succ];omega
  ·exact h
theorem abc: ∀(l:List UInt8) (p:Nat×Nat),(l.foldl dst p).2<=p.2+l.length
 | [],p=>by simp
 | b::l,p=>by
  rw[List.foldl_cons]
  have:=abc l (dst p b)
  have h:(dst p b).2<=p.2+1:=by unfold dst;split <;> simp
  rw[aM];omega
theorem afN: ∀(k u:Nat),1<=k->u<10 ^ k->Lib.nDigits u<=k
 | 0,u,h,_=>by omega
 | k+1,u,_,h=>by
  by_cases a:u<10
  ·rw[Lib.nDigits_small a];omega
  ·rw[Lib.nDigits_big a];have b:1<=k:=by
    rcases k with _ | k
    ·omega
    ·omega
   have:=afN k (u / 10) b (by omega)
   omega
theorem u8W: ∀d:Fin 10,i64.wrap (IntKind.u8.wrap (d.val:Int))=(d.val:Int):=by decide
theorem Dr {s:ByteArray} {i:Nat} (h:i<s.size):nB s (i:Int)=some (((s.data.toList[i]'(by simp_all)).toNat:Nat):Int):=by
 simp_all[nB,chk,if_pos,aa,List.getD_eq_getElem?_getD,List.getElem?_eq_getElem]
def dtk (s:ByteArray) (i:Nat):Nat×Nat:=(s.data.toList.take i).foldl dst (0,0)
theorem V7 (s:ByteArray) (i:Nat):(dtk s i).1<10 ^ (dtk s i).2/\(dtk s i).2<=i:=by
 grind[abb,abc,aB,dtk]
theorem adG (s:ByteArray):aj (jO s) aP (0,0,0)=some (.brk (((dtk s (min s.size 11)).1:Int),((dtk s (min s.size 11)).2:Int),((min s.size 11:Nat):Int))):=by
 refine aQ (f:=jO s) (fun i=>(((dtk s i).1:Int),((dtk s i).2:Int),(i:Int))) (min s.size 11) (fun i o=>?_) ?_ (dC _ (by omega))
 ·have c:i<s.size:=by omega
  have g:i<s.data.toList.length:=by simpa using c
  have a:dtk s (i+1)=dst (dtk s i) (s.data.toList[i]):=by
   unfold dtk;rw[List.take_succ_eq_append_getElem g,List.foldl_append];rfl
  have ⟨l,m⟩:=V7 s i;have k:10 ^ (dtk s i).2<=10 ^ 10:=Nat.pow_le_pow_right (by omega) (by omega);unfold jO;simp only[];rw[if_pos (decide_eq_true (by omega)),if_pos (decide_eq_true (by omega)),Dr c,a];generalize s.data.toList[i] =b;generalize dtk s i=p at *;simp only[aa];unfold dst;by_cases h:48<=b.toNat
  ·rw[if_pos (decide_eq_true (by omega))];by_cases j:b.toNat<=57
   ·rw[if_pos (decide_eq_true (by omega)),if_pos ⟨h,j⟩];have ⟨d,a,e⟩: ∃d,d<10/\b.toNat=48+d:=⟨b.toNat - 48,by omega,by omega⟩;rw[e,show ((48+d:Nat):Int) - 48=(d:Int) by omega,u8W ⟨d,a⟩];simp only[aa];rw[cy (n:=(p.1:Int)*10) (by omega) (by omega),cy (by omega) (by omega),af (by omega),af (by omega)];congr 4;omega
   ·rw[if_neg (by grind),if_neg (by omega)];simp only[aa];rw[af (by omega)]
  ·rw[if_neg (by grind),if_neg (by omega)];simp only[aa];rw[af (by omega)]
 grind[jO]
def sgn (s:ByteArray):Int:=if s.data.toList.head? =some 45 then -((dtk s (min s.size 11)).1:Int) else ((dtk s (min s.size 11)).1:Int)
theorem abd (s:ByteArray):(sgn s).natAbs<10 ^ (dtk s (min s.size 11)).2/\(sgn s).natAbs<10 ^ 11:=by
 have ⟨c,b⟩:=V7 s (min s.size 11);have a:10 ^ (dtk s (min s.size 11)).2<=10 ^ 11:=Nat.pow_le_pow_right (by omega) (by omega);grind[sgn,dtk,min]
theorem abe (s:ByteArray):ij s=if 9<(dtk s (min s.size 11)).2\/10<s.size then some (0,false) else if mkB (Lib.itoa (sgn s))=s then some (sgn s,true) else some (0,false):=by
 have n:=(abd s).2;have h:I64 (sgn s):=by unfold I64;omega
 have ⟨j,k⟩:=V7 s (min s.size 11);have o:10 ^ (dtk s (min s.size 11)).2<=10 ^ 11:=Nat.pow_le_pow_right (by omega) (by omega);have fin: ∀z:Int,z=sgn s->(if decide (((dtk s (min s.size 11)).2:Int)>9) then (some (0,false)) else (if decide (((s.size:Nat):Int)>10) then (some (0,false)) else ((cz z).bind fun a=>if a !=s then (some (0,false)) else (some (z,true)))):Option (Int×Bool))=if 9<(dtk s (min s.size 11)).2\/10<s.size then some (0,false) else if mkB (Lib.itoa (sgn s))=s then some (sgn s,true) else some (0,false):=by
  rintro z rfl;by_cases m:9<(dtk s (min s.size 11)).2
  ·grind
  ·rw[if_neg (by grind)];by_cases l:10<s.size
   ·grind
   ·rw[if_neg (by grind),if_neg (by omega),xi h,aa];grind
 unfold ij;rw[ai (adG s)];simp only[];by_cases b:0<s.size
 ·rw[if_pos (decide_eq_true (by omega))];have d:0<s.data.toList.length:=by simpa using b
  have f:nB s 0=some (((s.data.toList[0]).toNat:Nat):Int):=Dr (i:=0) b;have p:s.data.toList.head? =some s.data.toList[0]:=by rw[List.head?_eq_getElem?,List.getElem?_eq_getElem d]
  rw[f,aa];by_cases c:s.data.toList[0] =45
  ·rw[if_pos (by simp_all),aa,cy (by omega) (by omega)];simp_all[sgn,if_pos]
  ·have g:=fun e=>c (UInt8.toNat_inj.1 e);rw[if_neg (fun e=>g (by grind)),aa];grind[sgn]
 ·simp_all[sgn,if_neg]
theorem Zx {n:Int} (h: -999999999<=n/\n<=999999999):Lib.nDigits n.natAbs<=9/\(Lib.itoa n).length<=10:=by
 have k:Lib.nDigits n.natAbs<=9:=afN 9 _ (by omega) (by omega);grind[Lib.itoa,aM,Lib.decDigits_length]
theorem V8 (n:Int):((Lib.itoa n).head? =some 45)↔n<0:=by
 unfold Lib.itoa;split
 ·grind
 ·have ⟨d,r,a,e⟩:=Qx n.toNat;grind[OT,List.head?_cons,Option.some.injEq]
theorem Qy {n:Int} (h: -999999999<=n/\n<=999999999):ij (mkB (Lib.itoa n))=some (n,true)/\ir (mkB (Lib.itoa n))=some (n,true):=by
 have ⟨e,a⟩:=Zx h;constructor
 ·have b:dtk (mkB (Lib.itoa n)) (min (mkB (Lib.itoa n)).size 11)=(n.natAbs,Lib.nDigits n.natAbs):=by
   unfold dtk;grind[ga,bR,Nat.min_eq_left,List.take_length,Zw]
  have d:sgn (mkB (Lib.itoa n))=n:=by
   unfold sgn;rw[b,ga];by_cases c:n<0
   ·rw[if_pos ((V8 n).2 c)];omega
   ·rw[if_neg fun k=>c ((V8 n).1 k)];omega
  simp_all[abe,bR,if_neg,if_pos]
 ·unfold ir R.vt;rw[bR,ga,if_neg (by omega),V4];show (if _ then _ else _)=_;rw[if_pos ⟨rfl,h.1,h.2⟩]
theorem Zy {s:ByteArray} (h: ¬ ∃n:Int,(-999999999<=n/\n<=999999999)/\s=mkB (Lib.itoa n)):ij s=some (0,false)/\ir s=some (0,false):=by
 constructor
 ·rw[abe];by_cases c:9<(dtk s (min s.size 11)).2\/10<s.size
  ·grind
  ·have b:=(abd s).1;have a:10 ^ (dtk s (min s.size 11)).2<=10 ^ 9:=Nat.pow_le_pow_right (by omega) (by omega);grind
 ·unfold ir R.vt;by_cases c:10<s.size
  ·grind
  ·rw[if_neg c];cases d:Lib.atoi s.data.toList with
   | none=>rfl
   | some n =>
    show (if _ then _ else _)=_;rw[if_neg fun k=>h ⟨n,k.2,k.1.symm⟩]
theorem ub (s:ByteArray): ∃r:Int×Bool,ij s=some r/\ir s=some r/\((r.2=true/\(-999999999<=r.1/\r.1<=999999999)/\s=mkB (Lib.itoa r.1))\/r=(0,false)):=by
 grind[mkB,Lib.itoa,Qy,Zy]
abbrev AutT:=Int×(List Bool)×(List (List Int))
structure VA (a:AutT) (n:Nat):Prop where
 len:a.2.1.length=n
 start:0<=a.1/\a.1<n
 nlen:a.2.2.length=n
 row: ∀r∈a.2.2,r.length=9
 ent: ∀r∈a.2.2,∀t∈r,-1<=t/\t<n
def mv (a:AutT) (s:Int) (k:Nat):Int:=nth (nth a.2.2 s) k
theorem Na (x l h:Int):cn x l h=some (decide (l<=x/\x<=h)):=by
 unfold cn;by_cases c:l<=x
 ·simp[c]
 ·have: ¬l<=x/\True:=⟨c,trivial⟩
  simp[c]
theorem Hn (x l h:Int):bN x l h=some (decide (l<=x/\x<=h)):=by
 unfold bN;by_cases c:l<=x
 ·simp[c]
 ·simp[c]
theorem scan {α R:Type} [Inhabited α] {f:Int->Option (Out R Int)} (xs:List α) (p:α->Prop) [DecidablePred p] (r:R) (m:xs.length<=9223372036854775807)
  (h: ∀i:Nat,i<xs.length->f (i:Int)=some (if p (nth xs i) then .nxt ((i+1:Nat):Int) else .ret r)) (k:f (xs.length:Int)=some (.brk (xs.length:Int))) :
  (aj f aP 0=some (.brk (xs.length:Int))/\ ∀x∈xs,p x)\/(aj f aP 0=some (.ret r)/\ ¬ ∀x∈xs,p x):=by
 obtain ⟨o,e,a⟩:=cq (f:=f) (fun i s=>s=(i:Int)/\ ∀j:Nat,j<i->p (nth xs j)) (fun o=>(o= .brk (xs.length:Int)/\ ∀x∈xs,p x)\/(o= .ret r/\ ¬ ∀x∈xs,p x)) xs.length (s:=0) (by
  rintro i s n ⟨rfl,hp⟩;by_cases b:i<xs.length
  ·by_cases c:p (nth xs i)
   ·refine .inl ⟨b,_,by rw[h i b,if_pos c],rfl,fun j g=>?_⟩;by_cases e:j=i
    ·subst e;exact c
    ·exact hp j (by omega)
   ·refine .inr ⟨_,by rw[h i b,if_neg c],(fun l e=>by cases e),.inr ⟨rfl,fun d=>c (d _ (bm (by omega) (by omega)))⟩⟩
  ·obtain rfl:i=xs.length:=by omega
   refine .inr ⟨_,k,(fun l e=>by cases e),.inl ⟨rfl,fun x d=>?_⟩⟩;obtain ⟨j,g,rfl⟩:=FH d;exact hp j g) ⟨rfl,by omega⟩ (pw m)
 rcases a with ⟨rfl,a⟩ | ⟨rfl,a⟩
 ·exact .inl ⟨e,a⟩
 ·exact .inr ⟨e,a⟩
section
variable {a:AutT} {n:Nat} (V:VA a n)
include V
theorem VA.pos:0<n:=by have:=V.start;omega
theorem VA.rowAt {s:Int} (b:0<=s) (h1:s<n):(nth a.2.2 s).length=9:=V.row _ (bm b (by rw[V.nlen];exact h1))
theorem VA.mv {s:Int} {k:Nat} (b:0<=s) (h1:s<n) (c:k<9): -1<=mv a s k/\mv a s k<n:=
 V.ent _ (bm b (by rw[V.nlen];exact h1)) _ (bm (by omega) (by rw[V.rowAt b h1];omega))
theorem VA.get {s:Int} (b:0<=s) (h1:s<n):aK a.2.2 s=some (nth a.2.2 s):=aq b (by rw[V.nlen];exact h1)
theorem VA.get2 {s:Int} {k:Nat} (b:0<=s) (h1:s<n) (c:k<9):aK (nth a.2.2 s) (k:Int)=some (D.mv a s k):=aq (by omega) (by rw[V.rowAt b h1];omega)
theorem VA.acc {s:Int} (b:0<=s) (h1:s<n):aK a.2.1 s=some (nth a.2.1 s):=aq b (by rw[V.len];exact h1)
theorem Qz {s:Int} {k:Nat} (b:0<=s) (h1:s<n) (c:k<9):bX a s (k:Int)=some (mv a s k):=by
 unfold bX mc;rw[if_neg (by simp;omega),Hn];simp only[aa];rw[if_pos (by simp;omega),V.get b h1];simp only[aa];rw[V.get2 b h1 c];rfl
end
theorem Ke (s:ByteArray):il s=me s:=by
 have e:gP s=qO s:=by
  funext p;unfold gP qO;rw[Int.mul_comm p.1 257]
 unfold il me;rw[e]
theorem MC (s:ByteArray) (h:s.size<=9223372036854775806): ∃r:Int,il s=some r/\me s=some r/\0<=r/\r<=9972:=by
 obtain ⟨p,e,a,g,d⟩:=kd (f:=gP s) (fun i p=>p.2=(i:Int)/\0<=p.1/\p.1<=9972) s.size (fun i p l c=>by
  obtain ⟨n,j⟩:=p;obtain ⟨a,g,d⟩:=c;simp only at a g d;subst a;unfold gP;simp only[];rw[if_pos (decide_eq_true (by omega)),Dr l];simp only[aa];generalize s.data.toList[i] =b;have m:b.toNat<256:=b.toNat_lt;rw[cy (n:=((b.toNat:Nat):Int)) (by omega) (by omega),cy (n:=n*257) (by omega) (by omega),cy (n:=n*257+(b.toNat:Int)) (by omega) (by omega),cy (n:=n*257+(b.toNat:Int)+1) (by omega) (by omega),af (by omega)];refine ⟨_,rfl,rfl,?_,?_⟩
  ·exact Int.tmod_nonneg _ (by omega)
  ·have:Int.tmod (n*257+(b.toNat:Int)+1) 9973<9973:=Int.tmod_lt_of_pos _ (by decide)
   show Int.tmod (n*257+(b.toNat:Int)+1) 9973<=9972;omega) (fun p c=>by
  obtain ⟨n,j⟩:=p;obtain ⟨a,-⟩:=c;simp only at a;subst a;unfold gP;simp only[];rw[if_neg (by simp)]) (s:=(1,0)) ⟨rfl,by decide,by decide⟩ (dC _ (by omega))
 have k:il s=some p.1:=by
  unfold il;rw[ai e]
 exact ⟨p.1,k,by rw[<-Ke];exact k,g,d⟩
def edOk (e:Int×Int×Int×Int):Prop:=(1<=e.1/\e.1<=99)/\(0<=e.2.1/\e.2.1<=4)/\(0<=e.2.2.1/\e.2.2.1<=4)/\(0<=e.2.2.2/\e.2.2.2<=2)
instance (e:Int×Int×Int×Int):Decidable (edOk e):=inferInstanceAs (Decidable (_/\_))
def wv (e:Int×Int×Int×Int):List UInt8:=Lib.itoa e.1++ [58] ++Lib.itoa e.2.1++ [UInt8.ofNat (97+e.2.2.2.toNat)] ++Lib.itoa e.2.2.1
theorem Zz: ∀k:Fin 3,iX (i64.wrap (2*(k.val:Int)))=some (mkB [UInt8.ofNat (97+k.val)]):=by
 intro k
 match k with
 | ⟨0,_⟩=>rfl
 | ⟨1,_⟩=>rfl
 | ⟨2,_⟩=>rfl
theorem ZA: ∀k:Fin 3,vn (⟨#[97,98,99]⟩) (k.val:Int) (i64.wrap ((k.val:Int)+1))=some (mkB [UInt8.ofNat (97+k.val)]):=by
 intro k
 match k with
 | ⟨0,_⟩=>rfl
 | ⟨1,_⟩=>rfl
 | ⟨2,_⟩=>rfl
theorem V9 (e:Int×Int×Int×Int):kU e=some (if edOk e then mkB (wv e) else mkB []):=by
 unfold kU;rw[Na,Na,Na,Na];simp only[aa];by_cases h:edOk e
 ·obtain ⟨g,o,i,f⟩:=h;rw[if_pos (decide_eq_true g),if_pos (decide_eq_true o),if_pos (decide_eq_true i),if_pos (decide_eq_true f),if_pos ⟨g,o,i,f⟩];have m:I64 e.1:=by unfold I64;omega
  have l:I64 e.2.1:=by unfold I64;omega
  have j:I64 e.2.2.1:=by unfold I64;omega
  have t:=ye m;have s:=ye l;have r:=ye j;obtain ⟨k,q,n⟩: ∃k:Nat,k<3/\e.2.2.2=(k:Int):=⟨e.2.2.2.toNat,by omega,by omega⟩;rw[xi m,xi l,xi j,n,Zz ⟨k,q⟩];simp only[aa];have p:pv (mkB (Lib.itoa e.1)) (⟨#[58]⟩)=some (mkB (Lib.itoa e.1++ [58])):=Kc _ [58] (by simp;omega);rw[p];simp only[aa];rw[Kc _ _ (by simp;omega)];simp only[aa];rw[Kc _ _ (by simp;omega)];simp only[aa];rw[Kc _ _ (by simp;omega)];simp only[aa];unfold wv;rw[n];rfl
 ·rw[if_neg h];split
  ·split
   ·split
    ·split
     ·rename_i a b c d;exact absurd ⟨of_decide_eq_true a,of_decide_eq_true b,of_decide_eq_true c,of_decide_eq_true d⟩ h
     ·rfl
    ·rfl
   ·rfl
  ·rfl
theorem Wa (e:Int×Int×Int×Int):k7 e=some (if edOk e then mkB (wv e) else mkB []):=by
 have o:i64.wrap (5 - 1)=4:=by decide
 have d:mb (e.1,e.2.1,e.2.2.1,e.2.2.2) 5=some (decide (edOk e)):=by
  unfold mb;rw[o,Hn,Hn,Hn,Hn];simp only[aa];by_cases a:1<=e.1/\e.1<=99
  ·rw[if_pos (decide_eq_true a)];by_cases c:0<=e.2.1/\e.2.1<=4
   ·rw[if_pos (decide_eq_true c)];by_cases b:0<=e.2.2.1/\e.2.2.1<=4
    ·rw[if_pos (decide_eq_true b)];congr 1;exact decide_eq_decide.2 ⟨fun f=>⟨a,c,b,f⟩,fun h=>h.2.2.2⟩
    ·rw[if_neg (by simpa using b),decide_eq_false (fun h:edOk e=>b h.2.2.1)]
   ·rw[if_neg (by simpa using c),decide_eq_false (fun h:edOk e=>c h.2.1)]
  ·rw[if_neg (by simpa using a),decide_eq_false (fun h:edOk e=>a h.1)]
 unfold k7;rw[d];simp only[aa];by_cases h:edOk e
 ·rw[if_pos (decide_eq_true h),if_pos h];obtain ⟨a,c,b,f⟩:=h;have j:I64 e.1:=by unfold I64;omega
  have i:I64 e.2.1:=by unfold I64;omega
  have g:I64 e.2.2.1:=by unfold I64;omega
  have r:=ye j;have q:=ye i;have p:=ye g;obtain ⟨k,n,l⟩: ∃k:Nat,k<3/\e.2.2.2=(k:Int):=⟨e.2.2.2.toNat,by omega,by omega⟩;rw[Ay j,Ay i,Ay g,l,ZA ⟨k,n⟩];simp only[aa];have m:pv (mkB (Lib.itoa e.1)) (⟨#[58]⟩)=some (mkB (Lib.itoa e.1++ [58])):=Kc _ [58] (by simp;omega);rw[m];simp only[aa];rw[Kc _ _ (by simp;omega)];simp only[aa];rw[Kc _ _ (by simp;omega)];simp only[aa];rw[Kc _ _ (by simp;omega)];simp only[aa];unfold wv;rw[l];rfl
 ·rw[if_neg (by simpa using h),if_neg h];rfl
abbrev ChT:Type:=Bool×Int×Int×Int×Int
def xt (c:ChT):List UInt8:=(if c.1 then 43 else 45)::wv c.2
def btx (l:List ChT):List UInt8:=Lib.join (l.map xt) [32]
def Ds (l:List ChT):Prop:= ∀c,c∈l->edOk c.2
theorem Az {e:Int×Int×Int×Int} (h:edOk e):(wv e).length<=70:=by
 have ⟨b,d,c,a⟩:=h;grind[ye,I64,wv,aF,aM,aZ]
theorem Wb (e:Int×Int×Int×Int):(mkB (wv e)==(⟨#[]⟩:ByteArray))=false:=by
 rw[beq_eq_false_iff_ne];intro k
 have:=congrArg ByteArray.size k
 rw[bR] at this;unfold wv at this;simp[aF,aM,aZ] at this;have a:(⟨#[]⟩:ByteArray).size=0:=rfl;omega
theorem Wc: ∀(r:List ChT),Ds r->(Lib.joinTail [32] (r.map xt)).length<=72*r.length
 | [],_=>by simp[Lib.joinTail]
 | c::r,h=>by
  have b:=Wc r fun q a=>h q (bp _ a);have d:=Az (h c (by simp));grind[Lib.joinTail,xt,aF,aM,aZ]
theorem Kf {l:List ChT} (h:Ds l):(btx l).length<=72*l.length:=by
 cases l with
 | nil=>simp[btx,Lib.join_nil]
 | cons c r =>
  have b:=Wc r fun q a=>h q (bp _ a);have d:=Az (h c (by simp));unfold btx;rw[List.map_cons,Lib.join_cons,aF,aM]
  have:(xt c).length=(wv c.2).length+1:=by unfold xt;rw[aM]
  omega
theorem ZB {l:List ChT} {i:Nat} (hi:i<l.length):btx (l.take (i+1))=if i=0 then xt l[i] else btx (l.take i)++ [32] ++xt l[i]:=by
 unfold btx;rw[List.take_succ_eq_append_getElem hi,aU,List.map_cons,List.map_nil,V2];by_cases h:i=0
 ·grind
 ·rw[if_neg (by
   intro e;simp_all),if_neg h]
theorem MF {l:List ChT} {i:Nat} (hi:i<l.length) (h:Ds (l.take i)) (k:edOk l[i].2):Ds (l.take (i+1)):=by
 rw[List.take_succ_eq_append_getElem hi];intro c a;rcases aN a with a | a
 ·exact h c a
 grind
theorem adH {l:List ChT} (p:l.length<=6):(Ds l/\aj (fP l) aP (([] :List ByteArray),0)=some (.brk (l.map (fun c=>mkB (xt c)),(l.length:Int))))\/(¬Ds l/\aj (fP l) aP (([] :List ByteArray),0)=some (.ret (mkB []))):=by
 have ⟨o,e,r⟩:=cq (f:=fP l) (fun i s=>s=((l.take i).map (fun c=>mkB (xt c)),(i:Int))/\Ds (l.take i)) (fun o=>(Ds l/\o= .brk (l.map (fun c=>mkB (xt c)),(l.length:Int)))\/(¬Ds l/\o= .ret (mkB []))) l.length (fun i s w n=>by
  obtain ⟨rfl,g⟩:=n;unfold fP;by_cases a:i<l.length
  ·rw[br a,if_pos rfl,au a];simp only[aa];rw[Wa];simp only[aa];by_cases k:edOk l[i].2
   ·have v:=Az k;have m:pv (⟨#[43]⟩) (mkB (wv l[i].2))=some (mkB (43::wv l[i].2)):=Kc [43] _ (by grind);have j:pv (⟨#[45]⟩) (mkB (wv l[i].2))=some (mkB (45::wv l[i].2)):=Kc [45] _ (by grind);have b: ∀z:ByteArray,cr 16 ((l.take i).map (fun c=>mkB (xt c))) [z] =some ((l.take i).map (fun c=>mkB (xt c))++ [z]):=fun z=>aI (by grind);refine .inl ⟨a,((l.take (i+1)).map (fun c=>mkB (xt c)),((i+1:Nat):Int)),?_,rfl,MF a g k⟩;rw[if_pos k,if_neg (by rw[Wb];decide),m,j];simp only[aa];rw[b,b,List.take_succ_eq_append_getElem a,aU,List.map_cons,List.map_nil,<-af (show i<9223372036854775807 by omega)];have d:xt l[i] =(if l[i].1=true then 43 else 45)::wv l[i].2:=rfl;rw[d];generalize l[i].1=t;cases t <;> rfl
   ·refine .inr ⟨.ret (mkB []),?_,fun u h=>(by grind),.inr ⟨fun h=>k (h _ (List.getElem_mem a)),rfl⟩⟩;rw[if_neg k];rfl
  ·obtain rfl:i=l.length:=by omega
   grind) (s:=([],0)) ⟨rfl,fun c q=>by grind⟩ (dC _ (by omega))
 grind
theorem adI {l:List ChT} (E:l.length<=6):(Ds l/\aj (fK l) aP ((⟨#[]⟩:ByteArray),0)=some (.brk (mkB (btx l),(l.length:Int))))\/(¬Ds l/\aj (fK l) aP ((⟨#[]⟩:ByteArray),0)=some (.ret (mkB []))):=by
 have ⟨o,e,G⟩:=cq (f:=fK l) (fun i s=>s=(mkB (btx (l.take i)),(i:Int))/\Ds (l.take i)) (fun o=>(Ds l/\o= .brk (mkB (btx l),(l.length:Int)))\/(¬Ds l/\o= .ret (mkB []))) l.length (fun i s J D=>by
  obtain ⟨rfl,w⟩:=D;have B:=Kf w;rw[aB] at B;unfold fK;by_cases d:i<l.length
  ·rw[br d,if_pos rfl,au d];simp only[aa];rw[V9];simp only[aa];by_cases k:edOk l[i].2
   ·have I:=Az k;refine .inl ⟨d,(mkB (btx (l.take (i+1))),((i+1:Nat):Int)),?_,rfl,MF d w k⟩;rw[if_pos k,if_neg (by rw[Wb];decide),ZB d,<-af (show i<9223372036854775807 by omega)];have z:xt l[i] =(if l[i].1=true then 43 else 45)::wv l[i].2:=rfl;rw[z];generalize l[i].1=t;have g: ∀(a:List UInt8) (b:UInt8),a.length<=1000->pv (mkB a) (mkB [b])=some (mkB (a++ [b])):=fun a b A=>Kc _ _ (by grind);have j: ∀(a:List UInt8) (b:UInt8),a.length<=1000->pv (mkB (a++ [b])) (mkB (wv l[i].2))=some (mkB (a++b::wv l[i].2)):=fun a b A=>by
     grind[Kc,aD]
    by_cases v:i=0
    ·subst v;have x:btx (l.take 0)= []:=rfl;have q:=g [] 43 (by simp);have n:=g [] 45 (by simp);have p:=j [] 43 (by simp);have m:=j [] 45 (by simp);have u:(⟨#[43]⟩:ByteArray)=mkB [43]:=rfl;have r:(⟨#[45]⟩:ByteArray)=mkB [45]:=rfl;rw[x,if_pos rfl,if_neg (by simp)];simp[aa];rw[u,r,q,n];simp only[aa];rw[p,m];cases t <;> rfl
    ·have C:=g (btx (l.take i)) 32 (by omega);have q:=g (btx (l.take i)++ [32]) 43 (by grind);have n:=g (btx (l.take i)++ [32]) 45 (by grind);have p:=j (btx (l.take i)++ [32]) 43 (by grind);have m:=j (btx (l.take i)++ [32]) 45 (by grind);have u:(⟨#[43]⟩:ByteArray)=mkB [43]:=rfl;have r:(⟨#[45]⟩:ByteArray)=mkB [45]:=rfl;have y:(⟨#[32]⟩:ByteArray)=mkB [32]:=rfl;rw[if_neg v,if_pos (decide_eq_true (by omega)),u,r,y,C];simp only[aa];rw[q,n];simp only[aa];rw[p,m];cases t <;> rfl
   ·refine .inr ⟨.ret (mkB []),?_,fun H h=>(by grind),.inr ⟨fun h=>k (h _ (List.getElem_mem d)),rfl⟩⟩;rw[if_neg k];rfl
  ·obtain rfl:i=l.length:=by omega
   grind) (s:=((⟨#[]⟩:ByteArray),0)) ⟨rfl,fun c F=>by grind⟩ (dC _ (by omega))
 grind
open Classical in
theorem xj (l:List ChT):dx l=some (if l.length<=6/\Ds l then mkB (btx l) else mkB [])/\fa l=some (if l.length<=6/\Ds l then mkB (btx l) else mkB []):=by
 unfold dx fa;by_cases a:l.length<=6
 ·have b: ¬decide ((l.length:Int)>6)=true:=by rw[decide_eq_true_eq];omega
  constructor
  ·rw[if_neg b];rcases adI a with ⟨h,e⟩ | ⟨h,e⟩
   ·rw[ai e,if_pos ⟨a,h⟩]
   ·rw[bg e,if_neg fun k=>h k.2]
  ·rw[if_neg b];rcases adH a with ⟨h,e⟩ | ⟨h,e⟩
   ·have c:=Kf h;rw[ai e,if_pos ⟨a,h⟩];show (lG (l.map fun p=>mkB (xt p)) (mkB [32])).bind _=_;unfold lG R.Y4 chk;have e:(l.map fun p=>mkB (xt p)).map (·.data.toList)=l.map xt:=by
     rw[List.map_map];exact List.map_congr_left fun p _=>ga _
    rw[e,ga,List.length_map,if_pos ⟨by omega,by show (btx l).length<=_;omega⟩];rfl
   ·rw[bg e,if_neg fun k=>h k.2]
 ·have b:decide ((l.length:Int)>6)=true:=decide_eq_true (by omega);constructor
  ·rw[if_pos b,if_neg fun k=>a k.1];rfl
  ·rw[if_pos b,if_neg fun k=>a k.1];rfl
end D
end Go.Proofs.YteapgmibbpckoaaGreatDoor
