/- FnEngineSteps: for every input the law returns true and changes nothing that was there. Part 7 of 9. -/
import Derived.Test.YtodbpnpbhpeepaaGreatDoorSC5
set_option synthInstance.maxSize 20000
set_option synthInstance.maxHeartbeats 2000000
set_option linter.unusedVariables false
set_option linter.unusedSimpArgs false
set_option linter.unnecessarySimpa false
set_option linter.unusedSectionVars false
set_option maxRecDepth 1000000
namespace Go.Proofs.YtodbpnpbhpeepaaGreatDoor
open Go.IntKind (i64)
namespace R
open Go.RowKit
open D
abbrev y3:Ty:=.int .i64
abbrev Ah:Ty:=.prod y3 (.prod y3 (.prod y3 y3))
abbrev t302:Ty:=.tree 337 302 Ah
abbrev C3:Ty:=.prod y3 (.prod y3 (.prod y3 y3))
abbrev y58:Ty:=.sl 172 Ah
abbrev y60:Ty:=.wr y58
abbrev vk:Ty:=.prod y3 (.prod y60 y3)
abbrev y4:Ty:=.bool
abbrev Tk:Ty:=.sl 4 y4
abbrev y70:Ty:=.sl 3 y3
abbrev ZS:Ty:=.sl 70 y70
abbrev kJ:Ty:=.prod y3 (.prod Tk ZS)
abbrev y5:Ty:=.int .u8
abbrev y22:Ty:=.sl 5 y5
abbrev adh:Ty:=.prod y22 (.prod y3 y3)
abbrev PF:Ty:=.prod y3 y3
abbrev Nh:Ty:=.sl 385 PF
abbrev abY:Ty:=.prod Nh Nh
abbrev abj:Ty:=.prod y3 (.prod y4 abY)
abbrev abk:Ty:=.prod y4 C3
abbrev y9:Ty:=.str
abbrev abl:Ty:=.sl 9 y9
abbrev ZT:Ty:=.int .u64
abbrev y71:Ty:=.sl 124 C3
abbrev y73:Ty:=.prod y70 y71
abbrev y24:Ty:=.sl 73 y73
abbrev K9:Ty:=.prod y70 (.prod y3 (.prod y3 (.prod y70 y4)))
abbrev y26:Ty:=.prod y3 y24
abbrev y27:Ty:=.sl 141 kJ
abbrev y28:Ty:=.sl 126 vk
abbrev acS:Ty:=.prod y4 (.prod y3 y3)
abbrev y30:Ty:=.prod y27 y28
abbrev acT:Ty:=.prod y3 (.prod y3 y4)
abbrev abZ:Ty:=.fro t302
abbrev y93:Ty:=.prod y3 (.prod y3 y3)
abbrev y31:Ty:=.sl 93 y93
abbrev y33:Ty:=.prod y26 (.prod y30 (.prod y31 y9))
abbrev abm:Ty:=.sl 302 abZ
abbrev adi:Ty:=.prod Ah abm
abbrev ZU:Ty:=.int .u64
abbrev ZV:Ty:=.int .u32
abbrev YO:Ty:=.prod y3 y4
abbrev ZW:Ty:=.prod YO (.prod y3 y3)
abbrev acU:Ty:=.sl 421 ZW
abbrev acV:Ty:=.sl 419 YO
abbrev y82:Ty:=.sl 191 abk
abbrev y84:Ty:=.wr y82
abbrev y87:Ty:=.sl 84 y84
theorem ti3:TI Tryz.prog 3 false 1:=⟨⟨_,Tryz.underlying3,rfl⟩,by kernel_rfl⟩
theorem ZX (e:Int) (h:Int) (b:Int) (g:Int) (d:Int) (a:Int) (f:Int) (c:Int) (w:World):EqT Tryz.prog 124 (.agg #[.int .i64 e,.int .i64 h,.int .i64 b,.int .i64 g]) (.agg #[.int .i64 d,.int .i64 a,.int .i64 f,.int .i64 c]) ((e==d)&&((h==a)&&((b==f)&&((g==c)&&true)))) w:=J5 w Tryz.underlying124 (by kernel_rfl) (by kernel_rfl) (j9 rfl (iy ti3 rfl) (iy ti3 rfl) (run_equalIn_int w 9998 3 _ _ _ _ Tryz.underlying3) (j9 rfl (iy ti3 rfl) (iy ti3 rfl) (run_equalIn_int w 9998 3 _ _ _ _ Tryz.underlying3) (j9 rfl (iy ti3 rfl) (iy ti3 rfl) (run_equalIn_int w 9998 3 _ _ _ _ Tryz.underlying3) (j9 rfl (iy ti3 rfl) (iy ti3 rfl) (run_equalIn_int w 9998 3 _ _ _ _ Tryz.underlying3) (EC w)))))
theorem ZY (e:Int) (h:Int) (b:Int) (g:Int) (d:Int) (a:Int) (f:Int) (c:Int) (w:World):EqT Tryz.prog 172 (.agg #[.int .i64 e,.int .i64 h,.int .i64 b,.int .i64 g]) (.agg #[.int .i64 d,.int .i64 a,.int .i64 f,.int .i64 c]) ((e==d)&&((h==a)&&((b==f)&&((g==c)&&true)))) w:=J5 w Tryz.underlying172 (by kernel_rfl) (by kernel_rfl) (j9 rfl (iy ti3 rfl) (iy ti3 rfl) (run_equalIn_int w 9998 3 _ _ _ _ Tryz.underlying3) (j9 rfl (iy ti3 rfl) (iy ti3 rfl) (run_equalIn_int w 9998 3 _ _ _ _ Tryz.underlying3) (j9 rfl (iy ti3 rfl) (iy ti3 rfl) (run_equalIn_int w 9998 3 _ _ _ _ Tryz.underlying3) (j9 rfl (iy ti3 rfl) (iy ti3 rfl) (run_equalIn_int w 9998 3 _ _ _ _ Tryz.underlying3) (EC w)))))
theorem ZZ (c:Int) (d:Int) (b:Int) (a:Int) (w:World):EqT Tryz.prog 385 (.agg #[.int .i64 c,.int .i64 d]) (.agg #[.int .i64 b,.int .i64 a]) ((c==b)&&((d==a)&&true)) w:=J5 w Tryz.underlying385 (by kernel_rfl) (by kernel_rfl) (j9 rfl (iy ti3 rfl) (iy ti3 rfl) (run_equalIn_int w 9998 3 _ _ _ _ Tryz.underlying3) (j9 rfl (iy ti3 rfl) (iy ti3 rfl) (run_equalIn_int w 9998 3 _ _ _ _ Tryz.underlying3) (EC w)))
theorem ab0 (d:Int) (f:Int) (b:Int) (c:Int) (a:Int) (e:Int) (w:World):EqT Tryz.prog 93 (.agg #[.int .i64 d,.int .i64 f,.int .i64 b]) (.agg #[.int .i64 c,.int .i64 a,.int .i64 e]) ((d==c)&&((f==a)&&((b==e)&&true))) w:=J5 w Tryz.underlying93 (by kernel_rfl) (by kernel_rfl) (j9 rfl (iy ti3 rfl) (iy ti3 rfl) (run_equalIn_int w 9998 3 _ _ _ _ Tryz.underlying3) (j9 rfl (iy ti3 rfl) (iy ti3 rfl) (run_equalIn_int w 9998 3 _ _ _ _ Tryz.underlying3) (j9 rfl (iy ti3 rfl) (iy ti3 rfl) (run_equalIn_int w 9998 3 _ _ _ _ Tryz.underlying3) (EC w))))
theorem mz3 (w:World):(zeroValue 3).run Tryz.prog w= .ok (.int .i64 0) w:=by kernel_rfl
theorem kk3:KeyOk Tryz.prog 3 (fun n:Int=>Value.int .i64 n) Wg iOk:=Y5 Tryz.underlying3
theorem ek3:EltOk Tryz.prog 3 (fun n:Int=>Value.int .i64 n) Wg iOk 0:=Y6 Tryz.underlying3 mz3
def tt:TT:=[(3,⟨false,1,none,y3,[],some 8,none,false,none,none,some (some .i64),false,none⟩),
 (4,⟨false,1,none,y4,[],some 1,none,true,none,none,none,false,none⟩),
 (5,⟨false,1,none,y5,[],some 1,none,false,none,none,some (some .u8),false,none⟩),
 (9,⟨false,1,none,y9,[],some 16,none,false,none,none,some none,false,none⟩),
 (22,⟨false,1,some 5,y22,[],some 24,none,false,none,none,none,false,none⟩),
 (24,⟨false,1,some 73,y24,[],some 24,none,false,none,none,none,false,none⟩),
 (26,⟨true,2,none,y26,[(0,0),(1,0)],some 32,some [(0,1),(1,1)],false,none,none,none,false,none⟩),
 (27,⟨false,1,some 141,y27,[],some 24,none,false,none,none,none,false,none⟩),
 (28,⟨false,1,some 126,y28,[],some 24,none,false,none,none,none,false,none⟩),
 (30,⟨true,2,none,y30,[(0,0),(1,0)],some 48,some [(0,1),(1,1)],false,none,none,none,false,none⟩),
 (31,⟨false,1,some 93,y31,[],some 24,none,false,none,none,none,false,none⟩),
 (33,⟨true,6,none,y33,[(0,1),(2,1),(4,0),(5,0)],some 120,some [(0,2),(2,2),(4,1),(5,1)],false,none,none,none,false,none⟩),
 (58,⟨false,1,some 172,y58,[],some 24,none,false,none,none,none,false,none⟩),
 (60,⟨true,1,none,y60,[(0,0)],some 24,some [(0,1)],false,none,none,none,false,none⟩),
 (70,⟨false,1,some 3,y70,[],some 24,none,false,none,none,none,false,none⟩),
 (71,⟨false,1,some 124,y71,[],some 24,none,false,none,none,none,false,none⟩),
 (73,⟨true,2,none,y73,[(0,0),(1,0)],some 48,some [(0,1),(1,1)],false,none,none,none,false,none⟩),
 (82,⟨false,1,some 191,y82,[],some 24,none,false,none,none,none,false,none⟩),
 (84,⟨true,1,none,y84,[(0,0)],some 24,some [(0,1)],false,none,none,none,false,none⟩),
 (87,⟨false,1,some 84,y87,[],some 24,none,false,none,none,none,false,none⟩),
 (93,⟨true,3,none,y93,[(0,0),(1,0),(2,0)],some 24,some [(0,1),(1,1),(2,1)],false,some [some .i64,some .i64,some .i64],none,none,false,none⟩),
 (99,⟨false,1,none,.bool,[],none,none,false,none,none,none,true,none⟩),
 (119,⟨false,1,none,.bool,[],none,none,false,none,none,none,true,none⟩),
 (124,⟨true,4,none,C3,[(0,0),(1,0),(2,0),(3,0)],some 32,some [(0,1),(1,1),(2,1),(3,1)],false,some [some .i64,some .i64,some .i64,some .i64],none,none,false,none⟩),
 (126,⟨true,3,none,vk,[(0,0),(1,0),(2,0)],some 40,some [(0,1),(1,1),(2,1)],false,none,none,none,false,none⟩),
 (138,⟨false,1,some 4,Tk,[],some 24,none,false,none,none,none,false,none⟩),
 (139,⟨false,1,some 70,ZS,[],some 24,none,false,none,none,none,false,none⟩),
 (141,⟨true,3,none,kJ,[(0,0),(1,0),(2,0)],some 56,some [(0,1),(1,1),(2,1)],false,none,none,none,false,none⟩),
 (142,⟨false,1,none,.bool,[],none,none,false,none,none,none,true,none⟩),
 (144,⟨false,1,none,.bool,[],none,none,false,none,none,none,true,none⟩),
 (150,⟨false,1,none,.bool,[],none,none,false,none,none,none,true,none⟩),
 (152,⟨false,1,none,.bool,[],none,none,false,none,none,none,true,none⟩),
 (167,⟨true,3,none,adh,[(0,0),(1,0),(2,0)],some 40,some [(0,1),(1,1),(2,1)],false,none,none,none,false,none⟩),
 (172,⟨true,4,none,Ah,[(0,0),(1,0),(2,0),(3,0)],some 32,some [(0,1),(1,1),(2,1),(3,1)],false,some [some .i64,some .i64,some .i64,some .i64],none,none,false,none⟩),
 (181,⟨false,1,some 385,Nh,[],some 24,none,false,none,none,none,false,none⟩),
 (183,⟨true,2,none,abY,[(0,0),(1,0)],some 48,some [(0,1),(1,1)],false,none,none,none,false,none⟩),
 (185,⟨true,4,none,abj,[(0,0),(1,0),(2,1)],some 64,some [(0,1),(1,1),(2,2)],false,none,none,none,false,none⟩),
 (191,⟨true,5,none,abk,[(0,0),(1,3)],some 40,some [(0,1),(1,4)],false,none,none,none,false,none⟩),
 (199,⟨false,1,some 9,abl,[],some 24,none,false,none,none,none,false,none⟩),
 (214,⟨false,1,none,.bool,[],none,none,false,none,none,none,true,none⟩),
 (232,⟨false,1,none,ZT,[],some 8,none,false,none,none,some (some .u64),false,none⟩),
 (257,⟨true,5,none,K9,[(0,0),(1,0),(2,0),(3,0),(4,0)],some 72,some [(0,1),(1,1),(2,1),(3,1),(4,1)],false,none,none,none,false,none⟩),
 (291,⟨true,3,none,acS,[(0,0),(1,0),(2,0)],some 24,some [(0,1),(1,1),(2,1)],false,none,none,none,false,none⟩),
 (300,⟨true,3,none,acT,[(0,0),(1,0),(2,0)],some 24,some [(0,1),(1,1),(2,1)],false,none,none,none,false,none⟩),
 (302,⟨false,1,none,abZ,[],some 8,none,false,none,none,none,false,some 337⟩),
 (305,⟨false,1,none,.bool,[],none,none,false,none,none,none,true,none⟩),
 (307,⟨false,1,none,.bool,[],none,none,false,none,none,none,true,none⟩),
 (335,⟨false,1,some 302,abm,[],some 24,none,false,none,none,none,false,none⟩),
 (337,⟨true,5,none,adi,[(0,3),(4,0)],some 56,some [(0,4),(4,1)],false,none,none,none,false,none⟩),
 (341,⟨false,1,none,.bool,[],none,none,false,none,some ⟨3,3,.int,.int⟩,none,false,none⟩),
 (343,⟨false,1,none,.bool,[],none,none,false,none,none,none,true,none⟩),
 (363,⟨false,1,none,ZU,[],some 8,none,false,none,none,some (some .u64),false,none⟩),
 (385,⟨true,2,none,PF,[(0,0),(1,0)],some 16,some [(0,1),(1,1)],false,some [some .i64,some .i64],none,none,false,none⟩),
 (391,⟨false,1,none,ZV,[],some 4,none,false,none,none,some (some .u32),false,none⟩),
 (396,⟨false,1,none,.bool,[],none,none,false,none,none,none,true,none⟩),
 (416,⟨false,1,some 421,acU,[],some 24,none,false,none,none,none,false,none⟩),
 (419,⟨true,2,none,YO,[(0,0),(1,0)],some 16,some [(0,1),(1,1)],false,none,none,none,false,none⟩),
 (421,⟨true,4,none,ZW,[(0,1),(2,0),(3,0)],some 32,some [(0,2),(2,1),(3,1)],false,none,none,none,false,none⟩),
 (425,⟨false,1,some 419,acV,[],some 24,none,false,none,none,none,false,none⟩)]
theorem Df:TTok Tryz.prog tt:=⟨wI (n:=1) (z:=.int .i64 0) ⟨⟨_,Tryz.underlying3,rfl⟩,by kernel_rfl⟩ rfl (by unfold TZ;kernel_rfl) rfl (bC rfl) (fun h=>by cases h) (fun k h=>by obtain rfl:=ae h;exact Tryz.underlying3),
 wI (n:=1) (z:=.bool false) ⟨⟨_,Tryz.underlying4,rfl⟩,by kernel_rfl⟩ rfl (by unfold TZ;kernel_rfl) rfl (bC rfl) (fun h=>Tryz.underlying4) (fun k h=>by cases h),
 wI (n:=1) (z:=.int .u8 0) ⟨⟨_,Tryz.underlying5,rfl⟩,by kernel_rfl⟩ rfl (by unfold TZ;kernel_rfl) rfl (bC rfl) (fun h=>by cases h) (fun k h=>by obtain rfl:=ae h;exact Tryz.underlying5),
 wI (n:=1) (z:=.string ⟨#[]⟩) ⟨⟨_,Tryz.underlying9,rfl⟩,by kernel_rfl⟩ rfl (by unfold TZ;kernel_rfl) rfl (bC rfl) (fun h=>by cases h) (fun k h=>by obtain rfl:=ae h;exact Tryz.underlying9),
 tQ ⟨⟨_,Tryz.underlying22,rfl⟩,by kernel_rfl⟩ Tryz.underlying22 (by unfold TZ;kernel_rfl),
 tQ ⟨⟨_,Tryz.underlying24,rfl⟩,by kernel_rfl⟩ Tryz.underlying24 (by unfold TZ;kernel_rfl),
 pV (z:=.agg #[.int .i64 0,.slice none 0 0]) ⟨⟨_,Tryz.underlying26,rfl⟩,by kernel_rfl⟩ rfl ⟨⟨_,_,Tryz.underlying26,rfl,rfl,by kernel_rfl⟩,⟨_,_,Tryz.underlying26,rfl,rfl,by kernel_rfl⟩,trivial⟩ (by unfold TZ;kernel_rfl) rfl (bC rfl) ⟨_,Tryz.underlying26,by kernel_rfl⟩ (fun a h=>by cases h),
 tQ ⟨⟨_,Tryz.underlying27,rfl⟩,by kernel_rfl⟩ Tryz.underlying27 (by unfold TZ;kernel_rfl),
 tQ ⟨⟨_,Tryz.underlying28,rfl⟩,by kernel_rfl⟩ Tryz.underlying28 (by unfold TZ;kernel_rfl),
 pV (z:=.agg #[.slice none 0 0,.slice none 0 0]) ⟨⟨_,Tryz.underlying30,rfl⟩,by kernel_rfl⟩ rfl ⟨⟨_,_,Tryz.underlying30,rfl,rfl,by kernel_rfl⟩,⟨_,_,Tryz.underlying30,rfl,rfl,by kernel_rfl⟩,trivial⟩ (by unfold TZ;kernel_rfl) rfl (bC rfl) ⟨_,Tryz.underlying30,by kernel_rfl⟩ (fun a h=>by cases h),
 tQ ⟨⟨_,Tryz.underlying31,rfl⟩,by kernel_rfl⟩ Tryz.underlying31 (by unfold TZ;kernel_rfl),
 pV (z:=.agg #[.int .i64 0,.slice none 0 0,.slice none 0 0,.slice none 0 0,.slice none 0 0,.string ⟨#[]⟩]) ⟨⟨_,Tryz.underlying33,rfl⟩,by kernel_rfl⟩ rfl ⟨⟨_,_,Tryz.underlying33,rfl,rfl,by kernel_rfl⟩,⟨_,_,Tryz.underlying33,rfl,rfl,by kernel_rfl⟩,⟨_,_,Tryz.underlying33,rfl,rfl,by kernel_rfl⟩,⟨_,_,Tryz.underlying33,rfl,rfl,by kernel_rfl⟩,trivial⟩ (by unfold TZ;kernel_rfl) rfl (bC rfl) ⟨_,Tryz.underlying33,by kernel_rfl⟩ (fun a h=>by cases h),
 tQ ⟨⟨_,Tryz.underlying58,rfl⟩,by kernel_rfl⟩ Tryz.underlying58 (by unfold TZ;kernel_rfl),
 pV (z:=.agg #[.slice none 0 0]) ⟨⟨_,Tryz.underlying60,rfl⟩,by kernel_rfl⟩ rfl ⟨⟨_,_,Tryz.underlying60,rfl,rfl,by kernel_rfl⟩,trivial⟩ (by unfold TZ;kernel_rfl) rfl (bC rfl) ⟨_,Tryz.underlying60,by kernel_rfl⟩ (fun a h=>by cases h),
 tQ ⟨⟨_,Tryz.underlying70,rfl⟩,by kernel_rfl⟩ Tryz.underlying70 (by unfold TZ;kernel_rfl),
 tQ ⟨⟨_,Tryz.underlying71,rfl⟩,by kernel_rfl⟩ Tryz.underlying71 (by unfold TZ;kernel_rfl),
 pV (z:=.agg #[.slice none 0 0,.slice none 0 0]) ⟨⟨_,Tryz.underlying73,rfl⟩,by kernel_rfl⟩ rfl ⟨⟨_,_,Tryz.underlying73,rfl,rfl,by kernel_rfl⟩,⟨_,_,Tryz.underlying73,rfl,rfl,by kernel_rfl⟩,trivial⟩ (by unfold TZ;kernel_rfl) rfl (bC rfl) ⟨_,Tryz.underlying73,by kernel_rfl⟩ (fun a h=>by cases h),
 tQ ⟨⟨_,Tryz.underlying82,rfl⟩,by kernel_rfl⟩ Tryz.underlying82 (by unfold TZ;kernel_rfl),
 pV (z:=.agg #[.slice none 0 0]) ⟨⟨_,Tryz.underlying84,rfl⟩,by kernel_rfl⟩ rfl ⟨⟨_,_,Tryz.underlying84,rfl,rfl,by kernel_rfl⟩,trivial⟩ (by unfold TZ;kernel_rfl) rfl (bC rfl) ⟨_,Tryz.underlying84,by kernel_rfl⟩ (fun a h=>by cases h),
 tQ ⟨⟨_,Tryz.underlying87,rfl⟩,by kernel_rfl⟩ Tryz.underlying87 (by unfold TZ;kernel_rfl),
 pV (z:=.agg #[.int .i64 0,.int .i64 0,.int .i64 0]) ⟨⟨_,Tryz.underlying93,rfl⟩,by kernel_rfl⟩ rfl ⟨⟨_,_,Tryz.underlying93,rfl,rfl,by kernel_rfl⟩,⟨_,_,Tryz.underlying93,rfl,rfl,by kernel_rfl⟩,⟨_,_,Tryz.underlying93,rfl,rfl,by kernel_rfl⟩,trivial⟩ (by unfold TZ;kernel_rfl) rfl (bC rfl) ⟨_,Tryz.underlying93,by kernel_rfl⟩ (fun a h=>by obtain rfl:=ae h;exact fun w f d g c i j=>ab0 f g i d c j w),
 B1 (ty:=.bool) (b:=8) ⟨⟨_,Tryz.underlying99,rfl⟩,by kernel_rfl⟩ rfl (by unfold TZ;kernel_rfl),
 B1 (ty:=.bool) (b:=8) ⟨⟨_,Tryz.underlying119,rfl⟩,by kernel_rfl⟩ rfl (by unfold TZ;kernel_rfl),
 pV (z:=.agg #[.int .i64 0,.int .i64 0,.int .i64 0,.int .i64 0]) ⟨⟨_,Tryz.underlying124,rfl⟩,by kernel_rfl⟩ rfl ⟨⟨_,_,Tryz.underlying124,rfl,rfl,by kernel_rfl⟩,⟨_,_,Tryz.underlying124,rfl,rfl,by kernel_rfl⟩,⟨_,_,Tryz.underlying124,rfl,rfl,by kernel_rfl⟩,⟨_,_,Tryz.underlying124,rfl,rfl,by kernel_rfl⟩,trivial⟩ (by unfold TZ;kernel_rfl) rfl (bC rfl) ⟨_,Tryz.underlying124,by kernel_rfl⟩ (fun a h=>by obtain rfl:=ae h;exact fun w f d g c i j o l=>ZX f g i o d c j l w),
 pV (z:=.agg #[.int .i64 0,.slice none 0 0,.int .i64 0]) ⟨⟨_,Tryz.underlying126,rfl⟩,by kernel_rfl⟩ rfl ⟨⟨_,_,Tryz.underlying126,rfl,rfl,by kernel_rfl⟩,⟨_,_,Tryz.underlying126,rfl,rfl,by kernel_rfl⟩,⟨_,_,Tryz.underlying126,rfl,rfl,by kernel_rfl⟩,trivial⟩ (by unfold TZ;kernel_rfl) rfl (bC rfl) ⟨_,Tryz.underlying126,by kernel_rfl⟩ (fun a h=>by cases h),
 tQ ⟨⟨_,Tryz.underlying138,rfl⟩,by kernel_rfl⟩ Tryz.underlying138 (by unfold TZ;kernel_rfl),
 tQ ⟨⟨_,Tryz.underlying139,rfl⟩,by kernel_rfl⟩ Tryz.underlying139 (by unfold TZ;kernel_rfl),
 pV (z:=.agg #[.int .i64 0,.slice none 0 0,.slice none 0 0]) ⟨⟨_,Tryz.underlying141,rfl⟩,by kernel_rfl⟩ rfl ⟨⟨_,_,Tryz.underlying141,rfl,rfl,by kernel_rfl⟩,⟨_,_,Tryz.underlying141,rfl,rfl,by kernel_rfl⟩,⟨_,_,Tryz.underlying141,rfl,rfl,by kernel_rfl⟩,trivial⟩ (by unfold TZ;kernel_rfl) rfl (bC rfl) ⟨_,Tryz.underlying141,by kernel_rfl⟩ (fun a h=>by cases h),
 B1 (ty:=.bool) (b:=8) ⟨⟨_,Tryz.underlying142,rfl⟩,by kernel_rfl⟩ rfl (by unfold TZ;kernel_rfl),
 B1 (ty:=.bool) (b:=8) ⟨⟨_,Tryz.underlying144,rfl⟩,by kernel_rfl⟩ rfl (by unfold TZ;kernel_rfl),
 B1 (ty:=.bool) (b:=8) ⟨⟨_,Tryz.underlying150,rfl⟩,by kernel_rfl⟩ rfl (by unfold TZ;kernel_rfl),
 B1 (ty:=.bool) (b:=8) ⟨⟨_,Tryz.underlying152,rfl⟩,by kernel_rfl⟩ rfl (by unfold TZ;kernel_rfl),
 pV (z:=.agg #[.slice none 0 0,.int .i64 0,.int .i64 0]) ⟨⟨_,Tryz.underlying167,rfl⟩,by kernel_rfl⟩ rfl ⟨⟨_,_,Tryz.underlying167,rfl,rfl,by kernel_rfl⟩,⟨_,_,Tryz.underlying167,rfl,rfl,by kernel_rfl⟩,⟨_,_,Tryz.underlying167,rfl,rfl,by kernel_rfl⟩,trivial⟩ (by unfold TZ;kernel_rfl) rfl (bC rfl) ⟨_,Tryz.underlying167,by kernel_rfl⟩ (fun a h=>by cases h),
 pV (z:=.agg #[.int .i64 0,.int .i64 0,.int .i64 0,.int .i64 0]) ⟨⟨_,Tryz.underlying172,rfl⟩,by kernel_rfl⟩ rfl ⟨⟨_,_,Tryz.underlying172,rfl,rfl,by kernel_rfl⟩,⟨_,_,Tryz.underlying172,rfl,rfl,by kernel_rfl⟩,⟨_,_,Tryz.underlying172,rfl,rfl,by kernel_rfl⟩,⟨_,_,Tryz.underlying172,rfl,rfl,by kernel_rfl⟩,trivial⟩ (by unfold TZ;kernel_rfl) rfl (bC rfl) ⟨_,Tryz.underlying172,by kernel_rfl⟩ (fun a h=>by obtain rfl:=ae h;exact fun w f d g c i j o l=>ZY f g i o d c j l w),
 tQ ⟨⟨_,Tryz.underlying181,rfl⟩,by kernel_rfl⟩ Tryz.underlying181 (by unfold TZ;kernel_rfl),
 pV (z:=.agg #[.slice none 0 0,.slice none 0 0]) ⟨⟨_,Tryz.underlying183,rfl⟩,by kernel_rfl⟩ rfl ⟨⟨_,_,Tryz.underlying183,rfl,rfl,by kernel_rfl⟩,⟨_,_,Tryz.underlying183,rfl,rfl,by kernel_rfl⟩,trivial⟩ (by unfold TZ;kernel_rfl) rfl (bC rfl) ⟨_,Tryz.underlying183,by kernel_rfl⟩ (fun a h=>by cases h),
 pV (z:=.agg #[.int .i64 0,.bool false,.slice none 0 0,.slice none 0 0]) ⟨⟨_,Tryz.underlying185,rfl⟩,by kernel_rfl⟩ rfl ⟨⟨_,_,Tryz.underlying185,rfl,rfl,by kernel_rfl⟩,⟨_,_,Tryz.underlying185,rfl,rfl,by kernel_rfl⟩,⟨_,_,Tryz.underlying185,rfl,rfl,by kernel_rfl⟩,trivial⟩ (by unfold TZ;kernel_rfl) rfl (bC rfl) ⟨_,Tryz.underlying185,by kernel_rfl⟩ (fun a h=>by cases h),
 pV (z:=.agg #[.bool false,.int .i64 0,.int .i64 0,.int .i64 0,.int .i64 0]) ⟨⟨_,Tryz.underlying191,rfl⟩,by kernel_rfl⟩ rfl ⟨⟨_,_,Tryz.underlying191,rfl,rfl,by kernel_rfl⟩,⟨_,_,Tryz.underlying191,rfl,rfl,by kernel_rfl⟩,trivial⟩ (by unfold TZ;kernel_rfl) rfl (bC rfl) ⟨_,Tryz.underlying191,by kernel_rfl⟩ (fun a h=>by cases h),
 tQ ⟨⟨_,Tryz.underlying199,rfl⟩,by kernel_rfl⟩ Tryz.underlying199 (by unfold TZ;kernel_rfl),
 B1 (ty:=.bool) (b:=8) ⟨⟨_,Tryz.underlying214,rfl⟩,by kernel_rfl⟩ rfl (by unfold TZ;kernel_rfl),
 wI (n:=1) (z:=.int .u64 0) ⟨⟨_,Tryz.underlying232,rfl⟩,by kernel_rfl⟩ rfl (by unfold TZ;kernel_rfl) rfl (bC rfl) (fun h=>by cases h) (fun k h=>by obtain rfl:=ae h;exact Tryz.underlying232),
 pV (z:=.agg #[.slice none 0 0,.int .i64 0,.int .i64 0,.slice none 0 0,.bool false]) ⟨⟨_,Tryz.underlying257,rfl⟩,by kernel_rfl⟩ rfl ⟨⟨_,_,Tryz.underlying257,rfl,rfl,by kernel_rfl⟩,⟨_,_,Tryz.underlying257,rfl,rfl,by kernel_rfl⟩,⟨_,_,Tryz.underlying257,rfl,rfl,by kernel_rfl⟩,⟨_,_,Tryz.underlying257,rfl,rfl,by kernel_rfl⟩,⟨_,_,Tryz.underlying257,rfl,rfl,by kernel_rfl⟩,trivial⟩ (by unfold TZ;kernel_rfl) rfl (bC rfl) ⟨_,Tryz.underlying257,by kernel_rfl⟩ (fun a h=>by cases h),
 pV (z:=.agg #[.bool false,.int .i64 0,.int .i64 0]) ⟨⟨_,Tryz.underlying291,rfl⟩,by kernel_rfl⟩ rfl ⟨⟨_,_,Tryz.underlying291,rfl,rfl,by kernel_rfl⟩,⟨_,_,Tryz.underlying291,rfl,rfl,by kernel_rfl⟩,⟨_,_,Tryz.underlying291,rfl,rfl,by kernel_rfl⟩,trivial⟩ (by unfold TZ;kernel_rfl) rfl (bC rfl) ⟨_,Tryz.underlying291,by kernel_rfl⟩ (fun a h=>by cases h),
 pV (z:=.agg #[.int .i64 0,.int .i64 0,.bool false]) ⟨⟨_,Tryz.underlying300,rfl⟩,by kernel_rfl⟩ rfl ⟨⟨_,_,Tryz.underlying300,rfl,rfl,by kernel_rfl⟩,⟨_,_,Tryz.underlying300,rfl,rfl,by kernel_rfl⟩,⟨_,_,Tryz.underlying300,rfl,rfl,by kernel_rfl⟩,trivial⟩ (by unfold TZ;kernel_rfl) rfl (bC rfl) ⟨_,Tryz.underlying300,by kernel_rfl⟩ (fun a h=>by cases h),
 abX (e:=337) (E:=302) (u:=Ah) ⟨⟨_,Tryz.underlying302,rfl⟩,by kernel_rfl⟩ Tryz.underlying302 (by unfold TZ;kernel_rfl),
 B1 (ty:=.bool) (b:=8) ⟨⟨_,Tryz.underlying305,rfl⟩,by kernel_rfl⟩ rfl (by unfold TZ;kernel_rfl),
 B1 (ty:=.bool) (b:=8) ⟨⟨_,Tryz.underlying307,rfl⟩,by kernel_rfl⟩ rfl (by unfold TZ;kernel_rfl),
 tQ ⟨⟨_,Tryz.underlying335,rfl⟩,by kernel_rfl⟩ Tryz.underlying335 (by unfold TZ;kernel_rfl),
 pV (z:=.agg #[.int .i64 0,.int .i64 0,.int .i64 0,.int .i64 0,.slice none 0 0]) ⟨⟨_,Tryz.underlying337,rfl⟩,by kernel_rfl⟩ rfl ⟨⟨_,_,Tryz.underlying337,rfl,rfl,by kernel_rfl⟩,⟨_,_,Tryz.underlying337,rfl,rfl,by kernel_rfl⟩,trivial⟩ (by unfold TZ;kernel_rfl) rfl (bC rfl) ⟨_,Tryz.underlying337,by kernel_rfl⟩ (fun a h=>by cases h),
 abW (m:=⟨3,3,.int,.int⟩) (ty:=.bool) ⟨⟨_,Tryz.underlying341,rfl⟩,by kernel_rfl⟩ rfl ⟨Tryz.underlying341,kk3,ek3⟩,
 B1 (ty:=.bool) (b:=8) ⟨⟨_,Tryz.underlying343,rfl⟩,by kernel_rfl⟩ rfl (by unfold TZ;kernel_rfl),
 wI (n:=1) (z:=.int .u64 0) ⟨⟨_,Tryz.underlying363,rfl⟩,by kernel_rfl⟩ rfl (by unfold TZ;kernel_rfl) rfl (bC rfl) (fun h=>by cases h) (fun k h=>by obtain rfl:=ae h;exact Tryz.underlying363),
 pV (z:=.agg #[.int .i64 0,.int .i64 0]) ⟨⟨_,Tryz.underlying385,rfl⟩,by kernel_rfl⟩ rfl ⟨⟨_,_,Tryz.underlying385,rfl,rfl,by kernel_rfl⟩,⟨_,_,Tryz.underlying385,rfl,rfl,by kernel_rfl⟩,trivial⟩ (by unfold TZ;kernel_rfl) rfl (bC rfl) ⟨_,Tryz.underlying385,by kernel_rfl⟩ (fun a h=>by obtain rfl:=ae h;exact fun w f d g c=>ZZ f g d c w),
 wI (n:=1) (z:=.int .u32 0) ⟨⟨_,Tryz.underlying391,rfl⟩,by kernel_rfl⟩ rfl (by unfold TZ;kernel_rfl) rfl (bC rfl) (fun h=>by cases h) (fun k h=>by obtain rfl:=ae h;exact Tryz.underlying391),
 B1 (ty:=.bool) (b:=8) ⟨⟨_,Tryz.underlying396,rfl⟩,by kernel_rfl⟩ rfl (by unfold TZ;kernel_rfl),
 tQ ⟨⟨_,Tryz.underlying416,rfl⟩,by kernel_rfl⟩ Tryz.underlying416 (by unfold TZ;kernel_rfl),
 pV (z:=.agg #[.int .i64 0,.bool false]) ⟨⟨_,Tryz.underlying419,rfl⟩,by kernel_rfl⟩ rfl ⟨⟨_,_,Tryz.underlying419,rfl,rfl,by kernel_rfl⟩,⟨_,_,Tryz.underlying419,rfl,rfl,by kernel_rfl⟩,trivial⟩ (by unfold TZ;kernel_rfl) rfl (bC rfl) ⟨_,Tryz.underlying419,by kernel_rfl⟩ (fun a h=>by cases h),
 pV (z:=.agg #[.int .i64 0,.bool false,.int .i64 0,.int .i64 0]) ⟨⟨_,Tryz.underlying421,rfl⟩,by kernel_rfl⟩ rfl ⟨⟨_,_,Tryz.underlying421,rfl,rfl,by kernel_rfl⟩,⟨_,_,Tryz.underlying421,rfl,rfl,by kernel_rfl⟩,⟨_,_,Tryz.underlying421,rfl,rfl,by kernel_rfl⟩,trivial⟩ (by unfold TZ;kernel_rfl) rfl (bC rfl) ⟨_,Tryz.underlying421,by kernel_rfl⟩ (fun a h=>by cases h),
 tQ ⟨⟨_,Tryz.underlying425,rfl⟩,by kernel_rfl⟩ Tryz.underlying425 (by unfold TZ;kernel_rfl),trivial⟩
theorem mixed:Tryz.prog.follows .mixedOrders=true:=by kernel_rfl
def U8 (fn:Func):Code:=match fn.body with
 | some c=>c
 | none=>.skip
theorem fk {k:FuncId} {fn:Func} {f:FS} (ft:FT) (hF:FTok Tryz.prog ft) (hf:Tryz.prog.funcs[k]? =some fn) (ann:Ann) (an:List (Nat×Ty):=[]) (tr:Trs:=[]) (hb:fn.body=some (U8 fn):=by rfl) (he:(fn.name == "runtime.NumGoroutine")=false:=by kernel_rfl) (hcl:f.cl=none:=by rfl) (hm:Nat.ble f.ps.length fn.ntmps=true:=by rfl) (hdp:(EZ f.rs&&y6 f.ps)=true:=by rfl)
  (hmod: ∀d,appP f.ps f.m d=kH ⟨tt,ft,an,fn.ntmps,tr⟩ (Jf ⟨tt,ft,an,fn.ntmps,tr⟩ fn.results.toList f.rs f.ps d) (U8 fn) ann (fun r=>some r) (fun _ _=>none) (Jf ⟨tt,ft,an,fn.ntmps,tr⟩ fn.results.toList f.rs f.ps d) (tg (BX f.ps d)):=by intro d;kernel_rfl):FOk Tryz.prog k f:=
 fok (V:=⟨tt,ft,an,fn.ntmps,tr⟩) Df hF mixed hf hb rfl (enters_of hf he hb) hcl (bC hm) hdp ann hmod
def PG:FS:=⟨[.rd y22],[y4],Jj,none⟩
def c8:FS:=⟨[.rd y24,.rd y24,.fn [y73,y73] [y4]],[y4],bZ,none⟩
def cW:FS:=⟨[.rd y70,.rd y70],[y4],cx,none⟩
def jy:FS:=⟨[.rd y71,.rd y71],[y4],dA,none⟩
def tU:FS:=⟨[.rd y73,.rd y73],[y4],jJ,none⟩
def qe:FS:=⟨[.rd y26,.rd y26],[y4],jr,none⟩
def bV:FS:=⟨[.rd y27,.rd y27,.fn [kJ,kJ] [y4]],[y4],bd,none⟩
def jz:FS:=⟨[.rd Tk,.rd Tk],[y4],fq,none⟩
def da:FS:=⟨[.rd ZS,.rd ZS,.fn [y70,y70] [y4]],[y4],b7,none⟩
def px:FS:=⟨[.rd y70,.rd y70],[y4],iH,none⟩
def nf:FS:=⟨[.rd kJ,.rd kJ],[y4],fB,none⟩
def bK:FS:=⟨[.rd y28,.rd y28,.fn [vk,vk] [y4]],[y4],ba,none⟩
def iD:FS:=⟨[.rd y58,.rd y58],[y4],eP,none⟩
def vN:FS:=⟨[.rd y60,.rd y60],[y4],nw,none⟩
def sN:FS:=⟨[.rd vk,.rd vk],[y4],iW,none⟩
def lK:FS:=⟨[.rd y30,.rd y30],[y4],fG,none⟩
def eI:FS:=⟨[.rd y31,.rd y31],[y4],bU,none⟩
def sO:FS:=⟨[.rd y33,.rd y33],[y4],fX,none⟩
def jh:FS:=⟨[.rd y3,.rd y3,.rd y3],[y4],cJ,none⟩
def zp:FS:=⟨[.rd C3,.rd y3],[y4],km,none⟩
def sP:FS:=⟨[.rd y73],[y4],cQ,none⟩
def jA:FS:=⟨[.rd y26],[y4],m_i_IsValidHistory,none⟩
def rk:FS:=⟨[.rd y26],[y3],ko,none⟩
def tV:FS:=⟨[.rd y60],[y60],iz,none⟩
def tW:FS:=⟨[.rd y3],[y4],lR,none⟩
def B5:FS:=⟨[.rd Ah],[y4],rV,none⟩
def bX:FS:=⟨[.rd abm],[abm],fun _=>none,some (302,8)⟩
def vl:FS:=⟨[.rd y60],[t302],oS,none⟩
def D1:FS:=⟨[.rd y60],[y4],uZ,none⟩
def tX:FS:=⟨[.rd y60],[y4],mo,none⟩
def nI (n:Nat):FS:=⟨[.rd t302],[y3],dh n,none⟩
def La:FS:=⟨[.rd y3],[t302],Fw,none⟩
def qf (n:Nat):FS:=⟨[.eat t302,.rd y3,.rd y3],[t302],nM n,none⟩
def mD (n:Nat):FS:=⟨[.rd t302],[t302],cK n,none⟩
def lA (n:Nat):FS:=⟨[.rd t302,.ptr 60 y60],[],cA n,none⟩
def xS:FS:=⟨[.rd t302],[y60],rX,none⟩
def vO:FS:=⟨[.rd y60],[y60,y4],ny,none⟩
def ot:FS:=⟨[.ptr 257 K9,.rd y3,.rd y3],[],fm,none⟩
def iR (n:Nat):FS:=⟨[.ptr 257 K9,.rd t302],[acT],bL n,none⟩
def qg:FS:=⟨[.rd y60],[K9,y4],jt,none⟩
def oe:FS:=⟨[.rd y3,.rd y3,.fn [y3] [y4],.fn [y3,y3] [y3,y4]],[kJ,y4],fY,none⟩
def nW:FS:=⟨[.rd K9,.rd y3],[y4],eR,none⟩
def py:FS:=⟨[.rd K9,.rd y3,.rd y3],[y3],iI,none⟩
def rl:FS:=⟨[.rd y3,.rd y3,.cap 257 K9],[y3,y4],eA,none⟩
def tY:FS:=⟨[.rd K9,.rd y3],[kJ,y4],jK,none⟩
def cd:FS:=⟨[.rd Tk],[Tk],fun _=>none,some (4,1)⟩
def qi:FS:=⟨[.rd kJ],[Tk],gk,none⟩
def fU:FS:=⟨[.rd ZS,.fn [y70] [y4]],[y3],cC,none⟩
def mR:FS:=⟨[.rd y70,.cap 70 y70],[y4],jj,none⟩
def ou:FS:=⟨[.rd kJ,.rd y70],[y70,y3],fo,none⟩
def nX:FS:=⟨[.rd kJ],[y70],eU,none⟩
def pz:FS:=⟨[.rd ZV,.rd ZV],[ZV,ZV],wJ,none⟩
def pA:FS:=⟨[.rd ZU,.rd ZU],[ZU,ZU],pc,none⟩
def rm:FS:=⟨[.rd ZT,.rd ZT],[ZT,ZT],rb,none⟩
def j6:FS:=⟨[.rd y70,.rd y3],[y70],jM,none⟩
def B6:FS:=⟨[],[kJ],wK,none⟩
def kK:FS:=⟨[.rd y70,.rd y3],[y3],fW,none⟩
def lV:FS:=⟨[.rd y3,.cap 70 y70],[y3],bm,none⟩
def lW:FS:=⟨[.rd y3,.cap 141 kJ,.capf 343 [y3] [y3]],[y4],du,none⟩
def qj:FS:=⟨[.rd kJ,.rd y3,.rd y3],[y3],gl,none⟩
def lX:FS:=⟨[.rd y3,.rd y3,.cap 141 kJ,.capf 343 [y3] [y3],.cap 70 y70],[y3,y4],dw,none⟩
def mS:FS:=⟨[.rd kJ],[kJ],df,none⟩
def HG:FS:=⟨[.rd kJ],[kJ,y4],B3,none⟩
def tZ:FS:=⟨[.rd y60],[kJ,y4],jN,none⟩
def dS:FS:=⟨[.rd y27,.fn [kJ] [y4]],[y3],bJ,none⟩
def Ai:FS:=⟨[.rd kJ,.cap 141 kJ],[y4],nP,none⟩
def vm:FS:=⟨[.rd y28],[y30,y4],oT,none⟩
def iS:FS:=⟨[.rd y30],[y4],cM,none⟩
def dB:FS:=⟨[.rd y28,.fn [vk] [y4]],[y3],ct,none⟩
def ua:FS:=⟨[.rd vk,.cap 3 y3],[y4],mr,none⟩
def mE:FS:=⟨[.rd y30,.rd y3],[y3],gm,none⟩
def nY:FS:=⟨[.rd y9,.rd y5],[.int .i64],gp,none⟩
def sQ:FS:=⟨[.rd y3],[.str],od,none⟩
def sj:FS:=⟨[.rd y3],[y9],eK,none⟩
def qN:FS:=⟨[.rd C3],[y9],kP,none⟩
def sR:FS:=⟨[.rd abl,.rd y9],[.str],lj,none⟩
def pB:FS:=⟨[.rd y84],[y9],fJ,none⟩
def Aj:FS:=⟨[.rd y9],[y3],lS,none⟩
def sS:FS:=⟨[.rd y3,.rd y84],[y9],iX,none⟩
def ng:FS:=⟨[.rd y9,.rd y9],[.sl 9 .str],dx,none⟩
def ub:FS:=⟨[.rd y9],[.int .i64,.bool],iA,none⟩
def uc:FS:=⟨[.rd y9,.rd y9],[.str,.str,.bool],dH,none⟩
def xT:FS:=⟨[.rd y9],[C3,y4],iJ,none⟩
def vP:FS:=⟨[.rd y9],[y84,y4],gE,none⟩
def sU:FS:=⟨[.rd y9],[y3,y84,y4],ln,none⟩
def B7:FS:=⟨[.rd y9],[y70,.sl 84 (.bag y84),y3],m_i_ScanLog,none⟩
def iu:FS:=⟨[.rd y33],[y4],aN,none⟩
def ud:FS:=⟨[.rd y22],[.int .i64,.int .i64],pe,some (167,9)⟩
def D2:FS:=⟨[.crs 167 5],[y3],lT,none⟩
def b9:FS:=⟨[.crs 167 5,.rd y3],[y3],aI,none⟩
def eM:FS:=⟨[.crs 167 5,.rd y70],[y3],bN,none⟩
def iT:FS:=⟨[.rd y3,.rd y3,.rd y3],[y4],cD,none⟩
def zq:FS:=⟨[.rd y73,.rd C3],[y4],u7,none⟩
def dU:FS:=⟨[.rd y73],[y4],aT,none⟩
def xU:FS:=⟨[.rd y70,.rd y70],[y3],pg,none⟩
def db:FS:=⟨[.rd y26],[y4],m_s_IsValidHistory,none⟩
def cV:FS:=⟨[.rd y26],[y3],aV,none⟩
def vo:FS:=⟨[.rd y58],[y60],fZ,none⟩
def ue:FS:=⟨[.rd y3],[y4],nQ,none⟩
def wL:FS:=⟨[.rd Ah],[y3],ph,none⟩
def D3:FS:=⟨[.rd y60],[y4],u9,none⟩
def pC:FS:=⟨[.rd y60],[y4],jO,none⟩
def sk:FS:=⟨[.rd y58],[y3],jP,none⟩
def so (n:Nat):FS:=⟨[.rd y58],[y3],fK n,none⟩
def vp:FS:=⟨[.rd y60,.rd y60,.rd Ah],[y60],fC,none⟩
def zr:FS:=⟨[.rd y3],[y60],re,none⟩
def qk (n:Nat):FS:=⟨[.rd y60,.rd y3,.rd y3],[y60],nR n,none⟩
def oH (n:Nat):FS:=⟨[.rd y58],[y60],dI n,none⟩
def vQ:FS:=⟨[.rd y60],[y60,y4],jd,none⟩
def B8:FS:=⟨[.ptr 257 K9,.rd y3,.rd y3],[],pj,none⟩
def ql (n:Nat):FS:=⟨[.ptr 257 K9,.rd y58],[acS],cO n,none⟩
def mF:FS:=⟨[.rd y60],[K9,y4],dJ,none⟩
def Ak:FS:=⟨[.rd K9,.rd y3,.rd y3],[y3],qb,none⟩
def wM:FS:=⟨[.rd y70,.rd y3],[y3],pn,none⟩
def vR:FS:=⟨[.rd K9,.rd y3],[y4],nA,none⟩
def qO:FS:=⟨[.rd K9,.rd y3],[kJ,y4],fy,none⟩
def vS:FS:=⟨[],[kJ],qI,none⟩
def xV:FS:=⟨[.rd kJ,.rd y70,.rd Tk],[kJ],kt,none⟩
def wN:FS:=⟨[.rd kJ],[Tk],mY,none⟩
def D4:FS:=⟨[.rd kJ,.rd y70,.rd y3],[y70],rf,none⟩
def vT:FS:=⟨[.rd kJ],[y70],kS,none⟩
def uf:FS:=⟨[.rd kJ],[kJ],hO,none⟩
def ug:FS:=⟨[.rd y60],[kJ,y4],m_s_CompileExpr,none⟩
def nh:FS:=⟨[.rd kJ,.rd kJ],[y4],hY,none⟩
def Al:FS:=⟨[.rd y27,.rd kJ],[y3],gr,none⟩
def qm:FS:=⟨[.rd y28],[y30,y4],bR,none⟩
def vU:FS:=⟨[.rd y60,.rd y60],[y4],qJ,none⟩
def pD:FS:=⟨[.rd y30,.rd y30],[y4],iK,none⟩
def eF:FS:=⟨[.rd y30],[y4],m_s_IsValidRegistry,none⟩
def gy:FS:=⟨[.rd y30,.rd y3],[y3],aS,none⟩
def B9:FS:=⟨[.rd y33],[y4],rZ,none⟩
def mG:FS:=⟨[.rd y3],[y9],cz,none⟩
def lB:FS:=⟨[.rd y3],[y9],ga,none⟩
def qP:FS:=⟨[.rd C3],[y9],kT,none⟩
def pE:FS:=⟨[.rd y84],[y9],dK,none⟩
def Am:FS:=⟨[.rd y9],[y3],iB,none⟩
def lC:FS:=⟨[.rd y3,.rd y84],[y9],dQ,none⟩
def uh:FS:=⟨[.rd y9,.rd y5],[abl],iZ,none⟩
def ui:FS:=⟨[.rd y9],[y3,y4],iC,none⟩
def pF:FS:=⟨[.rd y9],[y3,y4],ic,none⟩
def xW:FS:=⟨[.rd y9],[C3,y4],iL,none⟩
def vV:FS:=⟨[.rd y9],[y84,y4],gF,none⟩
def sV:FS:=⟨[.rd y9],[y3,y84,y4],lr,none⟩
def wO:FS:=⟨[.rd y9],[y70,.sl 84 (.bag y84),y3],m_s_ScanLog,none⟩
def D5:FS:=⟨[.rd y33],[y4],vc,none⟩
def eG:FS:=⟨[.rd y33],[y4],bW,none⟩
def kD:FS:=⟨[.rd y73],[y73],cy,none⟩
def vq:FS:=⟨[.rd y26],[y26],lU,none⟩
def wP:FS:=⟨[.rd kJ],[kJ],po,none⟩
def sp:FS:=⟨[.rd y30],[y30],iM,none⟩
def lL:FS:=⟨[.rd y33],[y33],iN,none⟩
def ni:FS:=⟨[.rd y30,.rd y3,.rd y60],[y30,y4],cU,none⟩
def mH:FS:=⟨[.rd y33,.rd y3,.rd y60],[y33,y4],c7,none⟩
def wQ:FS:=⟨[.rd y31,.rd y3],[y3],lI,none⟩
def lM:FS:=⟨[.rd y33,.rd y3,.rd y3],[y33,y4],cP,none⟩
def mI:FS:=⟨[.rd y73,.rd y3],[y3],dL,none⟩
def vW:FS:=⟨[.rd y73,.rd C3],[y73,y4],nD,none⟩
def vX:FS:=⟨[.rd y73,.rd y3],[y73,y4],nE,none⟩
def wR:FS:=⟨[.rd y73,.rd y84],[y73,y4],fh,none⟩
def vY:FS:=⟨[.rd y73,.rd y84],[y73,y4],nF,none⟩
def pG:FS:=⟨[.rd y26,.rd y84],[y26,y4],ig,none⟩
def uj:FS:=⟨[.rd y33,.rd y84],[y33,y4],jT,none⟩
def lY:FS:=⟨[.crs 167 5,.rd y3],[y4],cE,none⟩
def D6:FS:=⟨[.crs 167 5,.rd y73],[C3],rh,none⟩
def wS:FS:=⟨[.crs 167 5,.rd y73,.rd y3],[y84],lJ,none⟩
def su:FS:=⟨[.crs 167 5],[y73],jU,none⟩
def qQ:FS:=⟨[.rd y73,.rd y3],[y26,y4],gI,none⟩
def xX:FS:=⟨[.rd y73],[y33,y4],oC,none⟩
def Ca:FS:=⟨[.rd Ah],[y9],B4,none⟩
def D7:FS:=⟨[.rd y9],[Ah],D0,none⟩
def xY:FS:=⟨[.rd y9],[y60,y4],kz,none⟩
def D8:FS:=⟨[.crs 167 5,.rd abl],[y9],vd,none⟩
def sA:FS:=⟨[.crs 167 5],[y60],na,none⟩
def Cb:FS:=⟨[.rd y26,.rd y30,.rd y93],[y4],pq,none⟩
def Cc:FS:=⟨[.rd y26,.rd y3],[y73,y4],jV,none⟩
def qn:FS:=⟨[.rd y30,.rd y3],[kJ,y4],ju,none⟩
def Cd:FS:=⟨[.rd kJ],[y4],pv,none⟩
def ox:FS:=⟨[.rd kJ],[y4],gP,none⟩
def Ce:FS:=⟨[.rd y73,.rd kJ,.rd y3,.rd y3],[y4],sb,none⟩
def qR:FS:=⟨[.rd kJ,.rd y3,.rd y3],[y3],dE,none⟩
def D9:FS:=⟨[.rd y73,.rd y3],[acV],ri,none⟩
def xZ:FS:=⟨[.rd C3,.rd y4],[y3],iO,none⟩
def HH:FS:=⟨[.rd C3,.rd y4],[y3],pw,none⟩
def An:FS:=⟨[.rd y73,.rd kJ,.rd y3,.rd y3],[acU],nS,none⟩
def Ao:FS:=⟨[.rd y73,.rd kJ,.rd y3],[y70],nT,none⟩
def vZ:FS:=⟨[.rd y73,.rd kJ,.rd y3,.rd y3],[y4],kX,none⟩
def HI:FS:=⟨[.rd y3],[y70],xP,none⟩
def Cf:FS:=⟨[.rd y73,.rd kJ,.rd y3],[y70],sd,none⟩
def v7:FS:=⟨[.rd y73,.rd kJ],[Nh],nH,none⟩
def sW:FS:=⟨[.rd y30,.rd y73,.rd y3],[Nh,y4],dR,none⟩
def Ea:FS:=⟨[.rd Nh,.rd PF],[y4],ve,none⟩
def Cg:FS:=⟨[.rd PF,.rd PF],[y4],si,none⟩
def Eb:FS:=⟨[.eat (.sl 385 PF),.rd PF],[Nh],vf,none⟩
def rp:FS:=⟨[.rd Nh,.rd Nh],[Nh],im,none⟩
def sX:FS:=⟨[.rd Nh,.rd Nh],[abY],lu,none⟩
def v8:FS:=⟨[.rd y26,.rd y30,.rd y93,.rd y3],[abj],kZ,none⟩
def uk:FS:=⟨[.rd y26,.rd y30,.rd y93],[abj,y93,y4],my,none⟩
def wc:FS:=⟨[.rd y33,.rd y3],[y33,abj,y4],ld,none⟩
def qo:FS:=⟨[.rd y26,.rd y3],[y26,y4],jv,none⟩
def Ec:FS:=⟨[.rd y9,.rd y3],[y9],vh,none⟩
def rq:FS:=⟨[.rd y33,.rd y3],[y33,y4],ir,none⟩
def ya:FS:=⟨[.crs 167 5],[y33],oF,none⟩
def um:FS:=⟨[.crs 167 5],[y30],mA,none⟩
def we:FS:=⟨[.rd y3],[y60],vM,none⟩
def vr (n:Nat):FS:=⟨[.crs 167 5,.rd y3],[y60],fb n,none⟩
def zt:FS:=⟨[.crs 167 5],[y60],rj,none⟩
def yc:FS:=⟨[.crs 167 5],[kJ],mB,none⟩
def Ed:FS:=⟨[.crs 167 5],[kJ],vi,none⟩
def Ee:FS:=⟨[.crs 167 5],[y30],vj,none⟩
def Ci:FS:=⟨[.crs 167 5],[y73],tT,none⟩
def yd:FS:=⟨[.crs 167 5],[y26],oG,none⟩
def HJ:FS:=⟨[.crs 167 5],[y26],xQ,none⟩
def vt:FS:=⟨[.crs 167 5],[y33],oU,none⟩
def HK:FS:=⟨[.crs 167 5],[y60],xR,none⟩
def mT:FS:=⟨[.rd y22],[y33,y3,y60],fT,none⟩
def uo:FS:=⟨[.rd y70],[y70],nV,none⟩
def sB:FS:=⟨[.rd y73],[y73],kA,none⟩
def uq:FS:=⟨[.rd y26],[y26],mC,none⟩
def rr:FS:=⟨[.rd kJ],[kJ],kB,none⟩
def lD:FS:=⟨[.rd y30],[y30],dm,none⟩
def nJ:FS:=⟨[.rd y33],[y33],jg,none⟩
def dY:FS:=⟨[.eat (.sl 126 (.fro vk)),.rd y3,.ow (.sl 126 (.fro vk))],[.sl 126 (.fro vk)],a8,none⟩
def cH:FS:=⟨[.rd y28],[.sl 126 (.fro vk)],aL,none⟩
def ru:FS:=⟨[.rd y30,.rd y3,.rd y60],[y30,y4],fD,none⟩
def qp:FS:=⟨[.rd y33,.rd y3,.rd y60],[y33,y4],jx,none⟩
def mJ:FS:=⟨[.rd y22],[y33,y3,y3],fw,none⟩
def cw:FS:=⟨[.rd y31,.fn [y93] [y4]],[y3],aP,none⟩
def sY:FS:=⟨[.rd y93,.cap 3 y3],[y4],lz,none⟩
def wg:FS:=⟨[.rd y33,.rd y3],[y3],qL,none⟩
def dZ:FS:=⟨[.eat (.sl 93 y93),.rd y3,.ow (.sl 93 y93)],[.sl 93 y93],bO,none⟩
def pH:FS:=⟨[.rd y33,.rd y3,.rd y3],[y33,y4],iP,none⟩
def lZ:FS:=⟨[.rd y22],[y33,y3],fc,none⟩
def ej:FS:=⟨[.eat (.sl 126 (.fro vk)),.rd y3,.rd y3],[.sl 126 (.fro vk)],bP,none⟩
def pI:FS:=⟨[.rd y30,.rd y3],[y30,y4],iQ,none⟩
def dy:FS:=⟨[.eat (.sl 93 y93),.fn [y93] [y4]],[.sl 93 y93],bD,none⟩
def mU:FS:=⟨[.rd y93,.cap 3 y3],[y4],jk,none⟩
def oy:FS:=⟨[.rd y33,.rd y3],[y33,y4],gR,none⟩
def pJ:FS:=⟨[.rd y30,.rd y3],[y30,y4],eE,none⟩
def oz:FS:=⟨[.rd y33,.rd y3],[y33,y4],dP,none⟩
def rv:FS:=⟨[.rd y22],[y73],cm,none⟩
def wh:FS:=⟨[.rd y73,.rd y3],[y26,y4],qM,none⟩
def ye:FS:=⟨[.rd y73],[y33,y4],dN,none⟩
def zu:FS:=⟨[.rd y22],[y4],kC,none⟩
theorem XK:FOk Tryz.prog 7 PG:=fk [] trivial Tryz.func7 .no
theorem gz:FOk Tryz.prog 107 c8:=fk [] trivial Tryz.func107 (.t (.t (.two (.t (.loop [.s 17] .no)) .no)))
theorem dV:FOk Tryz.prog 119 cW:=fk [] trivial Tryz.func119 (.t (.t (.two (.t (.loop [.s 13] .no)) .no)))
theorem oJ:FOk Tryz.prog 177 jy:=fk [] trivial Tryz.func177 (.t (.t (.two (.t (.loop [.s 13] .no)) .no)))
theorem Cj:FOk Tryz.prog 108 tU:=fk [(119,cW),(177,jy)] ⟨dV,oJ,trivial⟩ Tryz.func108 .no
theorem yf:FOk Tryz.prog 47 qe:=fk [(107,c8),(108,tU)] ⟨gz,Cj,trivial⟩ Tryz.func47 .no
theorem dD:FOk Tryz.prog 109 bV:=fk [] trivial Tryz.func109 (.t (.t (.two (.t (.loop [.s 17] .no)) .no)))
theorem oK:FOk Tryz.prog 178 jz:=fk [] trivial Tryz.func178 (.t (.t (.two (.t (.loop [.s 13] .no)) .no)))
theorem gA:FOk Tryz.prog 179 da:=fk [] trivial Tryz.func179 (.t (.t (.two (.t (.loop [.s 17] .no)) .no)))
theorem wT:FOk Tryz.prog 180 px:=fk [(119,cW)] ⟨dV,trivial⟩ Tryz.func180 .no
theorem ry:FOk Tryz.prog 110 nf:=fk [(178,jz),(179,da),(180,px)] ⟨oK,gA,wT,trivial⟩ Tryz.func110 .no
theorem dn:FOk Tryz.prog 111 bK:=fk [] trivial Tryz.func111 (.t (.t (.two (.t (.loop [.s 17] .no)) .no)))
theorem nZ:FOk Tryz.prog 237 iD:=fk [] trivial Tryz.func237 (.t (.t (.two (.t (.loop [.s 13] .no)) .no)))
theorem Dg:FOk Tryz.prog 181 vN:=fk [(237,iD)] ⟨nZ,trivial⟩ Tryz.func181 .no
theorem AD:FOk Tryz.prog 112 sN:=fk [(181,vN)] ⟨Dg,trivial⟩ Tryz.func112 .no
theorem pK:FOk Tryz.prog 48 lK:=fk [(109,bV),(110,nf),(111,bK),(112,sN)] ⟨dD,ry,dn,AD,trivial⟩ Tryz.func48 .no
theorem jD:FOk Tryz.prog 49 eI:=fk [] trivial Tryz.func49 (.t (.t (.two (.t (.loop [.s 13] .no)) .no)))
theorem AE:FOk Tryz.prog 11 sO:=fk [(47,qe),(48,lK),(49,eI)] ⟨yf,pK,jD,trivial⟩ Tryz.func11 .no
theorem kE:FOk Tryz.prog 59 jh:=fk [] trivial Tryz.func59 .no
theorem Ef:FOk Tryz.prog 186 zp:=fk [(59,jh)] ⟨kE,trivial⟩ Tryz.func186 .no
theorem AF:FOk Tryz.prog 118 sP:=fk [(59,jh),(186,zp)] ⟨kE,Ef,trivial⟩ Tryz.func118 (.t (.t (.two (.t (.loop [.s 14] .no)) (.two (.t (.loop [.s 25] .no)) .no))))
theorem mK:FOk Tryz.prog 57 jA:=fk [(59,jh),(118,sP),(119,cW)] ⟨kE,AF,dV,trivial⟩ Tryz.func57 (.t (.t (.t (.two (.t (.loop [.s 24] .no)) .no))))
theorem zw:FOk Tryz.prog 41 rk:=fk [(57,jA)] ⟨mK,trivial⟩ Tryz.func41 .no
theorem Ap:FOk Tryz.prog 164 tV:=fk [] trivial Tryz.func164 .no
theorem Aq:FOk Tryz.prog 371 tW:=fk [(59,jh)] ⟨kE,trivial⟩ Tryz.func371 .no
theorem Jk:FOk Tryz.prog 335 B5:=fk [(59,jh),(371,tW)] ⟨kE,Aq,trivial⟩ Tryz.func335 (.t (.two (.t (.t (.t (.t (.t (.join [.slot 37 .boo] .no .no)))))) .no))
theorem oh:FOk Tryz.prog 336 bX:=HC (f:=bX) (lh (f:=⟨bX.ps,bX.rs,bX.m,none⟩) (enters_of Tryz.func336 (by kernel_rfl) rfl) rfl (fun d=>rfl)) (KY (V:=⟨tt,[],[(5,.raw)],8,[]⟩) Df trivial mixed Tryz.func336 rfl rfl (enters_of Tryz.func336 (by kernel_rfl) rfl) (bC rfl) .no (fun E a b=>by cases a <;> kernel_rfl))
theorem zx:FOk Tryz.prog 293 vl:=fk [(335,B5),(336,bX)] ⟨Jk,oh,trivial⟩ Tryz.func293 (.t (.t (.two (.t (.loop [.slot 3 (.own 302 abZ),.s 13] (.t (.t (.two (.t (.t (.two (.t (.at [.s 6] (.two (.t (.at [.slot 19 .boo] .no)) (.t (.two (.t (.at [.slot 22 .boo] .no)) .no))))) .no))) .no))))) .no))) (tr:=[(337,302,Ah)])
theorem MC:FOk Tryz.prog 368 D1:=fk [(293,vl)] ⟨zx,trivial⟩ Tryz.func368 .no (tr:=[(337,302,Ah)])
theorem Ck:FOk Tryz.prog 330 tX:=fk [(368,D1)] ⟨MC,trivial⟩ Tryz.func330 .no
theorem wi: ∀n,FOk Tryz.prog 331 (nI n)
 | 0=>lh (f:=nI 0) (enters_of Tryz.func331 (by kernel_rfl) rfl) rfl (fun d=>rfl)
 | n+1=>by
  have ih:=wi n
  exact fk [(331,(nI n))] ⟨ih,trivial⟩ Tryz.func331 (.t (.t (.two (.t (.loop [.s 3,.s 11] (.t (.t (.two (.at [.s 3] .no) .no))))) .no))) (tr:=[(337,302,Ah)])
theorem Tl:FOk Tryz.prog 392 La:=fk [] trivial Tryz.func392 .no (tr:=[(337,302,Ah)])
theorem Ar: ∀n,FOk Tryz.prog 369 (qf n)
 | 0=>lh (f:=qf 0) (enters_of Tryz.func369 (by kernel_rfl) rfl) rfl (fun d=>rfl)
 | n+1=>by
  have ih:=Ar n
  exact fk [(369,(qf n)),(392,La)] ⟨ih,Tl,trivial⟩ Tryz.func369 .no (tr:=[(337,302,Ah)])
theorem ur: ∀n,FOk Tryz.prog 332 (mD n)
 | 0=>lh (f:=mD 0) (enters_of Tryz.func332 (by kernel_rfl) rfl) rfl (fun d=>rfl)
 | n+1=>by
  have ih:=ur n
  exact fk [(332,(mD n)),(369,(qf fV))] ⟨ih,(Ar fV),trivial⟩ Tryz.func332 (.t (.t (.t (.two (.t (.loop [.s 41,.box 3 [(.num .i64),(.num .i64),(.num .i64),(.num .i64),(.own 302 (.tree 337 302 Ah))]] .no)) .no)))) (an:=[(52,t302)]) (tr:=[(337,302,Ah)])
theorem sZ: ∀n,FOk Tryz.prog 370 (lA n)
 | 0=>lh (f:=lA 0) (enters_of Tryz.func370 (by kernel_rfl) rfl) rfl (fun d=>rfl)
 | n+1=>by
  have ih:=sZ n
  exact fk [(370,(lA n))] ⟨ih,trivial⟩ Tryz.func370 (.two (.t (.loop [.s 11,.box 1 [(.own 172 Ah)]] .no)) .no) (tr:=[(337,302,Ah)])
theorem Fy:FOk Tryz.prog 333 xS:=fk [(370,(lA fV))] ⟨(sZ fV),trivial⟩ Tryz.func333 .no (tr:=[(337,302,Ah)])
theorem Dh:FOk Tryz.prog 291 vO:=fk [(293,vl),(330,tX),(331,(nI fV)),(332,(mD fV)),(333,xS)] ⟨zx,Ck,(wi fV),(ur fV),Fy,trivial⟩ Tryz.func291 .no (tr:=[(337,302,Ah)])
theorem vE:FOk Tryz.prog 334 ot:=fk [] trivial Tryz.func334 (.t (.loop [.s 12,.par 4 [3] 3 y3] (.t (.t (.two (.at [.par 4 [3] 3 y3] .no) .no)))))
theorem pL: ∀n,FOk Tryz.prog 292 (iR n)
 | 0=>lh (f:=iR 0) (enters_of Tryz.func292 (by kernel_rfl) rfl) rfl (fun d=>rfl)
 | n+1=>by
  have ih:=pL n
  exact fk [(292,(iR n)),(334,ot)] ⟨ih,vE,trivial⟩ Tryz.func292 (.t (.two (.t (.t (.t (.t (.t (.t (.t (.t (.two (.t (.t (.t (.two (.t (.at [.box 10 [(.num .i64),(.num .i64),.boo]] .no)) (.two (.t (.at [.box 10 [(.num .i64),(.num .i64),.boo]] .no)) .no))))) .no))))))))) .no)) (tr:=[(337,302,Ah)])
theorem yg:FOk Tryz.prog 241 qg:=fk [(291,vO),(292,(iR fV)),(293,vl)] ⟨Dh,(pL fV),zx,trivial⟩ Tryz.func241 (.t (.t (.t (.t (.two (.t (.loop [.s 6,.s 22] (.t (.t (.two (.at [.s 6] .no) .no))))) .no))))) (tr:=[(337,302,Ah)])
theorem ta:FOk Tryz.prog 294 oe:=fk [] trivial Tryz.func294 (.t (.t (.t (.t (.two (.t (.loop [.slot 10 (.own 3 y3),.slot 11 (.map ⟨3,3,.int,.int⟩),.s 13,.box 12 [(.num .i64),(.own 4 y4),(.own 70 y70)]] (.t (.two (.t (.two (.t (.loop [.slot 10 (.own 3 y3),.slot 11 (.map ⟨3,3,.int,.int⟩),.slot 14 (.own 3 y3),.s 15] (.t (.join [.slot 10 (.own 3 y3),.slot 11 (.map ⟨3,3,.int,.int⟩),.slot 14 (.own 3 y3)] (.t (.t (.t (.join [.slot 10 (.own 3 y3),.slot 11 (.map ⟨3,3,.int,.int⟩),.s 18] .no .no)))) .no)))) .no)) .no)))) .no)))))
theorem uu:FOk Tryz.prog 295 nW:=fk [] trivial Tryz.func295 .no
theorem wU:FOk Tryz.prog 297 py:=fk [] trivial Tryz.func297 (.t (.t (.join [.s 7] .no (.two (.t (.loop [.s 7,.s 21] (.t (.t (.join [.s 7] .no .no))))) (.t (.two (.t (.loop [.s 10,.s 39] (.t (.t (.join [.s 10] .no .no))))) .no))))))
theorem zy:FOk Tryz.prog 296 rl:=fk [(297,py)] ⟨wU,trivial⟩ Tryz.func296 .no
theorem Cl:FOk Tryz.prog 242 tY:=fk [(294,oe),(295,nW),(296,rl)] ⟨ta,uu,zy,trivial⟩ Tryz.func242 .no
theorem oL:FOk Tryz.prog 393 cd:=HC (f:=cd) (lh (f:=⟨cd.ps,cd.rs,cd.m,none⟩) (enters_of Tryz.func393 (by kernel_rfl) rfl) rfl (fun d=>rfl)) (KY (V:=⟨tt,[],[(5,.raw)],8,[]⟩) Df trivial mixed Tryz.func393 rfl rfl (enters_of Tryz.func393 (by kernel_rfl) rfl) (bC rfl) .no (fun E a b=>by cases a <;> kernel_rfl))
theorem yh:FOk Tryz.prog 372 qi:=fk [(393,cd)] ⟨oL,trivial⟩ Tryz.func372 (.t (.t (.two (.t (.loop [.slot 4 .boo,.row 3 4 y4] (.t (.t (.t (.loop [.slot 4 .boo,.s 16,.row 3 4 y4] (.t (.t (.two (.t (.t (.loop [.slot 4 .boo,.s 23,.row 3 4 y4] (.t (.t (.two (.at [.slot 4 .boo,.row 3 4 y4] .no) .no)))))) .no))))))))) .no)))
theorem mb:FOk Tryz.prog 394 fU:=fk [] trivial Tryz.func394 (.t (.two (.t (.loop [.s 8] .no)) .no))
theorem tm:FOk Tryz.prog 395 mR:=fk [(119,cW)] ⟨dV,trivial⟩ Tryz.func395 .no
theorem vF:FOk Tryz.prog 373 ou:=fk [(394,fU),(395,mR)] ⟨mb,tm,trivial⟩ Tryz.func373 (.t (.t (.t (.two (.t (.loop [.slot 6 (.own 70 y70),.slot 7 (.own 3 y3),.s 18] (.t (.t (.join [.slot 6 (.own 70 y70),.slot 7 (.own 3 y3)] (.t (.t (.t (.two (.t (.loop [.s 36,.box 10 [(.own 3 y3)]] (.t (.t (.two (.t (.join [.s 12] .no .no)) .no))))) (.t (.join [.slot 6 (.own 70 y70),.s 13,.gone 10] .no .no)))))) .no))))) .no))))
theorem uv:FOk Tryz.prog 337 nX:=fk [(372,qi),(373,ou)] ⟨yh,vF,trivial⟩ Tryz.func337 (.t (.t (.two (.t (.loop [.slot 3 (.own 3 y3),.s 13] (.t (.t (.join [.slot 3 (.own 3 y3)] .no .no))))) (.t (.loop [.slot 3 (.own 3 y3),.s 6] .no)))))
theorem wV:FOk Tryz.prog 407 pz:=fk [] trivial Tryz.func407 .no
theorem wW:FOk Tryz.prog 408 pA:=fk [] trivial Tryz.func408 .no
theorem zz:FOk Tryz.prog 396 rm:=fk [(407,pz),(408,pA)] ⟨wV,wW,trivial⟩ Tryz.func396 .no
theorem pM:FOk Tryz.prog 374 j6:=fk [(396,rm)] ⟨zz,trivial⟩ Tryz.func374 (.t (.t (.t (.t (.t (.t (.two (.loop [.s 8,.row 7 3 (.int .i64)] .no) .no))))))) (an:=[(44,.bool)])
theorem Jl:FOk Tryz.prog 338 B6:=fk [(374,j6)] ⟨pM,trivial⟩ Tryz.func338 .no
theorem pW:FOk Tryz.prog 340 kK:=fk [] trivial Tryz.func340 (.t (.two (.t (.loop [.s 8] .no)) .no))
theorem rz:FOk Tryz.prog 339 lV:=fk [(340,kK)] ⟨pW,trivial⟩ Tryz.func339 .no
theorem rA:FOk Tryz.prog 341 lW:=fk [] trivial Tryz.func341 .no
theorem yi:FOk Tryz.prog 343 qj:=fk [(371,tW)] ⟨Aq,trivial⟩ Tryz.func343 .no
theorem rB:FOk Tryz.prog 342 lX:=fk [(343,qj)] ⟨yi,trivial⟩ Tryz.func342 .no
theorem tn:FOk Tryz.prog 298 mS:=fk [(294,oe),(337,nX),(338,B6),(339,lV),(341,lW),(342,lX)] ⟨ta,uv,Jl,rz,rA,rB,trivial⟩ Tryz.func298 .no
theorem PH:FOk Tryz.prog 243 HG:=fk [(298,mS)] ⟨tn,trivial⟩ Tryz.func243 .no
theorem Cm:FOk Tryz.prog 187 tZ:=fk [(241,qg),(242,tY),(243,HG)] ⟨yg,Cl,PH,trivial⟩ Tryz.func187 .no
theorem jb:FOk Tryz.prog 188 dS:=fk [] trivial Tryz.func188 (.t (.two (.t (.loop [.s 8] .no)) .no))
theorem HL:FOk Tryz.prog 189 Ai:=fk [(110,nf)] ⟨ry,trivial⟩ Tryz.func189 .no
theorem zA:FOk Tryz.prog 120 vm:=fk [(59,jh),(164,tV),(187,tZ),(188,dS),(189,Ai)] ⟨kE,Ap,Cm,jb,HL,trivial⟩ Tryz.func120 (.t (.t (.two (.t (.loop [.s 13,.box 4 [(.own 141 kJ),(.own 126 vk)]] (.t (.t (.two (.t (.t (.t (.t (.join [.s 9,.box 4 [(.own 141 kJ),(.own 126 vk)],.gone 7] .no .no))))) .no))))) .no)))
theorem lN:FOk Tryz.prog 58 iS:=fk [(48,lK),(120,vm)] ⟨pK,zA,trivial⟩ Tryz.func58 .no
theorem ix:FOk Tryz.prog 121 dB:=fk [] trivial Tryz.func121 (.t (.two (.t (.loop [.s 8] .no)) .no))
theorem Cn:FOk Tryz.prog 122 ua:=fk [] trivial Tryz.func122 .no
theorem oM:FOk Tryz.prog 60 mE:=fk [(121,dB),(122,ua)] ⟨ix,Cn,trivial⟩ Tryz.func60 .no
theorem uw:FOk Tryz.prog 123 nY:=Ft Fv (enters_of Tryz.func123 (by kernel_rfl) rfl)
theorem AG:FOk Tryz.prog 234 sQ:=Tg K6 (enters_of Tryz.func234 (by kernel_rfl) rfl)
theorem yj:FOk Tryz.prog 167 sj:=fk [(234,sQ)] ⟨AG,trivial⟩ Tryz.func167 .no
theorem wj:FOk Tryz.prog 232 qN:=fk [(167,sj),(186,zp)] ⟨yj,Ef,trivial⟩ Tryz.func232 .no
theorem AH:FOk Tryz.prog 233 sR:=Ti Tj PC 9 (enters_of Tryz.func233 (by kernel_rfl) rfl)
theorem uy:FOk Tryz.prog 166 pB:=fk [(232,qN),(233,sR)] ⟨wj,AH,trivial⟩ Tryz.func166 (.t (.t (.t (.two (.t (.loop [.slot 3 (.own 9 y9),.s 15] (.t (.t (.two (.atX [.slot 3 (.own 9 y9)] .no) .no))))) .no))))
theorem HM:FOk Tryz.prog 168 Aj:=fk [] trivial Tryz.func168 (.t (.t (.two (.t (.loop [.s 3,.s 4] .no)) .no)))
theorem AI:FOk Tryz.prog 103 sS:=fk [(59,jh),(166,pB),(167,sj),(168,Aj)] ⟨kE,uy,yj,HM,trivial⟩ Tryz.func103 .no
theorem rC:FOk Tryz.prog 191 ng:=Pz PB (by kernel_rfl) (by kernel_rfl) (enters_of Tryz.func191 (by kernel_rfl) rfl)
theorem Co (n a b:Int) (w:World):Calls Tryz.prog 59 #[.int .i64 n,.int .i64 a,.int .i64 b] w fun e c=>e= .returned (.bool (decide (a<=n/\n<=b)))/\c=w:=by
 by_cases h:a<=n
 ·go_enter Tryz.func59,Tryz.ntmps59
  go_wp2
  go_ret
  simp[h]
 ·go_enter Tryz.func59,Tryz.ntmps59
  go_wp2
  go_ret
  simp
  try (intro k;omega)
theorem Jm (s:ByteArray) (r:Int×Bool) (w:World) (hr:tP s=some r) (hL:LayW Tryz.prog w):Calls Tryz.prog 192 #[.string s] w fun e w'=>e= .returned (.tuple #[.int .i64 r.1,.bool r.2])/\Below w.heap.size w w':=by
 unfold tP at hr
 by_cases h10:10<s.size
 ·rw[if_pos h10] at hr
  obtain rfl:=ae hr
  go_enter Tryz.func192,Tryz.ntmps192
  go_wp2
  go_ret2
  exact ⟨rfl,Below.refl _ _⟩
 ·rw[if_neg h10] at hr
  have h18:s.size<=18:=by omega
  cases ha:Lib.atoi s.data.toList with
  | none =>
   rw[ha] at hr
   obtain rfl:=ae hr
   obtain ⟨tp,p,hv⟩:=hL.syn
   have hcon:=Any.strconv_Atoi_err_var K7 s h18 ha tp p w hv
   go_enter Tryz.func192,Tryz.ntmps192
   go_wp2_with (go_at_call 246;refine hcon.mono ?_;rintro e w' ⟨N,rfl,hN,hh,hb⟩)
   go_ret2
   exact ⟨rfl,hb⟩
  | some n =>
   rw[ha] at hr
   have hB:=Lib.atoi_bound ha (by simpa using h18)
   have hA:=Any.strconv_Atoi { K7 with } s n h18 ha w
   have hI:=fun t=>Any.strconv_Itoa K6 n (by omega) (by omega) (Lib.bytesWorld w 5 t) (Lib.bytesWorld_var w 5 t hL.tab)
   have hz: ∀t k os,Below w.heap.size w (Go.Sort.grow ((Lib.bytesWorld w 5 t).drewN k) os):=fun t k os=>by
    have h1:=Lib.bytesWorld_below w 5 t
    exact ⟨h1.os,h1.tape,h1.output,by have:=h1.size;simp only[Go.Sort.grow,Array.size_append];exact Nat.le_trans this (Nat.le_add_right _ _),fun b hb=>(Go.Sort.heap_grow_old ((Lib.bytesWorld w 5 t).drewN k) os (aJ hb h1.size:b<((Lib.bytesWorld w 5 t).drewN k).heap.size)).trans (h1.block b hb)⟩
   replace hr:(if (⟨(Lib.itoa n).toArray⟩:ByteArray)=s/\ -999999999<=n/\n<=999999999 then some (n,true) else some (0,false))=some r:=hr
   generalize (⟨(Lib.itoa n).toArray⟩:ByteArray)=q at hr hI
   by_cases e1:q=s
   ·subst e1
    by_cases e2: -999999999<=n/\n<=999999999
    ·rw[if_pos ⟨rfl,e2.1,e2.2⟩] at hr
     obtain rfl:=ae hr
     go_enter Tryz.func192,Tryz.ntmps192
     go_wp2_with (first | (go_at_call 246;refine hA.mono ?_;rintro e w' ⟨rfl,t,rfl⟩) | (go_at_call 234;refine (hI _).mono ?_;rintro e w' ⟨rfl,k,os,rfl⟩) | (go_at_call 59;refine (Co _ _ _ _).mono ?_;rintro e w' ⟨rfl,rfl⟩))
     go_ret2
     exact ⟨rfl,hz _ _ _⟩
    ·rw[if_neg fun k=>e2 k.2] at hr
     obtain rfl:=ae hr
     go_enter Tryz.func192,Tryz.ntmps192
     go_wp2_with (first | (go_at_call 246;refine hA.mono ?_;rintro e w' ⟨rfl,t,rfl⟩) | (go_at_call 234;refine (hI _).mono ?_;rintro e w' ⟨rfl,k,os,rfl⟩) | (go_at_call 59;refine (Co _ _ _ _).mono ?_;rintro e w' ⟨rfl,rfl⟩))
     go_ret2
     exact ⟨rfl,hz _ _ _⟩
   ·rw[if_neg fun k=>e1 k.1] at hr
    obtain rfl:=ae hr
    have e2: ¬q.toList=s.toList:=fun k=>e1 (Go.WideShapes.bytes_inj (by rw[<-ByteArray.toList_eq,<-ByteArray.toList_eq];exact k))
    go_enter Tryz.func192,Tryz.ntmps192
    go_wp2_with (first | (go_at_call 246;refine hA.mono ?_;rintro e w' ⟨rfl,t,rfl⟩) | (go_at_call 234;refine (hI _).mono ?_;rintro e w' ⟨rfl,k,os,rfl⟩) | (go_at_call 59;refine (Co _ _ _ _).mono ?_;rintro e w' ⟨rfl,rfl⟩))
    go_ret2
    exact ⟨rfl,hz _ _ _⟩
theorem As:FOk Tryz.prog 192 ub:=PA (enters_of Tryz.func192 (by kernel_rfl) rfl) Jm
theorem Cp:FOk Tryz.prog 304 uc:=XG XI (by kernel_rfl) (enters_of Tryz.func304 (by kernel_rfl) rfl)
theorem Fz:FOk Tryz.prog 247 xT:=fk [(192,ub),(232,qN),(304,uc)] ⟨As,wj,Cp,trivial⟩ Tryz.func247 .no
theorem Di:FOk Tryz.prog 193 vP:=fk [(166,pB),(191,ng),(247,xT)] ⟨uy,rC,Fz,trivial⟩ Tryz.func193 (.t (.t (.t (.two (.t (.loop [.s 16,.box 4 [(.own 191 (.prod y4 C3))]] .no)) .no))))
theorem AJ:FOk Tryz.prog 124 sU:=fk [(103,sS),(191,ng),(192,ub),(193,vP)] ⟨AI,rC,As,Di,trivial⟩ Tryz.func124 .no
theorem Jn:FOk Tryz.prog 61 B7:=K5 (ps:=[.rd y9]) (A:=y70) (E:=84) (t:=y84) (B:=y3) (m:=m_i_ScanLog) (fk [(123,nY),(124,sU)] ⟨uw,AJ,trivial⟩ Tryz.func61 (.t (.t (.t (.t (.two (.loop [.slot 5 (.own 3 y3),.slot 6 (.own 84 y84),.s 7] .no) .no))))))
theorem kF:FOk Tryz.prog 17 iu:=fk [(41,rk),(57,jA),(58,iS),(59,jh),(60,mE),(61,B7)] ⟨zw,mK,lN,kE,oM,Jn,trivial⟩ Tryz.func17 (.t (.t (.t (.two (.t (.loop [.s 37] .no)) .no))))
theorem yk:FOk Tryz.prog 71 ud:=XE (T:=167) (ZQ (V:=⟨tt,[],[],32,[]⟩) Df trivial mixed Tryz.func71 rfl rfl (enters_of Tryz.func71 (by kernel_rfl) rfl) (bC rfl) (.t (.t (.two (.t (.loop [.s 3,.s 4] .no)) .no))) (fun a=>by kernel_rfl)) rfl
theorem MF:FOk Tryz.prog 138 D2:=fk [] trivial Tryz.func138 (.t (.t (.t (.two (.t (.at [.s 3,.cur 0] .no)) .no))))
theorem cn:FOk Tryz.prog 73 b9:=fk [(138,D2)] ⟨MF,trivial⟩ Tryz.func73 .no
theorem fx:FOk Tryz.prog 77 eM:=fk [(73,b9)] ⟨cn,trivial⟩ Tryz.func77 .no
theorem jB:FOk Tryz.prog 80 iT:=fk [] trivial Tryz.func80 .no
theorem Eg:FOk Tryz.prog 88 zq:=fk [(80,iT)] ⟨jB,trivial⟩ Tryz.func88 .no
theorem fj:FOk Tryz.prog 33 dU:=fk [(80,iT),(88,zq)] ⟨jB,Eg,trivial⟩ Tryz.func33 (.t (.two (.t (.loop [.s 3] .no)) (.two (.t (.loop [.s 4] .no)) .no)))
theorem Cq:FOk Tryz.prog 113 xU:=fk [] trivial Tryz.func113 (.t (.two (.t (.loop [.s 5] .no)) .no))
theorem dO:FOk Tryz.prog 50 db:=fk [(33,dU),(80,iT),(113,xU)] ⟨fj,jB,Cq,trivial⟩ Tryz.func50 (.t (.two (.t (.loop [.s 3] .no)) .no))
theorem dz:FOk Tryz.prog 18 cV:=fk [(50,db)] ⟨dO,trivial⟩ Tryz.func18 .no
theorem zB:FOk Tryz.prog 170 vo:=fk [] trivial Tryz.func170 .no
theorem At:FOk Tryz.prog 323 ue:=fk [(80,iT)] ⟨jB,trivial⟩ Tryz.func323 .no
theorem Cr:FOk Tryz.prog 356 wL:=fk [(80,iT),(323,ue)] ⟨jB,At,trivial⟩ Tryz.func356 (.t (.two (.t (.join [.slot 5 .boo] .no (.t (.t (.t (.join [.slot 37 .boo] .no .no)))))) .no))
theorem MG:FOk Tryz.prog 312 D3:=fk [(356,wL)] ⟨Cr,trivial⟩ Tryz.func312 (.t (.t (.two (.t (.loop [.s 3,.s 4] .no)) .no)))
theorem uz:FOk Tryz.prog 270 pC:=fk [(312,D3)] ⟨MG,trivial⟩ Tryz.func270 .no
theorem wX:FOk Tryz.prog 326 sk:=fk [(356,wL)] ⟨Cr,trivial⟩ Tryz.func326 (.t (.t (.t (.two (.loop [.s 3,.s 4] .no) .no))))
theorem Cs: ∀n,FOk Tryz.prog 324 (so n)
 | 0=>lh (f:=so 0) (enters_of Tryz.func324 (by kernel_rfl) rfl) rfl (fun d=>rfl)
 | n+1=>by
  have ih:=Cs n
  exact fk [(324,(so n)),(326,sk)] ⟨ih,wX,trivial⟩ Tryz.func324 (.t (.t (.t (.two (.t (.two (.t (.at [.slot 15 .boo] .no)) .no)) .no))))
theorem zC:FOk Tryz.prog 266 vp:=fk [(170,vo)] ⟨zB,trivial⟩ Tryz.func266 .no
theorem Eh:FOk Tryz.prog 264 zr:=fk [] trivial Tryz.func264 .no
theorem Au: ∀n,FOk Tryz.prog 367 (qk n)
 | 0=>lh (f:=qk 0) (enters_of Tryz.func367 (by kernel_rfl) rfl) rfl (fun d=>rfl)
 | n+1=>by
  have a:=Au n;exact fk [(264,zr),(266,vp),(367,(qk n))] ⟨Eh,zC,a,trivial⟩ Tryz.func367 .no
theorem ym: ∀n,FOk Tryz.prog 325 (oH n)
 | 0=>lh (f:=oH 0) (enters_of Tryz.func325 (by kernel_rfl) rfl) rfl (fun d=>rfl)
 | n+1=>by
  have a:=ym n;exact fk [(266,vp),(325,(oH n)),(326,sk),(367,(qk fV))] ⟨zC,a,wX,(Au fV),trivial⟩ Tryz.func325 (.t (.t (.t (.two (.t (.two (.t (.at [.slot 15 .boo] .no)) .no)) .no))))
theorem Dj:FOk Tryz.prog 283 vQ:=fk [(270,pC),(324,(so fV)),(325,(oH fV))] ⟨uz,(Cs fV),(ym fV),trivial⟩ Tryz.func283 .no
theorem Jo:FOk Tryz.prog 327 B8:=fk [] trivial Tryz.func327 (.t (.loop [.s 6,.par 4 [3] 3 y3] (.t (.two (.at [.par 4 [3] 3 y3] .no) .no))))
theorem Av: ∀n,FOk Tryz.prog 284 (ql n)
 | 0=>lh (f:=ql 0) (enters_of Tryz.func284 (by kernel_rfl) rfl) rfl (fun d=>rfl)
 | n+1=>by
  have a:=Av n;exact fk [(284,(ql n)),(326,sk),(327,B8)] ⟨a,wX,Jo,trivial⟩ Tryz.func284 (.t (.t (.t (.two (.t (.t (.t (.t (.t (.t (.two (.t (.t (.t (.t (.t (.two (.t (.at [.box 11 [.boo,(.num .i64),(.num .i64)]] .no)) (.two (.t (.at [.box 11 [.boo,(.num .i64),(.num .i64)]] .no)) .no))))))) .no))))))) .no))))
theorem qq:FOk Tryz.prog 238 mF:=fk [(283,vQ),(284,(ql fV))] ⟨Dj,(Av fV),trivial⟩ Tryz.func238 (.t (.t (.t (.t (.two (.t (.loop [.s 6,.s 7] (.t (.two (.at [.s 6] .no) .no)))) .no)))))
theorem HO:FOk Tryz.prog 285 Ak:=fk [] trivial Tryz.func285 (.t (.t (.join [.s 7] .no (.two (.t (.loop [.s 7,.s 8] (.t (.join [.s 7] .no .no)))) (.t (.two (.t (.loop [.s 9,.s 10] (.t (.join [.s 9] .no .no)))) .no))))))
theorem Ct:FOk Tryz.prog 286 wM:=fk [] trivial Tryz.func286 (.t (.two (.t (.loop [.s 5] .no)) .no))
theorem Dk:FOk Tryz.prog 287 vR:=fk [] trivial Tryz.func287 .no
theorem wk:FOk Tryz.prog 239 qO:=fk [(285,Ak),(286,wM),(287,vR)] ⟨HO,Ct,Dk,trivial⟩ Tryz.func239 (.t (.t (.t (.two (.t (.loop [.slot 7 (.own 3 y3),.s 8,.box 6 [(.num .i64),(.own 4 y4),(.own 70 y70)]] (.t (.two (.t (.two (.t (.loop [.slot 7 (.own 3 y3),.slot 9 (.own 3 y3),.s 10] (.t (.two (.t (.t (.join [.slot 7 (.own 3 y3),.s 12] .no .no))) .no)))) .no)) .no)))) .no))))
theorem Dl:FOk Tryz.prog 328 vS:=fk [] trivial Tryz.func328 (.t (.t (.two (.t (.loop [.slot 1 (.own 3 y3),.s 2] .no)) .no)))
theorem FA:FOk Tryz.prog 288 xV:=fk [(286,wM),(328,vS)] ⟨Ct,Dl,trivial⟩ Tryz.func288 (.t (.t (.t (.t (.t (.two (.t (.loop [.slot 8 (.own 3 y3),.slot 9 (.own 3 y3),.s 10,.box 7 [(.num .i64),(.own 4 y4),(.own 70 y70)]] (.t (.two (.t (.two (.t (.loop [.slot 8 (.own 3 y3),.slot 9 (.own 3 y3),.slot 11 (.own 3 y3),.s 12] (.t (.two (.t (.t (.join [.slot 8 (.own 3 y3),.slot 9 (.own 3 y3),.s 14] .no .no))) .no)))) .no)) .no)))) .no))))))
theorem Cu:FOk Tryz.prog 290 wN:=fk [] trivial Tryz.func290 (.t (.t (.two (.t (.loop [.row 3 4 y4,.s 4] (.t (.two (.t (.loop [.row 3 4 y4,.s 5] (.t (.two (.t (.loop [.row 3 4 y4,.s 6] (.t (.join [.row 3 4 y4] .no .no)))) .no)))) .no)))) .no)))
theorem MH:FOk Tryz.prog 329 D4:=fk [] trivial Tryz.func329 (.t (.t (.two (.t (.loop [.slot 7 (.own 3 y3),.s 8] (.t (.join [.slot 7 (.own 3 y3)] .no .no)))) .no)))
theorem Dm:FOk Tryz.prog 289 vT:=fk [(113,xU),(290,wN),(329,D4)] ⟨Cq,Cu,MH,trivial⟩ Tryz.func289 (.t (.t (.t (.two (.t (.loop [.slot 4 (.own 3 y3),.s 5] (.t (.two (.t (.two (.t (.at [.s 6] .no)) (.two (.t (.at [.s 6] .no)) .no))) .no)))) (.two (.t (.loop [.slot 4 (.own 3 y3),.s 7] (.t (.two (.t (.t (.two (.t (.loop [.slot 8 (.own 70 y70),.slot 9 (.own 3 y3),.s 10] (.t (.two (.at [.slot 8 (.own 70 y70),.slot 9 (.own 3 y3)] (.t (.t (.t (.two (.t (.loop [.s 12,.s 13] (.t (.two (.at [.s 12] .no) .no)))) (.two (.t (.at [.slot 8 (.own 70 y70),.s 12,.gone 11] .no)) .no)))))) .no)))) .no))) .no)))) .no)))))
theorem Cv:FOk Tryz.prog 240 uf:=fk [(288,xV),(289,vT),(290,wN)] ⟨FA,Dm,Cu,trivial⟩ Tryz.func240 .no
theorem Cw:FOk Tryz.prog 182 ug:=fk [(238,mF),(239,qO),(240,uf)] ⟨qq,wk,Cv,trivial⟩ Tryz.func182 .no
theorem rD:FOk Tryz.prog 184 nh:=fk [(113,xU)] ⟨Cq,trivial⟩ Tryz.func184 (.t (.t (.two (.t (.loop [.s 5] .no)) (.two (.t (.loop [.s 6] .no)) .no))))
theorem HP:FOk Tryz.prog 183 Al:=fk [(184,nh)] ⟨rD,trivial⟩ Tryz.func183 (.t (.two (.t (.loop [.s 5] .no)) .no))
theorem uA:FOk Tryz.prog 114 qm:=fk [(80,iT),(170,vo),(182,ug),(183,Al)] ⟨jB,zB,Cw,HP,trivial⟩ Tryz.func114 (.t (.t (.t (.two (.t (.loop [.s 5,.box 4 [(.own 141 kJ),(.own 126 vk)]] (.t (.two (.t (.t (.t (.join [.s 8,.box 4 [(.own 141 kJ),(.own 126 vk)],.gone 6] .no .no)))) .no)))) .no))))
theorem Dn:FOk Tryz.prog 185 vU:=fk [] trivial Tryz.func185 (.t (.t (.two (.t (.loop [.s 5] .no)) .no)))
theorem wY:FOk Tryz.prog 115 pD:=fk [(184,nh),(185,vU)] ⟨rD,Dn,trivial⟩ Tryz.func115 (.t (.t (.two (.t (.loop [.s 5] .no)) (.two (.t (.loop [.s 6] .no)) .no))))
theorem fN:FOk Tryz.prog 51 eF:=fk [(114,qm),(115,pD)] ⟨uA,wY,trivial⟩ Tryz.func51 .no
theorem iU:FOk Tryz.prog 34 gy:=fk [] trivial Tryz.func34 (.t (.two (.t (.loop [.s 5] .no)) .no))
theorem Jp:FOk Tryz.prog 52 B9:=fk [(18,cV),(34,gy),(80,iT)] ⟨dz,iU,jB,trivial⟩ Tryz.func52 (.t (.two (.t (.loop [.s 3] .no)) .no))
theorem oN:FOk Tryz.prog 175 mG:=fk [] trivial Tryz.func175 (.t (.t (.t (.t (.two (.loop [.s 0,.slot 3 .str] (.t (.t (.two (.t (.at [.s 5] .no)) .no)))) .no)))))
theorem oi:FOk Tryz.prog 282 lB:=fk [(323,ue)] ⟨At,trivial⟩ Tryz.func282 .no
theorem wm:FOk Tryz.prog 236 qP:=fk [(80,iT),(175,mG),(282,lB)] ⟨jB,oN,oi,trivial⟩ Tryz.func236 .no
theorem uB:FOk Tryz.prog 174 pE:=fk [(236,qP)] ⟨wm,trivial⟩ Tryz.func174 (.t (.t (.t (.two (.t (.loop [.slot 3 .str,.s 4] (.t (.two (.atX [.slot 3 .str] (.t (.t (.two (.t (.at [.slot 3 .str] .no)) .no)))) .no)))) .no))))
theorem HQ:FOk Tryz.prog 176 Am:=fk [] trivial Tryz.func176 (.t (.t (.two (.t (.loop [.s 3,.s 4] .no)) .no)))
theorem oj:FOk Tryz.prog 106 lC:=fk [(80,iT),(174,pE),(175,mG),(176,Am)] ⟨jB,uB,oN,HQ,trivial⟩ Tryz.func106 .no
theorem yn:FOk Tryz.prog 171 uh:=fk [] trivial Tryz.func171 (.t (.t (.t (.two (.t (.loop [.slot 5 (.own 9 y9),.s 6,.s 7] (.t (.two (.at [.slot 5 (.own 9 y9),.s 6] .no) .no)))) .no))))
theorem Aw:FOk Tryz.prog 172 ui:=fk [(175,mG)] ⟨oN,trivial⟩ Tryz.func172 (.t (.t (.t (.two (.t (.loop [.s 4,.s 5,.s 6] (.t (.two (.at [.s 4,.s 5] .no) .no)))) (.two (.t (.at [.s 4] .no)) .no)))))
theorem uC:FOk Tryz.prog 281 pF:=fk [(282,lB)] ⟨oi,trivial⟩ Tryz.func281 (.t (.two (.t (.loop [.s 4] .no)) .no))
theorem FC:FOk Tryz.prog 235 xW:=fk [(171,uh),(172,ui),(236,qP),(281,pF)] ⟨yn,Aw,wm,uC,trivial⟩ Tryz.func235 .no
theorem Do:FOk Tryz.prog 173 vV:=fk [(171,uh),(174,pE),(235,xW)] ⟨yn,uB,FC,trivial⟩ Tryz.func173 (.t (.t (.t (.t (.two (.t (.loop [.s 6,.box 4 [(.own 191 (.prod y4 C3))]] .no)) .no)))))
theorem AK:FOk Tryz.prog 105 sV:=fk [(106,lC),(171,uh),(172,ui),(173,vV)] ⟨oj,yn,Aw,Do,trivial⟩ Tryz.func105 .no
theorem Cx:FOk Tryz.prog 45 wO:=K5 (ps:=[.rd y9]) (A:=y70) (E:=84) (t:=y84) (B:=y3) (m:=m_s_ScanLog) (fk [(105,sV)] ⟨AK,trivial⟩ Tryz.func45 (.t (.t (.t (.t (.two (.t (.loop [.slot 5 (.own 3 y3),.slot 6 (.own 84 y84),.s 7,.s 8] (.t (.two (.atX [.slot 5 (.own 3 y3),.slot 6 (.own 84 y84),.s 7] .no) .no)))) .no))))))
theorem MI:FOk Tryz.prog 53 D5:=fk [(18,cV),(45,wO)] ⟨dz,Cx,trivial⟩ Tryz.func53 .no
theorem fE:FOk Tryz.prog 14 eG:=fk [(50,db),(51,eF),(52,B9),(53,D5)] ⟨dO,fN,Jp,MI,trivial⟩ Tryz.func14 .no
theorem l5:FOk Tryz.prog 116 kD:=fk [] trivial Tryz.func116 .no
theorem zD:FOk Tryz.prog 54 vq:=fk [(116,kD)] ⟨l5,trivial⟩ Tryz.func54 (.t (.t (.two (.t (.loop [.s 4,.box 3 [(.num .i64),(.own 73 y73)]] .no)) .no)))
theorem Cy:FOk Tryz.prog 169 wP:=fk [] trivial Tryz.func169 (.t (.t (.two (.t (.loop [.s 4,.box 3 [(.num .i64),(.own 4 y4),(.own 70 y70)]] .no)) .no)))
theorem wZ:FOk Tryz.prog 104 sp:=fk [(169,wP),(170,vo)] ⟨Cy,zB,trivial⟩ Tryz.func104 (.t (.t (.two (.t (.loop [.s 4,.box 3 [(.own 141 kJ),(.own 126 vk)]] .no)) (.two (.t (.loop [.s 5,.box 3 [(.own 141 kJ),(.own 126 vk)]] .no)) .no))))
theorem nj:FOk Tryz.prog 44 lL:=fk [(54,vq),(104,sp)] ⟨zD,wZ,trivial⟩ Tryz.func44 .no
theorem rE:FOk Tryz.prog 76 ni:=fk [(34,gy),(51,eF),(104,sp),(114,qm)] ⟨iU,fN,wZ,uA,trivial⟩ Tryz.func76 (.t (.t (.t (.two (.loop [.s 8] .no) .no)))) (an:=[(40,(.fro vk)),(49,(.fro vk))])
theorem qu:FOk Tryz.prog 24 mH:=fk [(14,eG),(44,lL),(76,ni)] ⟨fE,nj,rE,trivial⟩ Tryz.func24 .no
theorem Cz:FOk Tryz.prog 81 wQ:=fk [] trivial Tryz.func81 (.t (.two (.t (.loop [.s 5] .no)) .no))
theorem pN:FOk Tryz.prog 27 lM:=fk [(14,eG),(34,gy),(44,lL),(80,iT),(81,wQ)] ⟨fE,iU,nj,jB,Cz,trivial⟩ Tryz.func27 (.t (.t (.t (.t (.two (.loop [.s 9] .no) .no)))))
theorem oO:FOk Tryz.prog 227 mI:=fk [] trivial Tryz.func227 (.t (.two (.t (.loop [.s 5] .no)) .no))
theorem Dq:FOk Tryz.prog 226 vW:=fk [(33,dU),(88,zq),(116,kD),(227,mI)] ⟨fj,Eg,l5,oO,trivial⟩ Tryz.func226 (.t (.t (.t (.two (.loop [.s 6] .no) .no))))
theorem Dr:FOk Tryz.prog 228 vX:=fk [(33,dU),(116,kD),(227,mI)] ⟨fj,l5,oO,trivial⟩ Tryz.func228 .no
theorem CA:FOk Tryz.prog 161 wR:=fk [(116,kD),(226,vW),(227,mI),(228,vX)] ⟨l5,Dq,oO,Dr,trivial⟩ Tryz.func161 (.t (.t (.two (.t (.loop [.s 7,.box 6 [(.own 3 y3),(.own 124 C3)]] (.t (.joinX [.box 6 [(.own 3 y3),(.own 124 C3)]] .no .no)))) .no)))
theorem Ds:FOk Tryz.prog 117 vY:=fk [(33,dU),(116,kD),(161,wR)] ⟨fj,l5,CA,trivial⟩ Tryz.func117 .no
theorem uD:FOk Tryz.prog 55 pG:=fk [(18,cV),(50,db),(54,vq),(117,vY)] ⟨dz,dO,zD,Ds,trivial⟩ Tryz.func55 (.t (.t (.t (.t (.t (.t (.two (.t (.at [.box 6 [(.num .i64),(.own 73 y73)]] .no)) .no))))))) (an:=[(48,.bool)])
theorem CB:FOk Tryz.prog 46 uj:=fk [(14,eG),(18,cV),(44,lL),(55,pG),(106,lC)] ⟨fE,dz,nj,uD,oj,trivial⟩ Tryz.func46 .no
theorem nk:FOk Tryz.prog 97 lY:=fk [(73,b9)] ⟨cn,trivial⟩ Tryz.func97 .no
theorem MJ:FOk Tryz.prog 160 D6:=fk [(73,b9),(77,eM)] ⟨cn,fx,trivial⟩ Tryz.func160 (.t (.t (.two (.t (.at [.cur 0,.box 5 [(.num .i64),(.num .i64),(.num .i64),(.num .i64)]] .no)) .no)))
theorem CC:FOk Tryz.prog 98 wS:=fk [(73,b9),(97,lY),(116,kD),(160,D6),(161,wR)] ⟨cn,nk,l5,MJ,CA,trivial⟩ Tryz.func98 (.t (.t (.t (.two (.t (.loop [.s 9,.cur 0,.box 8 [(.own 3 y3),(.own 124 C3)],.box 7 [(.own 191 abk)]] (.t (.two (.at [.cur 0,.box 8 [(.own 3 y3),(.own 124 C3)],.box 7 [(.own 191 abk)]] (.t (.two (.t (.at [.cur 0,.box 10 [.boo,(.num .i64),(.num .i64),(.num .i64),(.num .i64)]] .no)) (.two (.t (.at [.box 10 [.boo,(.num .i64),(.num .i64),(.num .i64),(.num .i64)]] .no)) .no)))) .no)))) .no))))
theorem w7:FOk Tryz.prog 147 su:=fk [(73,b9),(77,eM)] ⟨cn,fx,trivial⟩ Tryz.func147 (.t (.t (.two (.t (.loop [.s 4,.cur 0,.box 3 [(.own 3 (.int .i64)),(.own 124 C3)]] .no)) (.t (.two (.t (.loop [.s 5,.s 6,.cur 0,.box 3 [(.own 3 (.int .i64)),(.own 124 C3)]] .no)) .no)))))
theorem wo:FOk Tryz.prog 221 qQ:=fk [(50,db),(116,kD)] ⟨dO,l5,trivial⟩ Tryz.func221 .no
theorem FD:FOk Tryz.prog 155 xX:=fk [(221,qQ)] ⟨wo,trivial⟩ Tryz.func155 .no
theorem Jq:FOk Tryz.prog 311 Ca:=fk [(175,mG),(282,lB)] ⟨oN,oi,trivial⟩ Tryz.func311 .no
theorem ML:FOk Tryz.prog 269 D7:=fk [(281,pF),(311,Ca)] ⟨uC,Jq,trivial⟩ Tryz.func269 (.t (.two (.t (.loop [.s 3] .no)) .no))
theorem FE:FOk Tryz.prog 222 xY:=fk [(171,uh),(269,D7),(270,pC)] ⟨yn,ML,uz,trivial⟩ Tryz.func222 (.t (.t (.t (.two (.t (.loop [.s 6,.box 4 [(.own 172 Ah)]] .no)) .no))))
theorem MM:FOk Tryz.prog 223 D8:=fk [(73,b9)] ⟨cn,trivial⟩ Tryz.func223 .no
theorem w8:FOk Tryz.prog 156 sA:=fk [(222,xY),(223,D8)] ⟨FE,MM,trivial⟩ Tryz.func156 .no
theorem Jr:FOk Tryz.prog 271 Cb:=fk [(18,cV),(34,gy),(50,db),(51,eF)] ⟨dz,iU,dO,fN,trivial⟩ Tryz.func271 .no
theorem Js:FOk Tryz.prog 313 Cc:=fk [(18,cV),(50,db),(80,iT),(116,kD)] ⟨dz,dO,jB,l5,trivial⟩ Tryz.func313 .no
theorem yo:FOk Tryz.prog 357 qn:=fk [(34,gy),(51,eF),(169,wP)] ⟨iU,fN,Cy,trivial⟩ Tryz.func357 .no
theorem Jt:FOk Tryz.prog 409 Cd:=fk [(80,iT)] ⟨jB,trivial⟩ Tryz.func409 (.t (.t (.t (.two (.t (.loop [.s 4] (.t (.two (.t (.t (.loop [.s 5] .no))) .no)))) .no))))
theorem vG:FOk Tryz.prog 400 ox:=fk [(409,Cd)] ⟨Jt,trivial⟩ Tryz.func400 .no
theorem Ju:FOk Tryz.prog 382 Ce:=fk [(33,dU),(80,iT),(400,ox)] ⟨fj,jB,vG,trivial⟩ Tryz.func382 .no
theorem wq:FOk Tryz.prog 411 qR:=fk [] trivial Tryz.func411 (.t (.t (.two (.loop [.s 1,.s 7] .no) .no)))
theorem MN:FOk Tryz.prog 412 D9:=fk [] trivial Tryz.func412 (.t (.t (.two (.t (.loop [.slot 5 (.own 419 YO),.s 6] (.t (.join [.slot 5 (.own 419 YO)] (.join [.slot 5 (.own 419 YO)] .no .no) .no)))) .no)))
theorem FF:FOk Tryz.prog 413 xZ:=fk [] trivial Tryz.func413 .no
theorem PI:FOk Tryz.prog 414 HH:=fk [] trivial Tryz.func414 .no
theorem HS:FOk Tryz.prog 410 An:=fk [(227,mI),(411,qR),(412,D9),(413,xZ),(414,HH)] ⟨oO,wq,MN,FF,PI,trivial⟩ Tryz.func410 (.t (.t (.t (.t (.two (.t (.loop [.slot 9 (.own 421 ZW),.s 12] (.t (.two (.t (.t (.two (.t (.loop [.s 14,.s 15] (.t (.join [.s 14] .no .no)))) (.t (.loop [.slot 9 (.own 421 ZW),.s 17] (.t (.join [.slot 9 (.own 421 ZW)] .no .no))))))) .no)))) .no)))))
theorem HT:FOk Tryz.prog 401 Ao:=fk [(410,An)] ⟨HS,trivial⟩ Tryz.func401 (.t (.t (.t (.two (.t (.loop [.slot 8 (.own 3 y3),.s 9] .no)) (.t (.t (.two (.t (.loop [.row 8 3 y3,.slot 10 (.own 3 y3),.s 11] (.t (.two (.t (.t (.loop [.row 8 3 y3,.slot 10 (.own 3 y3),.s 13] (.t (.join [.row 8 3 y3,.slot 10 (.own 3 y3)] .no .no))))) .no)))) .no)))))))
theorem Dt:FOk Tryz.prog 402 vZ:=fk [(411,qR)] ⟨wq,trivial⟩ Tryz.func402 (.t (.t (.two (.t (.loop [.s 10] .no)) .no)))
theorem PJ:FOk Tryz.prog 403 HI:=fk [] trivial Tryz.func403 (.t (.t (.two (.t (.loop [.slot 3 (.own 3 y3),.s 4] (.t (.join [.slot 3 (.own 3 y3)] .no .no)))) .no)))
theorem Jv:FOk Tryz.prog 383 Cf:=fk [(401,Ao),(402,vZ),(403,HI)] ⟨HT,Dt,PJ,trivial⟩ Tryz.func383 (.t (.t (.t (.t (.two (.t (.loop [.s 9,.s 10] (.t (.join [.s 9] .no .no)))) .no)))))
theorem Du:FOk Tryz.prog 358 v7:=fk [(382,Ce),(383,Cf)] ⟨Ju,Jv,trivial⟩ Tryz.func358 (.t (.t (.two (.t (.loop [.slot 5 (.own 385 PF),.s 6] (.t (.two (.t (.t (.loop [.slot 5 (.own 385 PF),.s 8] .no))) .no)))) .no)))
theorem AL:FOk Tryz.prog 314 sW:=fk [(33,dU),(357,qn),(358,v7)] ⟨fj,yo,Du,trivial⟩ Tryz.func314 .no
theorem MO:FOk Tryz.prog 384 Ea:=fk [] trivial Tryz.func384 (.t (.two (.t (.loop [.s 5] .no)) .no))
theorem Jw:FOk Tryz.prog 404 Cg:=fk [] trivial Tryz.func404 .no
theorem MP:FOk Tryz.prog 385 Eb:=fk [(404,Cg)] ⟨Jw,trivial⟩ Tryz.func385 (.t (.t (.two (.loop [.s 5] .no) .no))) (an:=[(36,.bool)])
theorem zE:FOk Tryz.prog 359 rp:=fk [(384,Ea),(385,Eb)] ⟨MO,MP,trivial⟩ Tryz.func359 (.t (.t (.two (.t (.loop [.slot 5 (.own 385 PF),.s 6] (.t (.join [.slot 5 (.own 385 PF)] .no .no)))) .no)))
theorem AM:FOk Tryz.prog 315 sX:=fk [(359,rp)] ⟨zE,trivial⟩ Tryz.func315 .no
theorem Dv:FOk Tryz.prog 272 v8:=fk [(313,Cc),(314,sW),(315,sX)] ⟨Js,AL,AM,trivial⟩ Tryz.func272 .no
theorem CD:FOk Tryz.prog 224 uk:=fk [(271,Cb),(272,v8)] ⟨Jr,Dv,trivial⟩ Tryz.func224 .no
theorem Dw:FOk Tryz.prog 157 wc:=fk [(14,eG),(44,lL),(81,wQ),(224,uk)] ⟨fE,nj,Cz,CD,trivial⟩ Tryz.func157 .no
theorem yp:FOk Tryz.prog 159 qo:=fk [(18,cV),(50,db),(54,vq),(80,iT)] ⟨dz,dO,zD,jB,trivial⟩ Tryz.func159 .no (an:=[(28,.bool)])
theorem MQ:FOk Tryz.prog 225 Ec:=fk [(45,wO),(106,lC)] ⟨Cx,oj,trivial⟩ Tryz.func225 (.t (.t (.t (.two (.t (.loop [.slot 8 .str,.s 9,.row 6 84 (.bag y84)] (.t (.two (.at [.slot 8 .str,.row 6 84 (.bag y84)] .no) .no)))) .no))))
theorem zF:FOk Tryz.prog 158 rq:=fk [(14,eG),(44,lL),(159,qo),(225,Ec)] ⟨fE,nj,yp,MQ,trivial⟩ Tryz.func158 .no
theorem FG:FOk Tryz.prog 95 ya:=fk [(18,cV),(24,mH),(27,lM),(46,uj),(73,b9),(97,lY),(98,wS),(147,su),(155,xX),(156,sA),(157,wc),(158,rq)] ⟨dz,qu,pN,CB,cn,nk,CC,w7,FD,w8,Dw,zF,trivial⟩ Tryz.func95 (.t (.t (.two (.t (.loop [.s 5,.cur 0,.box 3 [(.num .i64),(.own 73 y73),(.own 141 kJ),(.own 126 vk),(.own 93 y93),.str]] .no)) (.two (.t (.loop [.s 6,.cur 0,.box 3 [(.num .i64),(.own 73 y73),(.own 141 kJ),(.own 126 vk),(.own 93 y93),.str]] (.t (.two (.at [.cur 0,.box 3 [(.num .i64),(.own 73 y73),(.own 141 kJ),(.own 126 vk),(.own 93 y93),.str]] .no) .no)))) .no)))) (tr:=[(70,0,.bool),(73,0,.bool),(126,0,.bool),(141,0,.bool)])
theorem CE:FOk Tryz.prog 203 um:=fk [(73,b9),(76,ni),(156,sA)] ⟨cn,rE,w8,trivial⟩ Tryz.func203 (.t (.t (.two (.t (.loop [.s 4,.cur 0,.box 3 [(.own 141 kJ),(.own 126 vk)]] .no)) .no)))
theorem Dx:FOk Tryz.prog 265 we:=fk [] trivial Tryz.func265 .no
theorem Ei: ∀n,FOk Tryz.prog 206 (vr n)
 | 0=>lh (f:=vr 0) (enters_of Tryz.func206 (by kernel_rfl) rfl) rfl (fun d=>rfl)
 | n+1=>by
  have a:=Ei n;exact fk [(73,b9),(77,eM),(97,lY),(206,(vr n)),(264,zr),(265,we),(266,vp)] ⟨cn,fx,nk,a,Eh,Dx,zC,trivial⟩ Tryz.func206 (.t (.t (.two (.t (.two (.t (.at [.slot 20 .boo] .no)) (.t (.two (.t (.at [.slot 33 .boo] .no)) .no)))) .no)))
theorem Ej:FOk Tryz.prog 139 zt:=fk [(73,b9),(97,lY),(156,sA),(206,(vr fV))] ⟨cn,nk,w8,(Ei fV),trivial⟩ Tryz.func139 .no
theorem FH:FOk Tryz.prog 263 yc:=fk [(73,b9),(97,lY)] ⟨cn,nk,trivial⟩ Tryz.func263 (.t (.t (.t (.two (.t (.loop [.s 5,.box 4 [(.num .i64),(.own 4 .bool),(.own 70 y70)],.cur 0] (.t (.two (.t (.two (.t (.loop [.slot 6 (.own 3 y3),.s 7,.cur 0] (.t (.two (.t (.two (.t (.at [.s 8,.cur 0] .no)) (.two (.t (.at [.s 8] .no)) .no))) .no)))) .no)) .no)))) .no))))
theorem MR:FOk Tryz.prog 204 Ed:=fk [(97,lY),(139,zt),(238,mF),(239,qO),(263,yc)] ⟨nk,Ej,qq,wk,FH,trivial⟩ Tryz.func204 .no
theorem MS:FOk Tryz.prog 136 Ee:=fk [(73,b9),(77,eM),(203,um),(204,Ed)] ⟨cn,fx,CE,MR,trivial⟩ Tryz.func136 (.t (.t (.two (.t (.at [.cur 0,.box 3 [(.own 141 kJ),(.own 126 vk)]] .no)) .no)))
theorem HU:FOk Tryz.prog 86 Ci:=fk [(73,b9),(77,eM),(147,su)] ⟨cn,fx,w7,trivial⟩ Tryz.func86 (.t (.t (.two (.t (.at [.cur 0,.box 3 [(.own 3 y3),(.own 124 C3)]] .no)) .no)))
theorem FI:FOk Tryz.prog 205 yd:=fk [(55,pG),(73,b9),(77,eM),(98,wS),(147,su),(221,qQ)] ⟨uD,cn,fx,CC,w7,wo,trivial⟩ Tryz.func205 (.t (.t (.two (.t (.loop [.s 5,.cur 0,.box 3 [(.num .i64),(.own 73 y73)]] .no)) .no))) (tr:=[(73,0,.bool)])
theorem PK:FOk Tryz.prog 137 HJ:=fk [(73,b9),(77,eM),(86,Ci),(205,yd)] ⟨cn,fx,HU,FI,trivial⟩ Tryz.func137 (.t (.t (.two (.t (.at [.cur 0,.box 3 [(.num .i64),(.own 73 y73)]] .no)) .no)))
theorem zG:FOk Tryz.prog 72 vt:=fk [(73,b9),(77,eM),(95,ya),(136,Ee),(137,HJ)] ⟨cn,fx,FG,MS,PK,trivial⟩ Tryz.func72 (.t (.t (.two (.t (.at [.cur 0,.box 3 [(.num .i64),(.own 73 y73),(.own 141 kJ),(.own 126 vk),(.own 93 y93),.str]] .no)) .no)))
theorem PL:FOk Tryz.prog 74 HK:=fk [(73,b9),(97,lY),(139,zt)] ⟨cn,nk,Ej,trivial⟩ Tryz.func74 (.t (.t (.two (.t (.at [.cur 0,.box 3 [(.own 172 Ah)]] (.t (.t (.t (.t (.t (.two (.two (.loop [.box 3 [(.own 172 Ah)]] .no) .no) .no)))))))) .no))) (an:=[(12,.bool)])
theorem tq:FOk Tryz.prog 22 mT:=fk [(71,ud),(72,vt),(73,b9),(74,HK)] ⟨yk,zG,cn,PL,trivial⟩ Tryz.func22 .no
theorem Ax:FOk Tryz.prog 210 uo:=fk [] trivial Tryz.func210 .no
theorem yq:FOk Tryz.prog 148 sB:=fk [(210,uo)] ⟨Ax,trivial⟩ Tryz.func148 .no
theorem CF:FOk Tryz.prog 100 uq:=fk [(148,sB)] ⟨yq,trivial⟩ Tryz.func100 (.t (.t (.two (.t (.loop [.s 12,.box 3 [(.num .i64),(.own 73 y73)]] .no)) .no)))
theorem zH:FOk Tryz.prog 163 rr:=fk [(210,uo)] ⟨Ax,trivial⟩ Tryz.func163 (.t (.t (.two (.t (.loop [.s 16,.box 3 [(.num .i64),(.own 4 y4),(.own 70 y70)]] .no)) .no)))
theorem om:FOk Tryz.prog 101 lD:=fk [(163,rr),(164,tV)] ⟨zH,Ap,trivial⟩ Tryz.func101 (.t (.t (.two (.t (.loop [.s 12,.box 3 [(.own 141 kJ),(.own 126 vk)]] .no)) (.two (.t (.loop [.s 27,.box 3 [(.own 141 kJ),(.own 126 vk)]] .no)) .no))))
theorem qS:FOk Tryz.prog 38 nJ:=fk [(100,uq),(101,lD)] ⟨CF,om,trivial⟩ Tryz.func38 .no
theorem jl:FOk Tryz.prog 140 dY:=Py (n:=2) (z:=(⟨.int .i64 0,rfl⟩,⟨.slice none 0 0,rfl⟩,⟨.int .i64 0,rfl⟩)) rfl rfl (fok (V:=⟨tt,[(207,⟨[],[],none,some (126,0)⟩)],[(12,.raw),(34,.raw),(43,.raw),(50,.raw),(53,.raw),(60,.str),(66,.raw),(73,.raw),(76,.raw),(80,.raw),(86,.raw),(91,.raw)],95,[]⟩) Df ⟨U7 (Zu (fn:=Tryz.f207) (tS:=28) (tR:=4) (E:=126) Tryz.func207 (by kernel_rfl) (by kernel_rfl) (by kernel_rfl) (by kernel_rfl) Tryz.underlying28 (TTok.get Df rfl).ti),trivial⟩ mixed Tryz.func140 rfl rfl (enters_of Tryz.func140 (by kernel_rfl) rfl) rfl (bC rfl) rfl .no (fun d=>by kernel_rfl))
theorem eJ:FOk Tryz.prog 141 cH:=Td (n:=2) rfl (Pw (t:=gU 2) (V:=⟨tt,[],[(5,(.prod .raw (.prod .raw .raw)))],8,[]⟩) Df trivial mixed Tryz.func141 rfl rfl (enters_of Tryz.func141 (by kernel_rfl) rfl) (bC rfl) .no rfl (fun a b=>by cases a <;> kernel_rfl))
theorem zI:FOk Tryz.prog 75 ru:=fk [(58,iS),(60,mE),(101,lD),(120,vm),(140,dY),(141,cH)] ⟨lN,oM,om,zA,jl,eJ,trivial⟩ Tryz.func75 (.t (.t (.t (.two (.loop [.s 8] .no) .no)))) (an:=[(47,.fro vk)])
theorem yr:FOk Tryz.prog 23 qp:=fk [(17,iu),(38,nJ),(75,ru)] ⟨kF,qS,zI,trivial⟩ Tryz.func23 .no
theorem sC:FOk Tryz.prog 25 mJ:=fk [(71,ud),(72,vt),(73,b9),(77,eM)] ⟨yk,zG,cn,fx,trivial⟩ Tryz.func25 .no
theorem dC:FOk Tryz.prog 142 cw:=fk [] trivial Tryz.func142 (.t (.two (.t (.loop [.s 8] .no)) .no))
theorem AN:FOk Tryz.prog 143 sY:=fk [] trivial Tryz.func143 .no
theorem Dy:FOk Tryz.prog 78 wg:=fk [(142,cw),(143,sY)] ⟨dC,AN,trivial⟩ Tryz.func78 .no
theorem jm:FOk Tryz.prog 79 dZ:=Py (n:=2) (z:=(⟨.int .i64 0,rfl⟩,⟨.int .i64 0,rfl⟩,⟨.int .i64 0,rfl⟩)) rfl rfl (fok (V:=⟨tt,[(144,⟨[],[],none,some (93,0)⟩)],[(12,.raw),(34,.raw),(43,.raw),(50,.raw),(53,.raw),(60,.str),(66,.raw),(73,.raw),(76,.raw),(80,.raw),(86,.raw),(91,.raw)],95,[]⟩) Df ⟨U7 (Zu (fn:=Tryz.f144) (tS:=31) (tR:=4) (E:=93) Tryz.func144 (by kernel_rfl) (by kernel_rfl) (by kernel_rfl) (by kernel_rfl) Tryz.underlying31 (TTok.get Df rfl).ti),trivial⟩ mixed Tryz.func79 rfl rfl (enters_of Tryz.func79 (by kernel_rfl) rfl) rfl (bC rfl) rfl .no (fun d=>by kernel_rfl))
theorem w9:FOk Tryz.prog 26 pH:=fk [(17,iu),(38,nJ),(59,jh),(60,mE),(78,wg),(79,dZ)] ⟨kF,qS,kE,oM,Dy,jm,trivial⟩ Tryz.func26 (.t (.t (.t (.t (.two (.loop [.s 9] .no) .no)))))
theorem rF:FOk Tryz.prog 28 lZ:=fk [(71,ud),(72,vt),(73,b9)] ⟨yk,zG,cn,trivial⟩ Tryz.func28 .no
theorem jn:FOk Tryz.prog 146 ej:=XC (n:=2) (z:=(⟨.int .i64 0,rfl⟩,⟨.slice none 0 0,rfl⟩,⟨.int .i64 0,rfl⟩)) rfl rfl (fok (V:=⟨tt,[],[(13,.raw),(22,.raw),(25,.raw),(31,.raw)],33,[]⟩) Df trivial mixed Tryz.func146 rfl rfl (enters_of Tryz.func146 (by kernel_rfl) rfl) rfl (bC rfl) rfl .no (fun d=>by kernel_rfl))
theorem xa:FOk Tryz.prog 82 pI:=fk [(58,iS),(60,mE),(101,lD),(120,vm),(141,cH),(146,ej)] ⟨lN,oM,om,zA,eJ,jn,trivial⟩ Tryz.func82 .no
theorem iw:FOk Tryz.prog 83 dy:=fk [(142,cw)] ⟨dC,trivial⟩ Tryz.func83 (.t (.t (.t (.two (.t (.loop [.s 5,.s 6,.row 0 93 y93] (.t (.two (.at [.s 5,.row 0 93 y93] .no) .no)))) .no)))) (an:=[(38,.raw),(41,.raw)])
theorem tu:FOk Tryz.prog 84 mU:=fk [] trivial Tryz.func84 .no
theorem vH:FOk Tryz.prog 29 oy:=fk [(17,iu),(38,nJ),(82,pI),(83,dy),(84,mU)] ⟨kF,qS,xa,iw,tu,trivial⟩ Tryz.func29 .no
theorem xb:FOk Tryz.prog 85 pJ:=fk [(34,gy),(51,eF),(104,sp),(114,qm)] ⟨iU,fN,wZ,uA,trivial⟩ Tryz.func85 .no (an:=[(22,(.fro vk))])
theorem vI:FOk Tryz.prog 30 oz:=fk [(14,eG),(44,lL),(85,pJ)] ⟨fE,nj,xb,trivial⟩ Tryz.func30 (.t (.t (.t (.t (.t (.t (.two (.t (.loop [.s 9,.box 6 [(.num .i64),(.own 73 y73),(.own 141 kJ),(.own 126 vk),(.own 93 y93),.str]] (.t (.join [.box 6 [(.num .i64),(.own 73 y73),(.own 141 kJ),(.own 126 vk),(.own 93 y93),.str]] .no .no)))) .no)))))))
theorem zJ:FOk Tryz.prog 31 rv:=fk [(71,ud),(86,Ci)] ⟨yk,HU,trivial⟩ Tryz.func31 .no
theorem Dz:FOk Tryz.prog 87 wh:=fk [(57,jA),(148,sB)] ⟨mK,yq,trivial⟩ Tryz.func87 .no
theorem FJ:FOk Tryz.prog 32 ye:=fk [(87,wh)] ⟨Dz,trivial⟩ Tryz.func32 .no
theorem zK:FOk Tryz.prog 5 zu:=fk [(7,PG),(11,sO),(17,iu),(22,mT),(23,qp),(24,mH),(25,mJ),(26,pH),(27,lM),(28,lZ),(29,oy),(30,oz),(31,rv),(32,ye),(33,dU),(34,gy)] ⟨XK,AE,kF,tq,yr,qu,sC,w9,pN,rF,vH,vI,zJ,FJ,fj,iU,trivial⟩ Tryz.func5 .no
end R
namespace D
open Go.RowKit
theorem zL (d:List Int) (r:Bool) (g:kC d=some r) {I:Hp} {w0:World} (a:Value) (b:(ax 5 rU8).rd I [a] d) (h:Lay Tryz.prog I):Con Tryz.prog 5 #[a] I w0 [] (fun v=>v= .bool r) (fun _=>[]):=fun w C k =>
 ((R.zK).con rfl w0 I undef [a] (d,()) r h ⟨_,_,rfl,⟨[a],rfl,b⟩,rfl⟩ g w C k).mono fun e j ⟨v,i,_,c⟩=>by
  obtain ⟨h1,f⟩:=R.xy (h1:=fun _=>rfl) (show St I w0 j (Ch.own R.Ty.bool.rep [v] r::C) from c);exact ⟨v,i,(List.cons.inj h1).1,f⟩
def I64 (n:Int):Prop:= -9223372036854775808<=n/\n<=9223372036854775807
class Data (α:Type) where
 lim:α->Prop
 sm:α->Prop
instance:Data Int:=⟨I64,fun _=>True⟩
instance:Data Bool:=⟨fun _=>True,fun _=>True⟩
instance:Data ByteArray:=⟨fun s=>s.size<=9223372036854775807,fun s=>s.size<=1048576⟩
instance {α β:Type} [Data α] [Data β] :Data (α×β):=⟨fun x=>Data.lim x.1/\Data.lim x.2,fun x=>Data.sm x.1/\Data.sm x.2⟩
instance {α:Type} [Data α] :Data (List α):=⟨fun xs=>xs.length<=9223372036854775807/\ ∀x,x∈xs->Data.lim x,fun xs=>xs.length<=1048576/\ ∀x,x∈xs->Data.sm x⟩
structure Opens (P:Program) (t:TypeId) {α:Type} [Data α] (R:Rep α):Prop where
 out: ∀ {H:Type} (enc:TypeId×Value->H) (w:World) (fuel:Nat) (cs:List Value) (x:DataW H×List MemPlace),DataW.trod enc P w 0 (fun _=>true) true fuel t cs=some x-> ∃a:α,R.rd (hp w) cs a/\Data.lim a
theorem Tm {P:Program} {t:TypeId} (h:P.underlying t=some (.int .u8)):Opens P t rU8:=by
 constructor;intro H a w fuel d x b;obtain ⟨n,rfl,-,c⟩:=DataW.trod_int h b;refine ⟨n,rfl,show I64 n from ?_⟩;simp[Lit.wf,IntKind.min,IntKind.max,IntKind.signed,IntKind.bits] at c;unfold I64;omega
theorem Jx {P:Program} {t e:TypeId} {α:Type} [Data α] {R:Rep α} {E:TypeId} (h:P.underlying t=some (.slice e)) (hc:P.cellsOf e=R.size) (h0:0<R.size) (N:Opens P e R):Opens P t (ax E R):=by
 constructor;intro H G w fuel cs x C;rcases Go.Deep.open_slice h C with ⟨rfl,-⟩ | ⟨a,len,cap,m,n,D,Pl,rfl,-,hl,Q,I,-,A⟩
 ·exact ⟨[],⟨none,0,rfl,by simp,.inl rfl⟩,Nat.zero_le _,fun x C=>by cases C⟩
 have M:m=cap:=by simpa using I
 subst M;rw[hc] at A;by_cases hz:len=0
 ·subst hz;exact ⟨[],⟨some a,m,rfl,by simp,.inl rfl⟩,Nat.zero_le _,fun x C=>by cases C⟩
 ·have q: ∀i,i<len-> ∃c:List Value,∃y:α,c.length=R.size/\(∀j,j<R.size->w.cell? ((a.add (i*R.size)).add j)=c[j]?)/\R.rd (hp w) c y/\Data.lim y:=by
   intro i k;obtain ⟨c,F,u⟩:=A i (by omega);obtain ⟨-,L,Z⟩:=World.cells?_some F;obtain ⟨y,l⟩:=N.out G w _ _ _ u;exact ⟨c,y,L,Z,l⟩
  obtain ⟨c0,y0,W,K,-⟩:=q 0 (by omega);have f:=K 0 h0;have r: ∃v,c0[0]? =some v:=⟨_,List.getElem?_eq_getElem (by omega)⟩;obtain ⟨v,hv⟩:=r;rw[hv] at f;have ha:(a.add (0*R.size)).add 0=a:=by simp[Addr.add]
  rw[ha] at f;obtain ⟨b,off,spot⟩:=a;have hb: ∃d T z,w.heap[b]? =some (.cells d T z)/\spot=none:=by
   simp only[World.cell?] at f;split at f
   ·rename_i d T z J;cases spot with
    | none=>exact ⟨d,T,z,J,rfl⟩
    | some s=>simp at f
   ·simp at f
  obtain ⟨d,T,z,O,rfl⟩:=hb;have B: ∀i j,(Addr.add ⟨b,off,none⟩ i).add j=⟨b,off+i+j,none⟩:=by
   intro i j;by_cases F:i=0 <;> by_cases u:j=0 <;> simp[Addr.add,F,u,Nat.add_assoc]
  haveI:Inhabited α:=⟨y0⟩
  obtain ⟨X,S⟩:=Go.Deep.choose_lt (α:=α) (n:=len) (p:=fun i y=> ∃c:List Value,c.length=R.size/\(∀j,j<R.size->d.toList[off+i*R.size+j]? =c[j]?)/\R.rd (hp w) c y/\Data.lim y) (fun i k=>by
   obtain ⟨c,y,F,u,L⟩:=q i k;refine ⟨y,c,F,fun j U=>?_,L⟩
   have:=u j U
   rw[B] at this;simp only[World.cell?,O] at this;simpa using this)
  have g:((List.range len).map X).length=len:=by simp
  have o: ∀i y,((List.range len).map X)[i]? =some y->i<len/\y=X i:=fun i y l=>by
   have k:i<len:=by have:=(List.getElem?_eq_some_iff.1 l).1;omega
   exact ⟨k,by simpa [k] using l.symm⟩
  refine ⟨(List.range len).map X,⟨some ⟨b,off,none⟩,m,by rw[g],by rw[g];unfold maxLen at Q;unfold lim;omega,.inr ⟨b,off,d,T,z,rfl,O,fun i y l=>?_⟩⟩,by rw[g];unfold maxLen at Q;omega,fun y l=>?_⟩
  ·obtain ⟨k,rfl⟩:=o i y l;obtain ⟨c,Y,e2,V,-⟩:=S i k;exact ⟨c,Y,e2,V⟩
  ·obtain ⟨i,k,N⟩:=List.mem_iff_getElem?.1 l |>.imp fun i k=>o i y k;obtain ⟨-,-,-,-,e4⟩:=S i k;rw[N];exact e4
theorem St.below {w0 w:World} {cs:List Ch} (h:St (hp w0) w0 w cs):Below w0.heap.size w0 w:=by
 obtain ⟨⟨i,c,f,a⟩,g,-⟩:=h;refine ⟨i,c,f,a,fun b d=>?_⟩;have e:w0.heap[b]? =some w0.heap[b]:=Array.getElem?_eq_getElem d;rw[e];exact g b _ e
theorem bQ {n:Int} (h1: -9223372036854775808<=n) (a:n<=9223372036854775807):i64.wrap n=n:=by
 simp only[IntKind.wrap,IntKind.bits,IntKind.signed,Bool.true_and];split <;> rename_i h <;> simp at h <;> omega
theorem af {i:Nat} (h:i<9223372036854775807):i64.wrap ((i:Int)+1)=((i+1:Nat):Int):=by
 rw[bQ (by omega) (by omega)];rfl
theorem aK {α:Type} {xs:List α} {i:Nat} (h:i<xs.length):aU xs (i:Int)=some (xs[i]):=by
 unfold aU;rw[if_pos (Int.natCast_nonneg _)];simp[h]
theorem bT {i n:Nat} (h:i<n):decide ((i:Int)<(n:Int))=true:=by simp[h]
theorem bS {n:Nat} :decide ((n:Int)<(n:Int))=false:=by simp
theorem de (k:Nat) (h:k<=9223372036854775807):k<aW:=by unfold aW;omega
theorem HV {R S:Type} {f:S->Option (Out R S)} (inv:Nat->S) (N:Nat) (h: ∀i,i<N->f (inv i)=some (.nxt (inv (i+1)))): ∀(m i k:Nat),i+m=N->al f (k+m) (inv i)=al f k (inv N)
 | 0,i,k,e=>by rw[show i=N by omega];rfl
 | m+1,i,k,e=>by
  rw[<-Nat.add_assoc,al,h i (by omega)];exact HV inv N h m (i+1) k (by omega)
theorem PN {R S:Type} {f:S->Option (Out R S)} (inv:Nat->S) (N:Nat) {s:S} (h: ∀i,i<N->f (inv i)=some (.nxt (inv (i+1)))) (a:f (inv N)=some (.brk s)) (b:N<aW):al f aW (inv 0)=some (.brk s):=by
 have e:aW=(aW - N - 1)+1+N:=by omega
 rw[e,HV inv N h N 0 _ (by omega),al,a]
theorem acW {α:Type} [Data α] {f:Int×Int->Option (Out Int (Int×Int))} (xs:List α)
  (a: ∀i (h:i<xs.length) l,0<=l->l<=1048576-> ∃r,f (l,(i:Int))=some (if r<0 then .ret (-1) else .nxt (r,((i+1:Nat):Int)))/\(r<0\/(0<=r/\r<=l/\Data.sm xs[i])))
  (b: ∀l,f (l,(xs.length:Int))=some (.brk (l,(xs.length:Int)))): ∀(m i k:Nat) (l:Int),i+m=xs.length->m<k->0<=l->l<=1048576->
   al f k (l,(i:Int))=some (.ret (-1))\/ ∃r,al f k (l,(i:Int))=some (.brk (r,(xs.length:Int)))/\0<=r/\r<=l/\ ∀j (h:j<xs.length),i<=j->Data.sm xs[j]
 | 0,i,k,l,e,hk,h0,h1=>by
  obtain ⟨k,rfl⟩: ∃q,k=q+1:=⟨k - 1,by omega⟩;obtain rfl:i=xs.length:=by omega
  exact .inr ⟨l,by rw[al,b],h0,Int.le_refl _,fun j g u=>by omega⟩
 | m+1,i,k,l,e,hk,h0,h1=>by
  obtain ⟨k,rfl⟩: ∃q,k=q+1:=⟨k - 1,by omega⟩;obtain ⟨r,o,c⟩:=a i (by omega) l h0 h1;rw[al,o];rcases c with c | ⟨c,w,s⟩
  ·rw[if_pos c];exact .inl rfl
  ·rw[if_neg (by omega)];rcases acW xs a b m (i+1) k r (by omega) (by omega) c (by omega) with h | ⟨q,p,t,v,n⟩
   ·exact .inl h
   ·refine .inr ⟨q,p,t,by omega,fun j g u=>?_⟩;by_cases d:j=i
    ·subst d;exact s
    ·exact n j g (by omega)
theorem szL {α:Type} [Data α] {f:Int×Int->Option (Out Int (Int×Int))} (xs:List α) {l:Int} (g:xs.length<=9223372036854775807)
  (a: ∀i (h:i<xs.length) l,0<=l->l<=1048576-> ∃r,f (l,(i:Int))=some (if r<0 then .ret (-1) else .nxt (r,((i+1:Nat):Int)))/\(r<0\/(0<=r/\r<=l/\Data.sm xs[i])))
  (b: ∀l,f (l,(xs.length:Int))=some (.brk (l,(xs.length:Int)))) (o:0<=l) (h1:l<=1048576) :
  ∃r,(if decide (i64.wrap (l - (xs.length:Int))<0) then (some (-1)) else (aO (al f aW (i64.wrap (l - (xs.length:Int)),0)) (fun r=>some r) (fun m=>some m.1)))=some r/\(r<0\/(0<=r/\r<=l/\Data.sm xs)):=by
 rw[bQ (by omega) (by omega)];by_cases h:l - (xs.length:Int)<0
 ·exact ⟨-1,by rw[if_pos (decide_eq_true h)],.inl (by decide)⟩
 ·rw[if_neg (by simpa using h)];rcases acW xs a b xs.length 0 aW (l - xs.length) (by omega) (de _ g) (by omega) (by omega) with e | ⟨r,e,k,p,d⟩
  ·exact ⟨-1,by rw[show ((0:Int))=((0:Nat):Int) from rfl,e];rfl,.inl (by decide)⟩
  ·refine ⟨r,by rw[show ((0:Int))=((0:Nat):Int) from rfl,e];rfl,.inr ⟨k,by omega,by omega,fun x n=>?_⟩⟩;obtain ⟨j,c,rfl⟩:=List.getElem_of_mem n;exact d j c (Nat.zero_le _)
theorem ab1 {α:Type} [DecidableEq α] {f:Int->Option (Out Bool Int)} (xs ys:List α) (g:xs.length=ys.length)
  (a: ∀i (h:i<xs.length) (n:i<ys.length),f (i:Int)=some (if xs[i] =ys[i] then .nxt ((i+1:Nat):Int) else .ret false)) (b:f (xs.length:Int)=some (.brk (xs.length:Int))): ∀(m i k:Nat),i+m=xs.length->m<k->
   al f k (i:Int)=some (if xs.drop i=ys.drop i then .brk (xs.length:Int) else .ret false)
 | 0,i,k,e,hk=>by
  obtain ⟨k,rfl⟩: ∃q,k=q+1:=⟨k - 1,by omega⟩;obtain rfl:i=xs.length:=by omega
  rw[al,b,List.drop_of_length_le (aF _),List.drop_of_length_le (by omega),if_pos rfl]
 | m+1,i,k,e,hk=>by
  obtain ⟨k,rfl⟩: ∃q,k=q+1:=⟨k - 1,by omega⟩;have d:i<xs.length:=by omega
  have c:i<ys.length:=by omega
  have l:=List.drop_eq_getElem_cons d;have j:=List.drop_eq_getElem_cons c;rw[al,a i d c,l,j];by_cases h:xs[i] =ys[i]
  ·rw[if_pos h];simp only;rw[ab1 xs ys g a b m (i+1) k (by omega) (by omega)];simp only[List.cons.injEq,h,true_and]
  ·rw[if_neg h];simp only[List.cons.injEq,h,false_and,if_false]
theorem eqL {α:Type} [DecidableEq α] {f:Int->Option (Out Bool Int)} (xs ys:List α) (d:xs.length<=9223372036854775807)
  (a: ∀i (h:i<xs.length) (g:i<ys.length),f (i:Int)=some (if xs[i] =ys[i] then .nxt ((i+1:Nat):Int) else .ret false)) (b:f (xs.length:Int)=some (.brk (xs.length:Int))) :
  (if (xs.length:Int) !=(ys.length:Int) then (some false) else (aO (al f aW 0) (fun r=>some r) (fun j=>some true)))=some (decide (xs=ys)):=by
 by_cases c:xs.length=ys.length
 ·rw[if_neg (by rw[c];simp),show ((0:Int))=((0:Nat):Int) from rfl,ab1 xs ys c a b xs.length 0 aW (by omega) (de _ d)];by_cases h:xs=ys
  ·subst h;simp[aO]
  ·simp[aO,h]
 ·have:xs≠ys:=fun e=>c (by rw[e])
  rw[if_pos (by simp;omega)];simp[this]
theorem PO {α:Type} {c d:Prop} [Decidable c] [Decidable d] {a b:α} (h:c↔d):(if c then some a else some b)=some (if d then a else b):=by
 by_cases k:c
 ·rw[if_pos k,if_pos (h.1 k)]
 ·rw[if_neg k,if_neg (fun e=>k (h.2 e))]
theorem eqB {α:Type} [DecidableEq α] {f:Int->Option (Out Bool Int)} {K:Option Bool} (xs ys:List α) (c:xs.length<=9223372036854775807) (d:xs.length=ys.length)
  (a: ∀i (h:i<xs.length) (e:i<ys.length),f (i:Int)=some (if xs[i] =ys[i] then .nxt ((i+1:Nat):Int) else .ret false)) (b:f (xs.length:Int)=some (.brk (xs.length:Int))) :
  aO (al f aW 0) (fun r=>some r) (fun g=>K)=(if xs=ys then K else some false):=by
 rw[show ((0:Int))=((0:Nat):Int) from rfl,ab1 xs ys d a b xs.length 0 aW (by omega) (de _ c)];by_cases h:xs=ys
 ·subst h;simp[aO]
 ·simp[aO,h]
theorem Z0 {f:Int->Option (Out Int Int)} (xs ys:List Int)
  (b: ∀i (h:i<xs.length) (u:i<ys.length),f (i:Int)=some (if xs[i] < ys[i] then .ret (-1) else if xs[i] > ys[i] then .ret 1 else .nxt ((i+1:Nat):Int))) (a: ∀i,xs.length<=i\/ys.length<=i->f (i:Int)=some (.brk (i:Int))): ∀(m i k:Nat),i+m=xs.length->m<k->
   (∃r,al f k (i:Int)=some (.ret r)/\r≠0/\xs≠ys)\/ ∃s,al f k (i:Int)=some (.brk s)/\(xs.length=ys.length->xs.drop i=ys.drop i)
 | 0,i,k,e,hk=>by
  obtain ⟨k,rfl⟩: ∃q,k=q+1:=⟨k - 1,by omega⟩;exact .inr ⟨_,by rw[al,a i (.inl (by omega))],fun h=>by rw[List.drop_of_length_le (by omega),List.drop_of_length_le (by omega)]⟩
 | m+1,i,k,e,hk=>by
  obtain ⟨k,rfl⟩: ∃q,k=q+1:=⟨k - 1,by omega⟩;have j:i<xs.length:=by omega
  by_cases d:i<ys.length
  ·have c: ∀h:xs[i] ≠ys[i],xs≠ys:=fun h e=>h (by subst e;rfl);rw[al,b i j d];by_cases l:xs[i] < ys[i]
   ·rw[if_pos l];exact .inl ⟨-1,rfl,by decide,c (by omega)⟩
   ·rw[if_neg l];by_cases g:xs[i] > ys[i]
    ·rw[if_pos g];exact .inl ⟨1,rfl,by decide,c (by omega)⟩
    ·rw[if_neg g];rcases Z0 xs ys b a m (i+1) k (by omega) (by omega) with h | ⟨s,n,p⟩
     ·exact .inl h
     ·refine .inr ⟨s,n,fun o=>?_⟩;have t:xs[i] =ys[i]:=by omega
      rw[List.drop_eq_getElem_cons j,List.drop_eq_getElem_cons d,p o,t]
  ·exact .inr ⟨_,by rw[al,a i (.inr (by omega))],fun h=>by omega⟩
instance:LawfulBEq ByteArray where
 eq_of_beq {a b} h:=ByteArray.ext (eq_of_beq (show (a.data==b.data)=true from h))
 rfl {a}:=beq_self_eq_true a.data
theorem adj {α β γ:Type} {a b:α×β×γ} :(a.1=b.1/\a.2.1=b.2.1/\a.2.2=b.2.2)↔a=b:=by rw[Prod.ext_iff,Prod.ext_iff]
theorem adk {α β γ δ:Type} {a b:α×β×γ×δ} :(a.1=b.1/\a.2.1=b.2.1/\a.2.2.1=b.2.2.1/\a.2.2.2=b.2.2.2)↔a=b:=by rw[Prod.ext_iff,Prod.ext_iff,Prod.ext_iff]
theorem gJ {α β:Type} (p:α×β):(p.1,p.2)=p:=rfl
theorem aQ {α:Type} [Data α] {xs:List α} (h:Data.sm xs):xs.length<=1048576/\ ∀x,x∈xs->Data.sm x:=h
theorem b8 {R S:Type} {f:S->Option (Out R S)} (Inv:Nat->S->Prop) (Q:Out R S->Prop) (N:Nat)
  (h: ∀i s,i<=N->Inv i s->(i<N/\ ∃a,f s=some (.nxt a)/\Inv (i+1) a)\/ ∃o,f s=some o/\(∀a,o≠ .nxt a)/\Q o) {s:S} (l:Inv 0 s) (p:N<aW): ∃o,al f aW s=some o/\Q o:=by
 have key: ∀(k i:Nat) (s:S),i<=N->N<i+k->Inv i s-> ∃o,al f k s=some o/\Q o:=by
  intro k;induction k with
  | zero=>intro i s d g;omega
  | succ k ih =>
   intro i s d g m;rcases h i s d m with ⟨q,a,e,b⟩ | ⟨o,e,j,c⟩
   ·obtain ⟨o,n,c⟩:=ih (i+1) a (by omega) (by omega) b;exact ⟨o,by rw[al,e];exact n,c⟩
   ·refine ⟨o,?_,c⟩;rw[al,e];cases o with
    | nxt a=>exact absurd rfl (j a)
    | brk a=>rfl
    | ret r=>rfl
 exact key aW 0 s (by omega) (by omega) l
theorem fO {R S:Type} {f:S->Option (Out R S)} (Inv:Nat->S->Prop) (N:Nat) (h: ∀i s,i<N->Inv i s-> ∃a,f s=some (.nxt a)/\Inv (i+1) a) (j: ∀s,Inv N s->f s=some (.brk s)) {s:S} (g:Inv 0 s) (d:N<aW): ∃a,al f aW s=some (.brk a)/\Inv N a:=by
 obtain ⟨o,e,a,rfl,h⟩:=b8 (f:=f) Inv (fun o=> ∃a,o= .brk a/\Inv N a) N (fun i s k b=>by
  by_cases c:i<N
  ·exact .inl ⟨c,h i s c b⟩
  ·obtain rfl:i=N:=by omega
   exact .inr ⟨_,j s b,(fun a e=>by cases e),s,rfl,b⟩) g d
 exact ⟨a,e,h⟩
theorem aY {R S:Type} {f:S->Option (Out R S)} (a:Nat->S) (N:Nat) (h: ∀i,i<N->f (a i)=some (.nxt (a (i+1)))) (c:f (a N)=some (.brk (a N))) (b:N<aW):al f aW (a 0)=some (.brk (a N)):=PN a N h c b
theorem oP {k:Nat} (h:k<=9223372036854775807):k<aW:=de k h
theorem FK {i:Nat} (h:i<=9223372036854775807):i64.wrap (i:Int)=(i:Int):=bQ (by omega) (by omega)
theorem j7 {i:Nat} (h:i<=9223372036854775807):i64.wrap ((i:Int) - 1)=(i:Int) - 1:=bQ (by omega) (by omega)
theorem aw {α:Type} {b:Nat} {xs ys:List α} (h:(xs.length+ys.length)*b<=140737488355328):bA b xs ys=some (xs++ys):=by unfold bA;rw[if_pos h]
theorem XL {i n:Nat} :decide ((i:Int)<(n:Int))=decide (i<n):=by simp
theorem bI {R S T:Type} {x:Option (Out R S)} {r:R} {a:R->Option T} {k:S->Option T} (h:x=some (.ret r)):aO x a k=a r:=by rw[h];rfl
theorem ah {R S T:Type} {x:Option (Out R S)} {s:S} {a:R->Option T} {k:S->Option T} (h:x=some (.brk s)):aO x a k=k s:=by rw[h];rfl
def nth {α:Type} [Inhabited α] (xs:List α) (i:Int):α:=xs.getD i.toNat default
section
variable {α:Type} [Inhabited α] {xs ys:List α}
theorem aA {i:Int} (a:0<=i) (h1:i<xs.length):aU xs i=some (nth xs i):=by
 unfold aU nth;rw[if_pos a]
 have:i.toNat<xs.length:=by omega
 simp[List.getD_eq_getElem?_getD,this]
theorem cB {i:Nat} (h:i<xs.length):nth xs (i:Int)=xs[i]:=by simp[nth,List.getD_eq_getElem?_getD,h]
theorem cZ {i:Int} (a:0<=i) (h1:i<xs.length):nth xs i∈xs:=by
 have:i.toNat<xs.length:=by omega
 have e:nth xs i=xs[i.toNat]:=by simp[nth,List.getD_eq_getElem?_getD,this]
 rw[e];exact List.getElem_mem this
theorem j8 {i:Int} (a:0<=i) (h1:i<xs.length):nth (xs++ys) i=nth xs i:=by
 have:i.toNat<xs.length:=by omega
 simp[nth,List.getD_eq_getElem?_getD,List.getElem?_append_left this]
theorem XM {β:Type} [Inhabited β] {f:α->β} {i:Int} (a:0<=i) (h1:i<xs.length):nth (xs.map f) i=f (nth xs i):=by
 have:i.toNat<xs.length:=by omega
 simp[nth,List.getD_eq_getElem?_getD,this]
theorem CG {x:α} (h:x∈xs): ∃i:Nat,i<xs.length/\nth xs (i:Int)=x:=by
 obtain ⟨i,a,rfl⟩:=List.getElem_of_mem h;exact ⟨i,a,cB a⟩
theorem qv {i:Int} {x:α} (a:0<=i) (h1:i<xs.length):nth (xs.set i.toNat x) i=x:=by
 have:i.toNat<xs.length:=by omega
 simp[nth,List.getD_eq_getElem?_getD,this]
theorem vu {i j:Int} {x:α} (b:0<=i) (a:0<=j) (h:i≠j):nth (xs.set i.toNat x) j=nth xs j:=by
 have:i.toNat≠j.toNat:=by omega
 simp[nth,List.getD_eq_getElem?_getD,List.getElem?_set_ne this]
theorem XN (h:xs.length=ys.length) (k: ∀i:Nat,i<xs.length->nth xs (i:Int)=nth ys (i:Int)):xs=ys:=by
 refine List.ext_getElem h fun i a b=>?_
 have:=k i a
 rwa [cB a,cB b] at this
end
section
variable {κ:Type} [DecidableEq κ]
def nbL (l:List κ):Option κ->List κ
 | none=>l
 | some x=>if x∈l then l else l++ [x]
def nbI (l:List κ):Option κ->Int
 | none=> -1
 | some x=>(l.idxOf x:Int)
def nbS (l:List κ) (os:List (Option κ)):List κ:=os.foldl nbL l
def nbR (l:List κ):List (Option κ)->List Int
 | [] =>[]
 | o::os=>nbI l o::nbR (nbL l o) os
theorem yt (l:List κ) (os:List (Option κ)) (o:Option κ):nbS l (os++ [o])=nbL (nbS l os) o:=by simp[nbS]
theorem vv: ∀(l:List κ) (os:List (Option κ)) (o:Option κ),nbR l (os++ [o])=nbR l os++ [nbI (nbS l os) o]
 | l,[],o=>rfl
 | l,p::os,o=>by
  show nbI l p::nbR (nbL l p) (os++ [o])=nbI l p::nbR (nbL l p) os++ [nbI (nbS (nbL l p) os) o];rw[vv (nbL l p) os o];rfl
theorem ji: ∀(l:List κ) (os:List (Option κ)),(nbR l os).length=os.length
 | l,[] =>rfl
 | l,o::os=>by show (nbR (nbL l o) os).length+1=_;rw[ji];rfl
theorem MT (l : List κ) (o : Option κ) : l <+: nbL l o := by
  cases o with
  | none => exact List.prefix_refl l
  | some x => unfold nbL; simp only; split
              · exact List.prefix_refl l
              · exact List.prefix_append l [x]
theorem nl: ∀(l:List κ) (os:List (Option κ)),l <+:nbS l os
 | l,[] =>List.prefix_refl l
 | l,o::os=>(MT l o).trans (nl (nbL l o) os)
theorem PP {l : List κ} {o : Option κ} (h : l.Nodup) : (nbL l o).Nodup := by
  cases o with
  | none => exact h
  | some x => unfold nbL; simp only; split
              · exact h
              · rename_i d; exact List.nodup_append.2 ⟨h, by simp, by rintro a e b c rfl; simp at c; exact d (c ▸ e)⟩
theorem uE: ∀ {l:List κ} {os:List (Option κ)},l.Nodup->(nbS l os).Nodup
 | l,[],h=>h
 | l,o::os,h=>uE (l:=nbL l o) (os:=os) (PP h)
theorem PQ {l : List κ} {o : Option κ} {x : κ} : x ∈ nbL l o ↔ x ∈ l \/ o = some x := by
  cases o with
  | none => simp [nbL]
  | some y => unfold nbL; simp only; split
              · rename_i h; constructor
                · exact .inl
                · rintro (a | a)
                  · exact a
                  · simp at a; exact a ▸ h
              · simp; exact or_congr Iff.rfl eq_comm
theorem zM: ∀ {l:List κ} {os:List (Option κ)} {x:κ},x∈nbS l os↔x∈l\/some x∈os
 | l,[],x=>by simp[nbS]
 | l,o::os,x=>by
  show x∈nbS (nbL l o) os↔_;rw[zM,PQ,List.mem_cons,or_assoc];exact or_congr Iff.rfl (or_congr eq_comm Iff.rfl)
theorem oo {l:List κ} {x:κ} (h:x∈l):nbL l (some x)=l:=by simp[nbL,h]
theorem oq {l:List κ} {x:κ} (h:x∉l):nbL l (some x)=l++ [x]:=by simp[nbL,h]
theorem rG {l:List κ} {x:κ} (h:x∉l):l.idxOf x=l.length:=List.idxOf_eq_length h
def bfS (nx:κ->List (Option κ)) (first:κ):Nat->List κ
 | 0=>[first]
 | i+1=>match (bfS nx first i)[i]? with
  | some x=>nbS (bfS nx first i) (nx x)
  | none=>bfS nx first i
def bfR (nx:κ->List (Option κ)) (first:κ):Nat->List (List Int)
 | 0=>[]
 | i+1=>bfR nx first i++(match (bfS nx first i)[i]? with
  | some x=>[nbR (bfS nx first i) (nx x)]
  | none=>[])
variable {nx:κ->List (Option κ)} {first:κ}
theorem FL {i:Nat} (h:i<(bfS nx first i).length):bfS nx first (i+1)=nbS (bfS nx first i) (nx ((bfS nx first i)[i])):=by
 rw[bfS,List.getElem?_eq_getElem h]
theorem yu {i:Nat} (h:i<(bfS nx first i).length):bfR nx first (i+1)=bfR nx first i++ [nbR (bfS nx first i) (nx ((bfS nx first i)[i]))]:=by
 rw[bfR,List.getElem?_eq_getElem h]
theorem cq (i:Nat):bfS nx first i <+:bfS nx first (i+1):=by
 rw[bfS];split
 ·exact nl _ _
 ·exact List.prefix_refl _
theorem zN {i j:Nat} (h:i<=j):bfS nx first i <+:bfS nx first j:=by
 induction h with
 | refl=>exact List.prefix_refl _
 | step _ ih=>exact ih.trans (cq _)
theorem pO: ∀i,(bfS nx first i).Nodup
 | 0=>by simp[bfS]
 | i+1=>by
  rw[bfS];split
  ·exact uE (pO i)
  ·exact pO i
theorem mL {G:κ->Prop} (b:G first) (h: ∀x,G x-> ∀y,some y∈nx x->G y): ∀i,∀x∈bfS nx first i,G x
 | 0=>by simp[bfS];exact b
 | i+1=>by
  rw[bfS];split
  ·rename_i y c;intro x a;rcases zM.1 a with a | a
   ·exact mL b h i x a
   ·exact h y (mL b h i y (List.mem_of_getElem? c)) x a
  ·exact mL b h i
theorem HW (i:Nat):(bfS nx first i)[0]? =some first:=by
 obtain ⟨t,a⟩:=zN (nx:=nx) (first:=first) (Nat.zero_le i);rw[<-a];rfl
theorem l6: ∀ {i:Nat},(∀j,j<i->j<(bfS nx first j).length)->(bfR nx first i).length=i
 | 0,_=>rfl
 | i+1,h=>by rw[yu (h i (by omega)),az,l6 fun j a=>h j (by omega)];rfl
def bfE (nx:κ->List (Option κ)) (first:κ) (N:Nat):Prop:=N=(bfS nx first N).length/\ ∀i,i<N->i<(bfS nx first i).length
theorem U9 {B:Nat} (d: ∀i,(bfS nx first i).length<=B): ∃N,N<=B/\bfE nx first N:=by
 have key: ∀m i,i+m=B->(∀j,j<i->j<(bfS nx first j).length)-> ∃N,N<=B/\bfE nx first N:=by
  intro m;induction m with
  | zero =>
   intro i f a;have g:=d i;have c:i<=(bfS nx first i).length:=by
    cases i with
    | zero=>omega
    | succ i =>
     have:=a i (by omega)
     have hp:=(cq (nx:=nx) (first:=first) i).length_le;omega
   exact ⟨i,by omega,by omega,a⟩
  | succ m ih =>
   intro i f a;by_cases h:i<(bfS nx first i).length
   ·exact ih (i+1) (by omega) fun j b=>by
     by_cases e:j=i
     ·subst e;exact h
     ·exact a j (by omega)
   ·have c:i<=(bfS nx first i).length:=by
     cases i with
     | zero=>omega
     | succ i =>
      have:=a i (by omega)
      have hp:=(cq (nx:=nx) (first:=first) i).length_le;omega
    exact ⟨i,by omega,by omega,a⟩
 exact key B 0 (by omega) (by omega)
theorem Tn {N M:Nat} (h:bfE nx first N) (k:bfE nx first M):N=M:=by
 rcases Nat.lt_trichotomy N M with e | e | e
 ·have:=k.2 N e;have:=h.1;omega
 ·exact e
 ·have:=h.2 M e;have:=k.1;omega
end
theorem Lb (x:Int):0<=rM x 255/\rM x 255<=255:=by
 have h:(BitVec.ofInt 64 x &&& BitVec.ofInt 64 255).toNat<=255:=by
  rw[BitVec.toNat_and];exact Nat.le_trans Nat.and_le_right (by decide)
 unfold rM;rw[bQ (by omega) (by omega)];omega
def iE (xs:List Int) (i:Int):Prop:=0<=i/\i<=(xs.length:Int)
section
variable {xs:List Int} {i h:Int}
theorem To (n:xs.length<=1048576): ∃r:Int×Int,pe xs=some r/\iE xs r.1:=by
 have key: ∃s,al (p9 xs) aW (i64.wrap (10101+(xs.length:Int)),0)=some (.brk s):=by
  obtain ⟨o,e,s,rfl⟩:=b8 (f:=p9 xs) (fun j s=>s.2=(j:Int)) (fun o=> ∃s,o= .brk s) xs.length (fun j s m l=>by
   obtain ⟨a,b⟩:=s;obtain rfl:b=(j:Int):=l;unfold p9;simp only;rw[XL];by_cases d:j<xs.length
   ·rw[if_pos (by simpa using d)];by_cases c:((j:Nat):Int)<4000
    ·rw[if_pos (by simpa using c),aA (by omega) (by omega)];simp only[aa];exact .inl ⟨d,_,rfl,by show i64.wrap ((j:Int)+1)=_;rw[bQ (by omega) (by omega)];omega⟩
    ·rw[if_neg (by simpa using c)];exact .inr ⟨_,rfl,(fun g e=>by cases e),_,rfl⟩
   ·rw[if_neg (by simpa using d)];exact .inr ⟨_,rfl,(fun g e=>by cases e),_,rfl⟩) (s:=(i64.wrap (10101+(xs.length:Int)),0)) rfl (oP (by omega))
  exact ⟨s,e⟩
 obtain ⟨s,k⟩:=key;unfold pe;rw[ah k];exact ⟨_,rfl,by show (0:Int)<=0;omega,by show (0:Int)<=_;omega⟩
theorem HY (b:xs.length<=1048576) (a:iE xs i): ∃r:Int×Int×Int,lT (xs,i,h)=some r/\(0<=r.1/\r.1<=255)/\iE xs r.2.1:=by
 unfold lT;simp only;by_cases c:i<(xs.length:Int)
 ·rw[if_pos (by simpa using c),aA a.1 c];simp only[aa];refine ⟨_,rfl,Lb _,?_⟩;show iE xs (i64.wrap (i+1))
  have:=a.1
  rw[bQ (by omega) (by omega)];exact ⟨by omega,by omega⟩
 ·rw[if_neg (by simpa using c)];simp only[aa];exact ⟨_,rfl,Lb _,a⟩
theorem bz (f:xs.length<=1048576) (m:iE xs i) {n:Int} (j:0<n): ∃r:Int×Int×Int,aI (xs,i,h) n=some r/\(0<=r.1/\r.1<n)/\iE xs r.2.1:=by
 unfold aI;simp only;rw[if_neg (by simpa using j)];have g:chk (n≠0)=some ():=by unfold chk;rw[if_pos (by omega)]
 by_cases c:n<=256
 ·rw[if_pos (by simpa using c)];obtain ⟨r,e,o,k⟩:=HY (h:=h) f m;rw[e,g];simp only[aa];exact ⟨_,rfl,⟨Int.tmod_nonneg _ o.1,Int.tmod_lt_of_pos _ j⟩,k⟩
 ·rw[if_neg (by simpa using c)];obtain ⟨a,u,o,y⟩:=HY (h:=h) f m;rw[u];simp only[aa];obtain ⟨b,C,k,x⟩:=HY (h:=a.2.2) f y;rw[C];simp only[aa];obtain ⟨d,t,F,v⟩:=HY (h:=b.2.2) f x;rw[t];simp only[aa];obtain ⟨l,w,E,q⟩:=HY (h:=d.2.2) f v;rw[w,g];simp only[aa];have p:i64.wrap (a.1*16777216)=a.1*16777216:=bQ (by omega) (by omega);have B:i64.wrap (b.1*65536)=b.1*65536:=bQ (by omega) (by omega);have z:i64.wrap (d.1*256)=d.1*256:=bQ (by omega) (by omega);have s:i64.wrap (a.1*16777216+b.1*65536)=a.1*16777216+b.1*65536:=bQ (by omega) (by omega);have A:i64.wrap (a.1*16777216+b.1*65536+d.1*256)=a.1*16777216+b.1*65536+d.1*256:=bQ (by omega) (by omega);have D:i64.wrap (a.1*16777216+b.1*65536+d.1*256+l.1)=a.1*16777216+b.1*65536+d.1*256+l.1:=bQ (by omega) (by omega);rw[p,B,z,s,A,D];exact ⟨_,rfl,⟨Int.tmod_nonneg _ (by omega),Int.tmod_lt_of_pos _ j⟩,q⟩
theorem wt (c:xs.length<=1048576) (a:iE xs i) {n:Int} (b:0<n): ∃r:Bool×Int×Int,cE (xs,i,h) n=some r/\iE xs r.2.1:=by
 obtain ⟨r,e,-,k⟩:=bz (h:=h) c a b;unfold cE;simp only;rw[e];exact ⟨_,rfl,k⟩
theorem ep (c:xs.length<=1048576) (b:iE xs i) {l:List Int} (d:l≠ []): ∃r:Int×Int×Int,bN (xs,i,h) l=some r/\r.1∈l/\iE xs r.2.1:=by
 have hp:0<(l.length:Int):=by have:=List.length_pos_iff.2 d;omega
 obtain ⟨r,e,a,k⟩:=bz (h:=h) c b hp;unfold bN;simp only;rw[e];simp only[aa];rw[aA a.1 a.2];simp only[aa];exact ⟨_,rfl,cZ a.1 a.2,k⟩
theorem Z1 (c:xs.length<=1048576) (b:iE xs i) {l:List ByteArray} (d:l≠ []): ∃r:ByteArray×Int×Int,vd (xs,i,h) l=some r/\r.1∈l/\iE xs r.2.1:=by
 have hp:0<(l.length:Int):=by have:=List.length_pos_iff.2 d;omega
 obtain ⟨r,e,a,k⟩:=bz (h:=h) c b hp;unfold vd;simp only;rw[e];simp only[aa];rw[aA a.1 a.2];simp only[aa];exact ⟨_,rfl,cZ a.1 a.2,k⟩
end
abbrev AutT:=Int×(List Bool)×(List (List Int))
structure VA (a:AutT) (n:Nat):Prop where
 len:a.2.1.length=n
 start:0<=a.1/\a.1<n
 nlen:a.2.2.length=n
 row: ∀r∈a.2.2,r.length=9
 ent: ∀r∈a.2.2,∀t∈r,-1<=t/\t<n
def mv (a:AutT) (s:Int) (k:Nat):Int:=nth (nth a.2.2 s) k
theorem AO (x l h:Int):cD x l h=some (decide (l<=x/\x<=h)):=by
 unfold cD;by_cases c:l<=x
 ·simp[c]
 ·have: ¬l<=x/\True:=⟨c,trivial⟩
  simp[c]
theorem Il (x l h:Int):cJ x l h=some (decide (l<=x/\x<=h)):=by
 unfold cJ;by_cases c:l<=x
 ·simp[c]
 ·simp[c]
theorem scan {α R:Type} [Inhabited α] {f:Int->Option (Out R Int)} (xs:List α) (p:α->Prop) [DecidablePred p] (r:R) (k:xs.length<=9223372036854775807)
  (h: ∀i:Nat,i<xs.length->f (i:Int)=some (if p (nth xs i) then .nxt ((i+1:Nat):Int) else .ret r)) (l:f (xs.length:Int)=some (.brk (xs.length:Int))) :
  (al f aW 0=some (.brk (xs.length:Int))/\ ∀x∈xs,p x)\/(al f aW 0=some (.ret r)/\ ¬ ∀x∈xs,p x):=by
 obtain ⟨o,e,a⟩:=b8 (f:=f) (fun i s=>s=(i:Int)/\ ∀j:Nat,j<i->p (nth xs j)) (fun o=>(o= .brk (xs.length:Int)/\ ∀x∈xs,p x)\/(o= .ret r/\ ¬ ∀x∈xs,p x)) xs.length (s:=0) (by
  rintro i s n ⟨rfl,hp⟩;by_cases b:i<xs.length
  ·by_cases c:p (nth xs i)
   ·refine .inl ⟨b,_,by rw[h i b,if_pos c],rfl,fun j g=>?_⟩;by_cases e:j=i
    ·subst e;exact c
    ·exact hp j (by omega)
   ·refine .inr ⟨_,by rw[h i b,if_neg c],(fun m e=>by cases e),.inr ⟨rfl,fun d=>c (d _ (cZ (by omega) (by omega)))⟩⟩
  ·obtain rfl:i=xs.length:=by omega
   refine .inr ⟨_,l,(fun m e=>by cases e),.inl ⟨rfl,fun x d=>?_⟩⟩;obtain ⟨j,g,rfl⟩:=CG d;exact hp j g) ⟨rfl,by omega⟩ (oP k)
 rcases a with ⟨rfl,a⟩ | ⟨rfl,a⟩
 ·exact .inl ⟨e,a⟩
 ·exact .inr ⟨e,a⟩
section
variable {a:AutT} {n:Nat} (V:VA a n)
include V
theorem VA.pos:0<n:=by have:=V.start;omega
theorem VA.rowAt {s:Int} (b:0<=s) (h1:s<n):(nth a.2.2 s).length=9:=V.row _ (cZ b (by rw[V.nlen];exact h1))
theorem VA.mv {s:Int} {k:Nat} (b:0<=s) (h1:s<n) (c:k<9): -1<=mv a s k/\mv a s k<n:=
 V.ent _ (cZ b (by rw[V.nlen];exact h1)) _ (cZ (by omega) (by rw[V.rowAt b h1];omega))
theorem VA.get {s:Int} (b:0<=s) (h1:s<n):aU a.2.2 s=some (nth a.2.2 s):=aA b (by rw[V.nlen];exact h1)
theorem VA.get2 {s:Int} {k:Nat} (b:0<=s) (h1:s<n) (c:k<9):aU (nth a.2.2 s) (k:Int)=some (D.mv a s k):=aA (by omega) (by rw[V.rowAt b h1];omega)
theorem VA.acc {s:Int} (b:0<=s) (h1:s<n):aU a.2.1 s=some (nth a.2.1 s):=aA b (by rw[V.len];exact h1)
theorem Z2 {s:Int} {k:Nat} (b:0<=s) (h1:s<n) (c:k<9):gl a s (k:Int)=some (mv a s k):=by
 unfold gl lR;rw[if_neg (by simp;omega),Il];simp only[aa];rw[if_pos (by simp;omega),V.get b h1];simp only[aa];rw[V.get2 b h1 c];rfl
end
abbrev Tok:=Int×Int×Int×Int
def ar (t:Tok):Int:=
 if t.1=1\/t.1=2 then (if t.2.1=0/\t.2.2.1=0/\t.2.2.2=0 then 0 else -1)
 else if t.1=3 then (if (0<=t.2.1/\t.2.1<=8)/\t.2.2.1=0/\t.2.2.2=0 then 0 else -1)
 else if t.1=4\/t.1=5 then (if t.2.1=0/\t.2.2.1=0/\t.2.2.2=0 then 2 else -1)
 else if t.1=6 then (if t.2.1=0/\t.2.2.1=0/\t.2.2.2=0 then 1 else -1)
 else if t.1=7 then (if t.2.1=0/\(0<=t.2.2.1/\t.2.2.1<=t.2.2.2)/\(1<=t.2.2.2/\t.2.2.2<=3) then 1 else -1)
 else -1
theorem Tp (x:Int):nQ x=some (decide (0<=x/\x<=8)):=by unfold nQ;rw[AO];rfl
theorem Tq (x:Int):lR x=some (decide (0<=x/\x<=8)):=by unfold lR;rw[Il];rfl
theorem acX (t:Tok):ph t=some (ar t):=by
 obtain ⟨k,l,h,i⟩:=t;unfold ph ar;simp only[Tp,AO,aa];by_cases e:k=1
 ·subst e;simp;grind
 by_cases b:k=2
 ·subst b;simp;grind
 by_cases c:k=3
 ·subst c;simp;grind
 by_cases a:k=4
 ·subst a;simp;grind
 by_cases d:k=5
 ·subst d;simp;grind
 by_cases f:k=6
 ·subst f;simp;grind
 by_cases g:k=7
 ·subst g;simp;grind
 simp[e,b,c,a,d,f,g]
theorem Z3 (t:Tok):rV t=some (decide (0<=ar t)):=by
 obtain ⟨k,l,e,d⟩:=t;unfold rV ar;simp only[Tq,Il,aa];by_cases j:k=1
 ·subst j;simp;grind
 by_cases g:k=2
 ·subst g;simp;grind
 by_cases h:k=3
 ·subst h;simp only[];by_cases a:0<=l/\l<=8 <;> by_cases b:e=0 <;> by_cases c:d=0 <;> simp[a,b,c]
 by_cases f:k=4
 ·subst f;simp;grind
 by_cases i:k=5
 ·subst i;simp;grind
 by_cases m:k=6
 ·subst m;simp;grind
 by_cases n:k=7
 ·subst n;simp only[];by_cases a:l=0 <;> by_cases b:0<=e/\e<=d <;> by_cases c:1<=d/\d<=3 <;> simp[a,b,c]
 simp[j,g,h,f,i,m,n]
theorem yw (t:Tok): -1<=ar t/\ar t<=2:=by
 unfold ar;grind
theorem np {t:Tok} (h:0<=ar t):(ar t=2/\(t.1=4\/t.1=5))\/(ar t=1/\(t.1=6\/t.1=7))\/(ar t=0/\(t.1=1\/t.1=2\/t.1=3)):=by
 unfold ar at h⊢;grind
theorem CH {t:Tok} (h:0<=ar t) (k:t.1=7):(0<=t.2.2.1/\t.2.2.1<=t.2.2.2)/\(1<=t.2.2.2/\t.2.2.2<=3):=by
 unfold ar at h;grind
mutual
def flat:Tr Tok->List Tok
 | .nil=>[]
 | .node t ks=>lO ks++ [t]
def lO:List (Tr Tok)->List Tok
 | [] =>[]
 | k::ks=>flat k++lO ks
end
inductive WT:Tr Tok->Prop
 | node {t:Tok} {ks:List (Tr Tok)} :ar t=(ks.length:Int)->(∀k,k∈ks->WT k)->WT (.node t ks)
theorem rH: ∀(a b:List (Tr Tok)),lO (a++b)=lO a++lO b
 | [],b=>rfl
 | k::a,b=>by rw[List.cons_append,lO,lO,rH a b,aC]
theorem n7 (x:Tr Tok):lO [x] =flat x:=by rw[lO,lO,List.append_nil]
theorem PR (x y:Tr Tok):lO [x,y] =flat x++flat y:=by rw[lO,n7]
theorem WT.cases {x:Tr Tok} (h:WT x):(∃t,x= .node t [] /\ar t=0)\/(∃t a,x= .node t [a] /\ar t=1/\WT a)\/ ∃t a b,x= .node t [a,b] /\ar t=2/\WT a/\WT b:=by
 cases h with
 | @node t e c d =>
  have:=(yw t).2
  match e,c,d with
  | [],c,d=>exact .inl ⟨t,rfl,c⟩
  | [a],c,d=>exact .inr (.inl ⟨t,a,rfl,c,d a (by simp)⟩)
  | [a,b],c,d=>exact .inr (.inr ⟨t,a,b,rfl,c,d a (by simp),d b (by simp)⟩)
  | _::_::_::_,c,d=>simp at c;omega
theorem WT.ind {p:Tr Tok->Prop} (f: ∀t,ar t=0->p (.node t [])) (h1: ∀t a,ar t=1->WT a->p a->p (.node t [a])) (d: ∀t a b,ar t=2->WT a->WT b->p a->p b->p (.node t [a,b])) {x:Tr Tok} (h:WT x):p x:=by
 induction h with
 | @node t g e k c =>
  have:=(yw t).2
  match g,e,k,c with
  | [],e,k,c=>exact f t e
  | [a],e,k,c=>exact h1 t a e (k a (by simp)) (c a (by simp))
  | [a,b],e,k,c=>exact d t a b e (k a (by simp)) (k b (by simp)) (c a (by simp)) (c b (by simp))
  | _::_::_::_,e,_,_=>simp at e;omega
theorem FM (t:Tok):flat (.node t [])= [t]:=by rw[flat,lO];rfl
theorem DA (t:Tok) (a:Tr Tok):flat (.node t [a])=flat a++ [t]:=by rw[flat,n7]
theorem yx (t:Tok) (a b:Tr Tok):flat (.node t [a,b])=(flat a++flat b)++ [t]:=by rw[flat,PR]
theorem WT.pos {x:Tr Tok} (h:WT x):1<=(flat x).length:=by
 cases h with
 | node b a=>rw[flat];simp
def stp (s:List (Tr Tok)) (t:Tok):Option (List (Tr Tok)):=if ar t<0\/(s.length:Int)<ar t then none else some (s.take (s.length - (ar t).toNat)++ [.node t (s.drop (s.length - (ar t).toNat))])
def run:List (Tr Tok)->List Tok->Option (List (Tr Tok))
 | s,[] =>some s
 | s,t::l=>(stp s t).bind fun s'=>run s' l
theorem FN: ∀(a:List Tok) {b:List Tok} {s:List (Tr Tok)},run s (a++b)=(run s a).bind fun c=>run c b
 | [],b,s=>rfl
 | t::a,b,s=>by
  rw[List.cons_append,run,run];cases stp s t with
  | none=>rfl
  | some c=>exact FN a
theorem yy {a:List Tok} {t:Tok} {s:List (Tr Tok)} :run s (a++ [t])=(run s a).bind fun b=>stp b t:=by
 rw[FN];congr 1;funext b;rw[run];cases stp b t <;> rfl
theorem Va: ∀ {l:List Tok} {s b:List (Tr Tok)},run s l=some b->(∀k,k∈s->WT k)->(∀k,k∈b->WT k)/\lO b=lO s++l
 | [],s,b,h,hs=>by
  obtain rfl:=ae h;exact ⟨hs,by simp⟩
 | t::l,s,b,h,hs=>by
  rw[run] at h;unfold stp at h;by_cases c:ar t<0\/(s.length:Int)<ar t
  ·rw[if_pos c] at h;cases h
  ·rw[if_neg c] at h;have d:(s.drop (s.length - (ar t).toNat)).length=(ar t).toNat:=by rw[a7];omega
   obtain ⟨e,f⟩:=Va (show run _ l=some b from h) fun k a=>by
    rcases aG a with a | a
    ·exact hs k (List.mem_of_mem_take a)
    ·obtain rfl:=ak a;exact .node (by rw[d];omega) fun k a=>hs k (List.mem_of_mem_drop a)
   refine ⟨e,?_⟩;rw[f,rH,n7,flat,<-aC,<-rH,List.take_append_drop];simp
theorem Ts {x:Tr Tok} (h:WT x): ∀s,run s (flat x)=some (s++ [x]):=by
 refine WT.ind (p:=fun x=> ∀s,run s (flat x)=some (s++ [x])) ?_ ?_ ?_ h
 ·intro t e s;rw[FM,run,stp,if_neg (by omega),e];simp[run]
 ·intro t a e _ c s;rw[DA,yy,c];show stp (s++ [a]) t=_;rw[stp,if_neg (by simp;omega),e];simp
 ·intro t a b e _ _ c f s;rw[yx,yy,FN,c];show ((run (s++ [a]) (flat b)).bind fun d=>stp d t)=_;rw[f];show stp (s++ [a] ++ [b]) t=_;rw[stp,if_neg (by simp;omega),e]
  have:(s++ [a] ++ [b]).length - (2:Int).toNat=s.length:=by simp
  rw[this];simp
def isX (e:List Tok):Bool:=match run [] e with
 | some [_] =>true
 | _=>false
theorem Lc {e:List Tok} (h:isX e=true): ∃x,run [] e=some [x] /\WT x/\flat x=e:=by
 unfold isX at h;split at h
 ·rename_i x a;obtain ⟨d,b⟩:=Va a (fun k c=>by cases c);refine ⟨x,a,d x (by simp),?_⟩;rw[n7] at b;rw[b];rfl
 ·cases h
theorem PS {l:List Tok} : ∀ {s a:List (Tr Tok)},run s l=some a->a.length<=s.length+l.length:=by
 induction l with
 | nil=>intro s a h;obtain rfl:=ae h;simp
 | cons t l ih =>
  intro s a h;rw[run] at h;obtain ⟨e,b,c⟩:=Option.bind_eq_some_iff.1 h;have d:=ih c;unfold stp at b;split at b
  ·cases b
  ·obtain rfl:=ae b;simp only[az,aq,ay,aD] at d⊢;omega
theorem CI {e:List Tok} {i:Nat} (h:i<e.length):e.take (i+1)=e.take i++ [nth e (i:Int)]:=by
 rw[List.take_succ_eq_append_getElem h,cB h]
theorem A8 {e:List Tok} {i:Nat} (h:i<e.length) {a:List (Tr Tok)} (h1:run [] (e.take i)=some a) (b:stp a (nth e (i:Int))=none):run [] e=none:=by
 have:run [] (e.take (i+1))=none:=by rw[CI h,yy,h1];exact b
 rw[<-List.take_append_drop (i+1) e,FN,this];rfl
theorem Tt {e:List Tok} (r:e.length<=1048576):u9 e=some (isX e):=by
 obtain ⟨o,k,m⟩:=b8 (f:=rY e) (fun i s=> ∃a,s=((a.length:Int),(i:Int))/\run [] (e.take i)=some a) (fun o=>(o= .ret false/\run [] e=none)\/ ∃a,o= .brk ((a.length:Int),(e.length:Int))/\run [] e=some a) e.length (s:=(0,0)) (by
  rintro i s q ⟨a,rfl,b⟩;have l:=PS b;simp only[aD,aq] at l;unfold rY;simp only[gJ];by_cases c:i<e.length
  ·rw[if_pos (by simp;omega),aA (by omega) (by omega)];simp only[aa];rw[acX];simp only[aa];have p:=yw (nth e (i:Int));by_cases d:ar (nth e (i:Int))<0
   ·refine .inr ⟨_,by rw[if_pos (by simpa using d)],(fun j e=>by cases e),.inl ⟨rfl,A8 c b ?_⟩⟩;rw[stp,if_pos (.inl d)]
   ·rw[if_neg (by simpa using d)];by_cases g:ar (nth e (i:Int))>(a.length:Int)
    ·refine .inr ⟨_,by rw[if_pos (by simpa using g)],(fun j e=>by cases e),.inl ⟨rfl,A8 c b ?_⟩⟩;rw[stp,if_pos (.inr g)]
    ·rw[if_neg (by simpa using g)];refine .inl ⟨c,_,rfl,a.take (a.length - (ar (nth e (i:Int))).toNat)++ [.node (nth e (i:Int)) (a.drop (a.length - (ar (nth e (i:Int))).toNat))],?_,?_⟩
     ·rw[bQ (n:=(a.length:Int) - ar (nth e (i:Int))) (by omega) (by omega),bQ (by omega) (by omega),af (by omega)];congr 1;simp only[az,aq,ay,aD];omega
     ·rw[CI c,yy,b];show stp a _=_;rw[stp,if_neg (by omega)]
  ·obtain rfl:i=e.length:=by omega
   rw[List.take_of_length_le (by omega)] at b;exact .inr ⟨_,by rw[if_neg (by simp)],(fun j e=>by cases e),.inr ⟨a,rfl,b⟩⟩) ⟨[],rfl,rfl⟩ (oP (by omega))
 unfold u9;rcases m with ⟨rfl,h⟩ | ⟨a,rfl,h⟩
 ·rw[bI k];unfold isX;rw[h]
 ·rw[ah k];unfold isX;rw[h]
  match a with
  | [] =>rfl
  | [_] =>rfl
  | _::_::_=>simp;omega
theorem ab2 {t:Tok} (h:0<=ar t):(Option.bind ((if t.1==4 then (some (t.1==4)) else (some (t.1==5)):Option Bool)) (fun a=>if a then (some 2) else (Option.bind ((if t.1==6 then (some (t.1==6)) else (some (t.1==7)):Option Bool)) (fun b=>if b then (some 1) else (some 0)))):Option Int)=some (ar t):=by
 rcases np h with ⟨e,k | k⟩ | ⟨e,k | k⟩ | ⟨e,k | k | k⟩ <;> rw[e] <;> simp[k]
theorem XO (t:Tok): ∃n:Int,(Option.bind ((if t.1==4 then (some (t.1==4)) else (some (t.1==5)):Option Bool)) (fun e=>if e then (some 2) else (Option.bind ((if t.1==6 then (some (t.1==6)) else (some (t.1==7)):Option Bool)) (fun f=>if f then (some 1) else (some 0)))):Option Int)=some n:=by
 by_cases a:t.1=4
 ·exact ⟨2,by simp[a]⟩
 by_cases b:t.1=5
 ·exact ⟨2,by simp[b]⟩
 by_cases c:t.1=6
 ·exact ⟨1,by simp[c]⟩
 by_cases d:t.1=7
 ·exact ⟨1,by simp[d]⟩
 exact ⟨0,by simp[a,b,c,d]⟩
def AP (e:List Tok):Tr Tok:=match run [] e with
 | some [x] =>x
 | _=>.nil
theorem FO {e:List Tok} (u:e.length<=1048576):oS e=some (AP e):=by
 obtain ⟨o,d,r⟩:=b8 (f:=rW e) (fun i s=> ∃a,s=(a,(i:Int))/\run [] (e.take i)=some a) (fun o=>(o= .ret Tr.nil/\run [] e=none)\/ ∃a,o= .brk (a,(e.length:Int))/\run [] e=some a) e.length (s:=([],0)) (by
  rintro i s t ⟨a,rfl,b⟩;have l:=PS b;simp only[aD,aq] at l;unfold rW;simp only[gJ];by_cases c:i<e.length
  ·rw[if_pos (by simp;omega),aA (by omega) (by omega)];simp only[aa];have v:=yw (nth e (i:Int));by_cases m:ar (nth e (i:Int))<0
   ·obtain ⟨n,k⟩:=XO (nth e (i:Int));rw[k];simp only[aa];rw[Z3];simp only[aa];refine .inr ⟨_,by rw[if_neg (by simp;omega)],(fun g e=>by cases e),.inl ⟨rfl,A8 c b ?_⟩⟩;rw[stp,if_pos (.inl m)]
   ·rw[ab2 (by omega)];simp only[aa];rw[Z3];simp only[aa];rw[if_pos (by simp;omega),bQ (n:=(a.length:Int) - ar (nth e (i:Int))) (by omega) (by omega)];by_cases q:ar (nth e (i:Int))>(a.length:Int)
    ·refine .inr ⟨_,by rw[if_pos (by simp;omega)],(fun g e=>by cases e),.inl ⟨rfl,A8 c b ?_⟩⟩;rw[stp,if_pos (.inr q)]
    ·rw[if_neg (by simp;omega),show∀p:Prop,∀ [Decidable p],p->chk p=some () from fun p _ hp=>by unfold chk;rw[if_pos hp]]
     ·simp only[aa];have j:((a.length:Int) - ar (nth e (i:Int))).toNat=a.length - (ar (nth e (i:Int))).toNat:=by omega
      rw[j,aw (by simp;omega)];simp only[aa];rw[aw (by simp;omega)];simp only[aa,List.nil_append,af (show i<9223372036854775807 by omega)];refine .inl ⟨c,_,rfl,_,rfl,?_⟩;rw[CI c,yy,b];show stp a _=_;rw[stp,if_neg (by omega)]
     ·omega
  ·obtain rfl:i=e.length:=by omega
   rw[List.take_of_length_le (by omega)] at b;exact .inr ⟨_,by rw[if_neg (by simp)],(fun g e=>by cases e),.inr ⟨a,rfl,b⟩⟩) ⟨[],rfl,rfl⟩ (oP (by omega))
 unfold oS;rcases r with ⟨rfl,h⟩ | ⟨a,rfl,h⟩
 ·rw[bI d];unfold AP;rw[h]
 ·rw[ah d];unfold AP;rw[h]
  match a with
  | [] =>rfl
  | [x] =>rfl
  | _::_::_ =>
   simp only;rw[if_pos (by simp;omega)]
theorem vx {x:Tr Tok} (h:WT x):AP (flat x)=x:=by unfold AP;rw[Ts h];rfl
theorem Tu {e:List Tok} (d:e.length<=1048576):uZ e=some (isX e):=by
 unfold uZ;rw[FO d];simp only[aa];congr 1;by_cases h:isX e=true
 ·rw[h];obtain ⟨x,c,b,f⟩:=Lc h
  have:AP e=x:=by unfold AP;rw[c]
  rw[this];cases b with
  | node _ _=>rfl
 ·have:AP e= .nil:=by
   unfold AP;unfold isX at h;split
   ·rename_i x a;rw[a] at h;exact absurd rfl h
   ·rfl
  rw[this,Bool.eq_false_iff.2 h];rfl
theorem CJ {e:List Tok} (a:e.length<=1048576):jO e=some (decide (e.length<=24)&&isX e):=by
 unfold jO;rw[Tt a];by_cases c:e.length<=24
 ·rw[if_pos (by simp;omega)];simp[c]
 ·rw[if_neg (by simp;omega)];simp[c]
theorem Jy {e:List Tok} (a:e.length<=1048576):mo e=some (decide (e.length<=24)&&isX e):=by
 unfold mo;rw[Tu a];by_cases c:e.length<=24
 ·rw[if_pos (by simp;omega)];simp[c]
 ·rw[if_neg (by simp;omega)];simp[c]
theorem chk_of {p:Prop} [Decidable p] (h:p):chk p=some ():=by unfold chk;rw[if_pos h]
theorem XP {A:List Tok} {x:Tr Tok} (H:WT x) (C:(A++flat x).length<=1000000):jP (A++flat x)=some (A.length:Int):=by
 obtain ⟨j,e,d,M,F,K⟩: ∃j,al (nz (A++flat x)) aW (1,((A++flat x).length:Int))=some (.brk j)/\ ∃d:List (Tr Tok),d= [] /\j.2=(A.length:Int)/\True:=by
  obtain ⟨o,D,J⟩:=b8 (f:=nz (A++flat x)) (fun i s=> ∃d:List (Tr Tok),(∀k,k∈d->WT k)/\s=((d.length:Int),(((A++lO d).length:Nat):Int))/\i+(lO d).length=(flat x).length/\(A++flat x).take (A++lO d).length=A++lO d) (fun o=> ∃j,o= .brk j/\j.2=(A.length:Int)) (flat x).length (s:=(1,((A++flat x).length:Int))) (by
   rintro i s L ⟨d,w,rfl,m,g⟩;unfold nz;simp only[gJ];rcases List.eq_nil_or_concat d with rfl | ⟨a,y,rfl⟩
   ·refine .inr ⟨_,by rw[if_neg (by simp)],(fun j e=>by cases e),_,rfl,?_⟩;simp[lO]
   ·have E:=w y (by simp);cases E with
    | @node t c z v =>
     have B:lO (a++ [.node t c])=lO (a++c)++ [t]:=by rw[rH,n7,flat,rH,aC]
     rw[List.concat_eq_append,B] at m g⊢;simp only[az,ay,aD] at m g C⊢;rw[if_pos (by simp <;> omega)];have u:i64.wrap (((A.length+((lO (a++c)).length+1):Nat):Int) - 1)=((A.length+(lO (a++c)).length:Nat):Int):=by
      rw[bQ (by omega) (by omega)];omega
     have r:nth (A++flat x) ((A.length+(lO (a++c)).length:Nat):Int)=t:=by
      have q:A.length+(lO (a++c)).length<(A++flat x).length:=by rw[az];omega
      have p:=congrArg (fun l:List Tok=>l[A.length+(lO (a++c)).length]?) g;rw[List.getElem?_take_of_lt (by omega),List.getElem?_eq_getElem q,<-aC,List.getElem?_append_right (by rw[az];omega),az] at p;rw[cB q];simpa using p
     rw[u,aA (by omega) (by simp only[az];omega),r];simp only[aa];rw[acX,z];simp only[aa];have G:(c.length:Int)<=2:=by rw[<-z];exact (yw t).2
     have I:a.length<=(lO (a++c)).length+1000000:=by
      have: ∀l:List (Tr Tok),(∀k,k∈l->WT k)->l.length<=(lO l).length:=by
       intro l;induction l with
       | nil=>intro _;simp
       | cons k l ih =>
        intro h;have z:=(h k (by simp)).pos;have v:=ih fun k b=>h k (by simp[b]);rw[lO];simp only[ay,az];omega
      have:=this a fun k b=>w k (by simp[b])
      rw[rH,az];omega
     refine .inl ⟨by omega,_,rfl,a++c,fun k b=>?_,?_,by omega,?_⟩
     ·rcases aG b with b | b
      ·exact w k (by simp[b])
      ·exact v k b
     ·rw[bQ (n:=((a.length+1:Nat):Int) - 1) (by omega) (by omega),bQ (by omega) (by omega)];congr 1
      (simp only[az]) <;> omega
     ·have p:=congrArg (List.take (A++lO (a++c)).length) g;rw[List.take_take,Nat.min_eq_left (by rw[az];omega),<-aC,List.take_left] at p;rw[az] at p;exact p) ⟨[x],fun k b=>by (obtain rfl:=ak b;exact H),by rw[n7];rfl,by rw[n7];omega,by rw[n7,List.take_length]⟩ (oP (by rw[az] at C;omega))
  obtain ⟨j,rfl,v⟩:=J;exact ⟨j,D,[],rfl,v,trivial⟩
 unfold jP;rw[ah e,F]
instance trInh {α:Type} :Inhabited (Tr α):=⟨.nil⟩
def szX:Tr Tok->Int
 | .nil=>0
 | .node t ks=>min (szL t 1 ks) 100000
where szL (t:Tok) (acc:Int):List (Tr Tok)->Int
 | [] =>acc
 | k::ks=>szL t (acc+(if t.1=7 then (szX k+3)*t.2.2.2 else szX k)) ks
theorem n8 {x:Tr Tok} (h:WT x):1<=szX x/\szX x<=100000:=by
 refine WT.ind (p:=fun x=>1<=szX x/\szX x<=100000) ?_ ?_ ?_ h
 ·intro t _;show 1<=min (1:Int) 100000/\min (1:Int) 100000<=100000;omega
 ·intro t a e _ g;show 1<=min ((1:Int)+(if t.1=7 then (szX a+3)*t.2.2.2 else szX a)) 100000/\min ((1:Int)+(if t.1=7 then (szX a+3)*t.2.2.2 else szX a)) 100000<=100000;split
  ·rename_i k;have f:=CH (show 0<=ar t by omega) k
   have:0<=(szX a+3)*t.2.2.2:=Int.mul_nonneg (by omega) (by omega)
   omega
  ·omega
 ·intro t a b e _ _ d c;have k:t.1≠7:=by
   grind[np,ar]
  show 1<=min ((1:Int)+(if t.1=7 then (szX a+3)*t.2.2.2 else szX a)+(if t.1=7 then (szX b+3)*t.2.2.2 else szX b)) 100000/\min ((1:Int)+(if t.1=7 then (szX a+3)*t.2.2.2 else szX a)+(if t.1=7 then (szX b+3)*t.2.2.2 else szX b)) 100000<=100000;omega
theorem HZ {a h:Int} (h1:1<=a/\a<=100000) (c:1<=h/\h<=3):i64.wrap ((i64.wrap (a+3))*h)=(a+3)*h:=by
 have b:0<=(a+3)*h:=Int.mul_nonneg (by omega) (by omega);have d:(a+3)*h<=100003*3:=Int.mul_le_mul (by omega) (by omega) (by omega) (by omega);grind[bQ]
theorem PT {a h:Int} (h1:1<=a/\a<=100000) (c:1<=h/\h<=3):0<=(a+3)*h/\(a+3)*h<=300009:=by
 have b:0<=(a+3)*h:=Int.mul_nonneg (by omega) (by omega);have d:(a+3)*h<=100003*3:=Int.mul_le_mul (by omega) (by omega) (by omega) (by omega);omega
theorem tc {t:Tok} {a:List (Tr Tok)} :Tr.get (.node t a)=some (t,a):=rfl
theorem zO {f:Tr Tok->Option Int} {t:Tok} {a:List (Tr Tok)} {i:Nat} {acc:Int} (hi:i<a.length) (c:f (nth a (i:Int))=some (szX (nth a (i:Int)))) (e:WT (nth a (i:Int))) (g:0<=ar t) (l:0<=acc/\acc<=1000000) (h:i<=1000000) :
  ez f (.node t a) (t,a) (acc,(i:Int))=some (.nxt (acc+(if t.1=7 then (szX (nth a (i:Int))+3)*t.2.2.2 else szX (nth a (i:Int))),((i+1:Nat):Int))):=by
 unfold ez;simp only[tc];have b:=n8 e;rw[if_pos (by grind),aA (by omega) (by omega)];simp only[aa];by_cases k:t.1=7
 ·have d:=CH g k;have j:=PT b d.2;rw[if_pos (by grind),if_pos k,c];simp only[aa];rw[HZ b d.2,bQ (by omega) (by omega),af (by omega)]
 ·rw[if_neg (by grind),if_neg k,c];simp only[aa];rw[bQ (by omega) (by omega),af (by omega)]
theorem A9 {α:Type} [Inhabited α] {a:α} {l:List α} :nth (a::l) ((0:Nat):Int)=a:=rfl
theorem PU {α:Type} [Inhabited α] {a b:α} {l:List α} :nth (a::b::l) ((1:Nat):Int)=b:=rfl
theorem XQ {x:Tr Tok} (h:WT x): ∀n,(flat x).length<=n->dh n x=some (szX x):=by
 refine WT.ind (p:=fun x=> ∀n,(flat x).length<=n->dh n x=some (szX x)) ?_ ?_ ?_ h
 ·intro t e n c
  match n,c with
  | n+1,_ =>
   rfl
 ·intro t a e d q n c;rw[DA,az] at c
  match n,c with
  | n+1,c =>
   rw[dh];simp[tc,aa];have j:al (ez (dh n) (.node t [a]) (t,[a])) aW (1,0)=some (.brk (szX.szL t 1 [a],1)):=aY (f:=ez (dh n) (.node t [a]) (t,[a])) (fun i=>(szX.szL t 1 ([a].take i),(i:Int))) 1 (fun i o=>by
    obtain rfl:i=0:=by omega
    exact zO (acc:=1) (i:=0) (by simp) (q n (by grind)) d (by omega) (by omega) (by omega)) (by rfl) (by unfold aW;omega)
   rw[ah j]
   rfl
 ·intro t a b e d m l g n c;rw[yx,az,az] at c
  match n,c with
  | n+1,c =>
   have r:=n8 d;have k:t.1≠7:=by
    grind[np,ar]
   rw[dh];simp[tc,aa];have j:al (ez (dh n) (.node t [a,b]) (t,[a,b])) aW (1,0)=some (.brk (szX.szL t 1 [a,b],2)):=aY (f:=ez (dh n) (.node t [a,b]) (t,[a,b])) (fun i=>(szX.szL t 1 ([a,b].take i),(i:Int))) 2 (fun i o=>by
    have:i=0\/i=1:=by omega
    rcases this with rfl | rfl
    ·exact zO (acc:=1) (i:=0) (by simp) (l n (by grind)) d (by omega) (by omega) (by omega)
    ·exact zO (acc:=1+(if t.1=7 then (szX a+3)*t.2.2.2 else szX a)) (i:=1) (by simp) (g n (by grind)) m (by omega) (by omega) (by omega)) (by rfl) (by unfold aW;omega)
   rw[ah j]
   rfl
theorem lE {A:List Tok} {t:Tok} (h:A.length<=1000000):aU (A++ [t]) (i64.wrap (((A++ [t]).length:Int) - 1))=some t/\i64.wrap (((A++ [t]).length:Int) - 1)=(A.length:Int):=by
 have e:i64.wrap (((A++ [t]).length:Int) - 1)=(A.length:Int):=by
  rw[bQ (by omega) (by grind)];simp only[az,ay,aD];omega
 grind[aA,az,ay,aD,cB]
theorem acY {t:Tok} (h:ar t=2):(if t.1==4 then (some (t.1==4)) else (some (t.1==5)):Option Bool)=some true:=by
 grind[np,ar]
theorem Tv {t:Tok} (h:ar t=1\/ar t=0):(if t.1==4 then (some (t.1==4)) else (some (t.1==5)):Option Bool)=some false:=by
 rcases np (show 0<=ar t by omega) with ⟨e,k⟩ | ⟨e,k | k⟩ | ⟨e,k | k | k⟩
 ·omega
 all_goals simp[k]
theorem Z4 {t:Tok} (h:ar t=0):(t.1==6)=false/\(t.1==7)=false:=by
 grind[np,ar]
theorem PV {t:Tok} (h:ar t=1):((t.1==6)=true/\t.1=6)\/((t.1==6)=false/\(t.1==7)=true/\t.1=7):=by
 grind[np,ar]
theorem yz {a b:Tr Tok} {t:Tok} (c:WT b) (d:((flat a++flat b)++ [t]).length<=1000000) :
  (((flat a++flat b)++ [t]).take ((((flat a++flat b).length:Nat):Int)).toNat)=flat a++flat b /\
  jP (flat a++flat b)=some (((flat a).length:Nat):Int) /\
  (((flat a++flat b)++ [t]).take ((((flat a).length:Nat):Int)).toNat)=flat a /\
  (flat a++flat b).drop ((((flat a).length:Nat):Int)).toNat=flat b:=by
 grind[XP,az,ay,aD,Int.toNat_natCast,List.take_left,aC,List.drop_left]
theorem Vc {x:Tr Tok} (h:WT x): ∀n,(flat x).length<=n->(flat x).length<=1000000->fK n (flat x)=some (szX x):=by
 refine WT.ind (p:=fun x=> ∀n,(flat x).length<=n->(flat x).length<=1000000->fK n (flat x)=some (szX x)) ?_ ?_ ?_ h
 ·intro t e n c d;rw[FM] at c d⊢
  match n,c with
  | n+1,_ =>
   have m:=Z4 e;rw[fK]
   have:=(lE (A:=[]) (t:=t) (by simp)).1
   rw[List.nil_append] at this;rw[this];simp only[aa];rw[Tv (.inr e)];simp[aa,m.1,m.2,Bool.false_eq_true,if_false]
   rfl
 ·intro t a e f D n c d;rw[DA] at c d⊢;simp[az,ay,aD] at c d
  match n,c with
  | n+1,c =>
   have u:=n8 f;rw[fK];have ⟨i,j⟩:=lE (A:=flat a) (t:=t) (by omega);rw[i];simp only[aa];rw[Tv (.inl e)];simp only[aa,Bool.false_eq_true,if_false];rw[j,Int.toNat_natCast,List.take_left,chk_of (by grind)];simp only[aa];rw[D n (by omega) (by omega)];simp only[aa];rcases PV e with ⟨r,q⟩ | ⟨r,q,w⟩
   ·rw[if_pos r,bQ (by omega) (by omega)];show some (min 100000 (szX a+1))=some (min ((1:Int)+(if t.1=7 then (szX a+3)*t.2.2.2 else szX a)) 100000);grind
   ·have s:=CH (show 0<=ar t by omega) w;have F:=PT u s.2;rw[if_neg (by grind),if_pos q,HZ u s.2,bQ (by omega) (by omega)];show some (min 100000 ((szX a+3)*t.2.2.2+1))=some (min ((1:Int)+(if t.1=7 then (szX a+3)*t.2.2.2 else szX a)) 100000);grind
 ·intro t a b e f o l g n c d;rw[yx] at c d⊢;have ⟨y,B,z,C⟩:=yz (a:=a) (t:=t) o d;simp[az,ay,aD] at c d
  match n,c with
  | n+1,c =>
   have E:=n8 f;have v:=n8 o;have k:t.1≠7:=by
    rcases np (show 0<=ar t by omega) with ⟨_,k⟩ | ⟨k,_⟩ | ⟨k,_⟩ <;> omega
   rw[fK];have ⟨i,j⟩:=lE (A:=flat a++flat b) (t:=t) (by grind);rw[i];simp only[aa];rw[acY e];rw[j,y,B,chk_of (by grind)];simp only[aa];rw[chk_of (by grind),z,C];rw[l n (by omega) (by omega),chk_of (by simp[az,ay,aD];omega)];rw[g n (by omega) (by omega)];simp only[aa];rw[bQ (n:=szX a+szX b) (by omega) (by omega),bQ (by omega) (by omega)];show some (min 100000 (szX a+szX b+1))=some (min ((1:Int)+(if t.1=7 then (szX a+3)*t.2.2.2 else szX a)+(if t.1=7 then (szX b+3)*t.2.2.2 else szX b)) 100000);grind
def Tw:Tr Tok:=.node (2,0,0,0) []
def MU (x:Tr Tok):Nat->Int->Tr Tok
 | 0,_=>Tw
 | h+1,low=>if 0<low then .node (4,0,0,0) [x,MU x h (max 0 (low - 1))] else .node (5,0,0,0) [.node (4,0,0,0) [x,MU x h (max 0 (low - 1))],Tw]
mutual
def zP:Tr Tok->Tr Tok
 | .nil=>.nil
 | .node t ks=>if t.1=7 then MU ((Z5 ks).headD .nil) t.2.2.2.toNat t.2.2.1 else .node t (Z5 ks)
def Z5:List (Tr Tok)->List (Tr Tok)
 | [] =>[]
 | k::ks=>zP k::Z5 ks
end
theorem ar4:ar (4,0,0,0)=2:=by decide
theorem ar5:ar (5,0,0,0)=2:=by decide
theorem ar2:ar (2,0,0,0)=0:=by decide
theorem PW:WT Tw:=.node ar2 fun k a=>by cases a
theorem CK:flat Tw= [(2,0,0,0)]:=FM _
theorem WT.two {t:Tok} {a b:Tr Tok} (h:ar t=2) (e:WT a) (d:WT b):WT (.node t [a,b]):=.node h fun k c=>by
 grind
theorem WT.one {t:Tok} {a:Tr Tok} (h:ar t=1) (c:WT a):WT (.node t [a]):=.node h fun k b=>by
 grind
theorem Jz {x:Tr Tok} (a:WT x): ∀(h:Nat) (low:Int),WT (MU x h low)
 | 0,_=>PW
 | h+1,low=>by
  rw[MU];split
  ·exact .two ar4 a (Jz a h _)
  ·exact .two ar5 (.two ar4 a (Jz a h _)) PW
theorem FP (x:Tr Tok): ∀(h:Nat) (low:Int),(flat (MU x h low)).length<=((flat x).length+3)*h+1
 | 0,_=>by rw[MU,CK];simp
 | h+1,low=>by
  have a:=FP x h (max 0 (low - 1));grind[MU,yx,az,ay,aD,Nat.mul_succ,CK]
theorem abn {t:Tok} {a:Tr Tok} :zP (.node t [a])=if t.1=7 then MU (zP a) t.2.2.2.toNat t.2.2.1 else .node t [zP a]:=by rfl
theorem exp2 {t:Tok} {a b:Tr Tok} (h:t.1≠7):zP (.node t [a,b])= .node t [zP a,zP b]:=by simp_all[zP,if_neg,Z5]
theorem abo {t:Tok} (h:t.1≠7):zP (.node t [])= .node t []:=by rw[zP,if_neg h,Z5]
theorem no7 {t:Tok} (h:ar t=2\/ar t=0):t.1≠7:=by
 grind[np,ar]
theorem Vd {x:Tr Tok} (h:WT x):WT (zP x):=by
 refine WT.ind (p:=fun x=>WT (zP x)) ?_ ?_ ?_ h
 ·intro t e;rw[abo (no7 (.inr e))];exact .node e fun k g=>by cases g
 ·intro t a e _ f;rw[abn];split
  ·exact Jz f _ _
  ·exact .one e f
 ·intro t a b e _ _ d c;rw[exp2 (no7 (.inl e))];exact .two e d c
theorem CL {x:Tr Tok} (h:WT x):szX x<100000->((flat (zP x)).length:Int)<=szX x:=by
 refine WT.ind (p:=fun x=>szX x<100000->((flat (zP x)).length:Int)<=szX x) ?_ ?_ ?_ h
 ·intro t e _;rw[abo (no7 (.inr e)),FM];show (1:Int)<=min 1 100000;omega
 ·intro t a e g r f;have d:min ((1:Int)+(if t.1=7 then (szX a+3)*t.2.2.2 else szX a)) 100000<100000:=f;show _<=min ((1:Int)+(if t.1=7 then (szX a+3)*t.2.2.2 else szX a)) 100000;rw[abn];by_cases k:t.1=7
  ·have l:=CH (show 0<=ar t by omega) k;have j:szX a+3<=(szX a+3)*t.2.2.2:=by
    have:=Int.mul_le_mul_of_nonneg_left (c:=szX a+3) l.2.1 (by omega)
    omega
   have n:=FP (zP a) t.2.2.2.toNat t.2.2.1;have q:(((flat (zP a)).length+3)*t.2.2.2.toNat:Int)<=(szX a+3)*t.2.2.2:=by
    rw[Int.toNat_of_nonneg (by omega)];exact Int.mul_le_mul_of_nonneg_right (by omega) (by omega)
   grind
  ·rw[if_neg k,DA];grind
 ·intro t a b e g o m i f;have k:=no7 (.inl e);have d:min ((1:Int)+(if t.1=7 then (szX a+3)*t.2.2.2 else szX a)+(if t.1=7 then (szX b+3)*t.2.2.2 else szX b)) 100000<100000:=f;show _<=min ((1:Int)+(if t.1=7 then (szX a+3)*t.2.2.2 else szX a)+(if t.1=7 then (szX b+3)*t.2.2.2 else szX b)) 100000;grind[exp2,yx,az,ay,aD]
theorem Ek {x:Tr Tok} : ∀(h n:Nat) (low:Int),h<n->h<=3->0<=low->low<=3->nM n x low (h:Int)=some (MU x h low)
 | 0,n+1,low,_,_,_,_=>by
  rfl
 | h+1,n+1,low,h1,h2,h3,h4=>by
  rw[nM,if_neg (by grind),bQ (n:=low - 1) (by omega) (by omega),bQ (n:=((h+1:Nat):Int) - 1) (by omega) (by omega)];rw[show ((h+1:Nat):Int) - 1=(h:Int) from by omega,Ek h n (max 0 (low - 1)) (by omega) (by omega) (by omega) (by omega)];simp[aa];rw[MU];by_cases c:0<low
  ·grind
  ·rw[if_neg (by grind),if_neg c];rfl
theorem CM {a b:List Tok} {t:Tok} (h:a.length+b.length<=1000000):fC a b t=some ((a++b)++ [t]):=by
 unfold fC fZ;rw[aw (by simp[az,ay,aD];omega)];simp only[aa,List.nil_append];rw[aw (by omega)];simp only[aa];rw[aw (by simp[az,ay,aD];omega)];rfl
theorem PX {x:Tr Tok} : ∀(h n:Nat) (low:Int),h<n->h<=3->0<=low->low<=3->(flat x).length<=100000->nR n (flat x) low (h:Int)=some (flat (MU x h low))
 | 0,n+1,low,_,_,_,_,_=>by
  rfl
 | h+1,n+1,low,h1,h2,h3,h4,h5=>by
  rw[nR,if_neg (by grind),bQ (n:=low - 1) (by omega) (by omega),bQ (n:=((h+1:Nat):Int) - 1) (by omega) (by omega)];rw[show ((h+1:Nat):Int) - 1=(h:Int) from by omega,PX h n (max 0 (low - 1)) (by omega) (by omega) (by omega) (by omega) h5];simp only[aa];have b:=FP x h (max 0 (low - 1));have a:((flat x).length+3)*h<=100003*3:=Nat.mul_le_mul (by omega) (by omega);rw[CM (by omega),MU];simp only[aa];by_cases c:0<low
  ·simp_all[if_pos,yx]
  ·rw[if_neg (by grind),if_neg c,yx,yx,CK];unfold re;simp only[aa];rw[CM (by simp[az,ay,aD];omega)];rfl
theorem pP:1000000000000<=fV:=by rw[RC];unfold aW;omega
theorem Tx {x:Tr Tok} (h:WT x): ∀n,(flat x).length<=n->cK n x=some (zP x):=by
 have z:=pP;refine WT.ind (p:=fun x=> ∀n,(flat x).length<=n->cK n x=some (zP x)) ?_ ?_ ?_ h
 ·intro t e n c;have k:=no7 (.inr e)
  match n,c with
  | n+1,_ =>
   rw[cK];simp[tc,aa];rw[if_neg (by grind),abo k]
   rfl
 ·intro t a e o v n c;rw[DA,az] at c
  match n,c with
  | n+1,c =>
   have d:=v n (by grind);rw[cK,abn];simp only[tc,aa];rcases PV e with ⟨s,m⟩ | ⟨s,m,l⟩
   ·have r:=aY (f:=fa (cK n) (t,[a])) (fun i=>((i:Int),t.1,t.2.1,t.2.2.1,t.2.2.2,[zP a].take i)) 1 (fun i u=>by
     obtain rfl:i=0:=by omega
     unfold fa;rw[if_pos (by simp),aA (by omega) (by simp),A9];simp[aa];rw[d];rfl) (by rfl) (by unfold aW;omega)
    grind[ah]
   ·have y:=CH (show 0<=ar t by omega) l;rw[if_pos m,if_pos l,show aU [a] 0=some a from rfl];simp only[aa];rw[d];simp only[aa]
    have:=Ek (x:=zP a) t.2.2.2.toNat fV t.2.2.1 (by omega) (by omega) (by omega) (by omega)
    rw[Int.toNat_of_nonneg (by omega)] at this;rw[this];rfl
 ·intro t a b e o w j g n c;rw[yx,az,az] at c;have k:=no7 (.inl e)
  match n,c with
  | n+1,c =>
   have d:=j n (by grind);have q:=g n (by grind);rw[cK,exp2 k];simp[tc,aa];have r:=aY (f:=fa (cK n) (t,[a,b])) (fun i=>((i:Int),t.1,t.2.1,t.2.2.1,t.2.2.2,[zP a,zP b].take i)) 2 (fun i u=>by
    have:i=0\/i=1:=by omega
    rcases this with rfl | rfl
    ·unfold fa;rw[if_pos (by simp),aA (by omega) (by simp),A9];simp[aa];rw[d];rfl
    ·unfold fa;rw[if_pos (by simp),aA (by omega) (by simp),PU];simp[aa];rw[q];rfl) (by rfl) (by unfold aW;omega)
   grind[ah]
theorem PY {x:Tr Tok} (h:WT x): ∀n out,(flat x).length<=n->out.length+(flat x).length<=1000000->cA n x out=some (out++flat x):=by
 refine WT.ind (p:=fun x=> ∀n out,(flat x).length<=n->out.length+(flat x).length<=1000000->cA n x out=some (out++flat x)) ?_ ?_ ?_ h
 ·intro t e n out c d;rw[FM] at c d⊢
  match n,c with
  | n+1,_ =>
   rw[cA];simp[tc,aa];have k:=aY (f:=dq (cA n) (t,[])) (fun i=>((i:Int),out)) 0 (fun i l=>by omega) (by rfl) (by unfold aW;omega);grind[ah,aw]
 ·intro t a e m o n out c d;rw[DA] at c d⊢;simp[az,ay,aD] at c d
  match n,c with
  | n+1,c =>
   rw[cA];simp[tc,aa];have k:=aY (f:=dq (cA n) (t,[a])) (fun i=>((i:Int),if i=0 then out else out++flat a)) 1 (fun i l=>by
    obtain rfl:i=0:=by omega
    unfold dq;rw[if_pos (by simp),aA (by omega) (by simp),A9];simp[aa,if_true];rw[o n _ (by omega) (by omega)];rfl) (by rfl) (by unfold aW;omega)
   grind[ah,aw]
 ·intro t a b e m q j g n out c d;rw[yx] at c d⊢;simp[az,ay,aD] at c d
  match n,c with
  | n+1,c =>
   rw[cA];simp[tc,aa];have k:=aY (f:=dq (cA n) (t,[a,b])) (fun i=>((i:Int),if i=0 then out else if i=1 then out++flat a else (out++flat a)++flat b)) 2 (fun i l=>by
    have:i=0\/i=1:=by omega
    rcases this with rfl | rfl
    ·unfold dq;rw[if_pos (by simp),aA (by omega) (by simp),A9];simp[aa,if_true];rw[j n _ (by omega) (by omega)];rfl
    ·unfold dq;rw[if_pos (by simp),aA (by omega) (by simp),PU];simp only[aa,if_true];rw[g n _ (by omega) (by grind)];rfl) (by rfl) (by unfold aW;omega)
   grind[ah,aw]
theorem Ld {x:Tr Tok} (h:WT x): ∀n,(flat x).length<=n->(flat x).length<=1000000->szX x<=50000->dI n (flat x)=some (flat (zP x)):=by
 have M:=pP;refine WT.ind (p:=fun x=> ∀n,(flat x).length<=n->(flat x).length<=1000000->szX x<=50000->dI n (flat x)=some (flat (zP x))) ?_ ?_ ?_ h
 ·intro t e n d f j;rw[FM] at d f⊢
  match n,d with
  | n+1,_ =>
   have K:=Z4 e;rw[dI]
   have:=(lE (A:=[]) (t:=t) (by simp)).1
   rw[List.nil_append] at this;rw[this];simp only[aa];rw[Tv (.inr e)];simp_all[aa,Bool.false_eq_true,if_false,abo,no7,FM]
 ·intro t a e i I n d f j;have g:min ((1:Int)+(if t.1=7 then (szX a+3)*t.2.2.2 else szX a)) 100000<=50000:=j;rw[DA] at d f⊢;simp[az,ay,aD] at d f
  match n,d with
  | n+1,d =>
   have L:=n8 i;have s:szX a<=50000:=by
    by_cases k:t.1=7
    ·rw[if_pos k] at g;have z:=CH (show 0<=ar t by omega) k;have C:szX a+3<=(szX a+3)*t.2.2.2:=by
      have:=Int.mul_le_mul_of_nonneg_left (c:=szX a+3) z.2.1 (by omega)
      omega
     omega
    ·omega
   have o:=CL i (by omega);rw[dI];have ⟨m,r⟩:=lE (A:=flat a) (t:=t) (by omega);rw[m];simp only[aa];rw[Tv (.inl e)];simp only[aa,Bool.false_eq_true,if_false];rw[r,Int.toNat_natCast,List.take_left,chk_of (by grind)];simp only[aa];rw[I n (by omega) (by omega) s,abn];simp only[aa];rcases PV e with ⟨y,w⟩ | ⟨y,w,v⟩
   ·rw[if_pos y,if_neg (by omega),CM (by grind),DA];simp
   ·have z:=CH (show 0<=ar t by omega) v;rw[if_neg (by grind),if_pos w,if_pos v];grind[PX,zP,fV,Int.toNat_of_nonneg]
 ·intro t a b e i q u l n d f j;have k:=no7 (.inl e);have g:min ((1:Int)+(if t.1=7 then (szX a+3)*t.2.2.2 else szX a)+(if t.1=7 then (szX b+3)*t.2.2.2 else szX b)) 100000<=50000:=j;rw[if_neg k,if_neg k] at g;rw[yx] at d f⊢;have ⟨D,F,E,G⟩:=yz (a:=a) (t:=t) q f;simp[az,ay,aD] at d f
  match n,d with
  | n+1,d =>
   have J:=n8 i;have B:=n8 q;have o:=CL i (by omega);have H:=CL q (by omega);rw[dI];have ⟨m,r⟩:=lE (A:=flat a++flat b) (t:=t) (by grind);rw[m];simp only[aa];rw[acY e];simp only[aa,if_true];rw[r,D,F,chk_of (by grind)];simp only[aa];rw[chk_of (by grind),E,G];simp only[aa];rw[u n (by omega) (by omega) (by omega),chk_of (by grind)];simp only[aa];rw[l n (by omega) (by omega) (by omega)];simp only[aa];rw[CM (by omega),exp2 k,yx];rfl
def Le (e:List Tok):List Tok×Bool:=
 if decide (e.length<=24)&&isX e then (if 5000<szX (AP e) then ([],false) else (if 400<(flat (zP (AP e))).length then ([],false) else (flat (zP (AP e)),true))) else ([],false)
theorem JA {e:List Tok} (b:e.length<=1048576):jd e=some (Le e)/\ny e=some (Le e):=by
 have f:=pP;unfold jd ny Le;rw[CJ b,Jy b];simp only[aa];by_cases c:(decide (e.length<=24)&&isX e)=true
 ·rw[if_pos c,if_pos c,if_pos c,FO b];simp[aa];rw[aj] at c;obtain ⟨x,h,a,rfl⟩:=Lc c.2;have d:(flat x).length<=24:=by simpa using c.1
  rw[vx a,Vc a fV (by omega) (by omega),XQ a fV (by omega)];by_cases i:5000<szX x
  ·grind
  ·have g:=CL a (by omega);rw[Ld a fV (by omega) (by omega) (by omega),Tx a fV (by omega)];simp[aa];unfold rX;rw[PY (Vd a) fV [] (by omega) (by grind)];grind
 grind
theorem PZ {e:List Tok} (h:(Le e).2=true): ∃y,WT y/\(Le e).1=flat y/\(flat y).length<=400:=by
 unfold Le at h⊢;split at h
 ·rename_i c;rw[aj] at c;obtain ⟨x,b,a,rfl⟩:=Lc c.2;rw[vx a] at h⊢;split at h
  ·cases h
  ·split at h
   ·cases h
   ·grind[Vd]
 grind
def P0 (out:List Bool) (t:Int):Bool:=decide (t≥0)&&nth out t
def hit (out:List Bool) (row:List Int):Bool:=row.any (P0 out)
def Ay (a:AutT) (out:List Bool) (s:Nat):List Bool:=if hit out (nth a.2.2 s) then out.set s true else out
def mM (a:AutT) (out:List Bool):Nat->List Bool
 | 0=>out
 | s+1=>Ay a (mM a out s) s
def cnt (out:List Bool):Nat:=out.count true
theorem Z6 (out:List Bool):cnt out<=out.length:=List.count_le_length
theorem Lf {out:List Bool} {s:Nat} (h:s<out.length) (k:out[s] =true):out.set s true=out:=by
 refine List.ext_getElem (by simp) fun i b a=>?_;grind
theorem XR {out:List Bool} {s:Nat} (h:s<out.length) (k:out[s] =false):cnt (out.set s true)=cnt out+1:=by
 unfold cnt;rw[List.count_set h];simp[k]
section
variable {a:AutT} {n:Nat}
theorem FQ (a:AutT) (out:List Bool) (s:Nat):(Ay a out s).length=out.length:=by grind[Ay]
theorem mN (a:AutT) (out:List Bool): ∀s,(mM a out s).length=out.length
 | 0=>rfl
 | s+1=>by rw[mM,FQ,mN a out s]
theorem Az {out:List Bool} {s:Nat} (h:s<out.length):(Ay a out s=out/\ ¬(hit out (nth a.2.2 s)=true/\nth out s=false))\/(cnt (Ay a out s)=cnt out+1/\hit out (nth a.2.2 s)=true/\nth out s=false):=by
 grind[Ay,cB,hit,nth,Lf,XR]
theorem zQ {out:List Bool} : ∀s,s<=out.length->(mM a out s=out/\cnt (mM a out s)=cnt out)\/cnt out<cnt (mM a out s)
 | 0,_=>.inl ⟨rfl,rfl⟩
 | s+1,hs=>by
  have c:s<(mM a out s).length:=by rw[mN];omega
  have b:=zQ (out:=out) s (by omega);grind[mM,Az]
def it (a:AutT):Nat->List Bool
 | 0=>a.2.1
 | j+1=>mM a (it a j) a.2.1.length
theorem rI (a:AutT): ∀j,(it a j).length=a.2.1.length
 | 0=>rfl
 | j+1=>by rw[it,mN,rI a j]
theorem Ve (a:AutT) (j:Nat):cnt (it a j)<=a.2.1.length:=by grind[rI,Z6]
theorem JB (a:AutT) (j:Nat):(it a (j+1)=it a j)\/cnt (it a j)<cnt (it a (j+1)):=by
 rcases zQ (a:=a) (out:=it a j) a.2.1.length (by rw[rI];omega) with h | h
 ·exact .inl h.1
 ·exact .inr h
theorem Z7 {j k:Nat} (h:it a (j+1)=it a j) (b:j<=k):it a k=it a j:=by
 induction b with
 | refl=>rfl
 | step _ ih=>rw[it,ih];exact h
theorem P1 {j k:Nat} (h:it a (j+1)=it a j) (b:it a (k+1)=it a k):it a j=it a k:=by
 grind[Nat.le_total,Z7]
theorem XS (a:AutT):it a (a.2.1.length+1)=it a a.2.1.length:=by
 have key: ∀j,it a (j+1)=it a j\/j+1<=cnt (it a (j+1)):=by
  intro j;induction j with
  | zero=>grind[JB]
  | succ j ih =>
   grind[JB,it]
 grind[Ve]
def live (a:AutT):List Bool:=it a a.2.1.length
theorem xc (a:AutT):(live a).length=a.2.1.length:=rI a _
theorem Lg {α:Type} [Inhabited α] {row:List α} {p:α->Bool} {k:Nat} (h:k<row.length):(row.take (k+1)).any p=((row.take k).any p || p (nth row (k:Int))):=by
 rw[List.take_succ_eq_append_getElem h,List.any_append,cB h];simp
section
variable (V:VA a n) (hn:n<=1000000)
include V hn
theorem P2 {out:List Bool} {s:Nat} (hs:s<n) (g:out.length=n):al (nB a (out,(s:Int))) aW (out,0)=some (.brk (Ay a out s,9)):=by
 have i:=V.rowAt (s:=s) (by omega) (by omega)
 have:=aY (f:=nB a (out,(s:Int))) (fun k=>(if ((nth a.2.2 (s:Int)).take k).any (P0 out) then out.set s true else out,(k:Int))) 9 (fun k b=>by
  unfold nB;rw[if_pos (by grind),V.get (by omega) (by omega)];simp only[aa];rw[V.get2 (by omega) (by omega) b];rw[Lg (by omega),show nth (nth a.2.2 (s:Int)) (k:Int)=mv a s k from rfl];simp only[af (show k<9223372036854775807 by omega)];by_cases c:mv a s k≥0
  ·have h:=(V.mv (s:=s) (k:=k) (by omega) (by omega) b).2;by_cases q:((nth a.2.2 (s:Int)).take k).any (P0 out)=true
   ·simp_all[if_true,Bool.true_or,aA,aa,Int.toNat_natCast]
   ·simp[q,Bool.false_eq_true,if_false,Bool.false_or,P0];rw[aA c (by rw[g];exact h),aA (by omega) (by omega)];cases d:nth out (mv a s k) <;> simp[d,c]
  ·simp[P0,c]) (by rfl) (by unfold aW;omega)
 have e:(nth a.2.2 (s:Int)).take 9=nth a.2.2 (s:Int):=List.take_of_length_le (by omega);rw[e] at this;exact this
theorem H0 {out:List Bool} (d:out.length=n):al (kR a) aW (out,0)=some (.brk (mM a out n,(n:Int))):=by
 have b:=V.len;refine aY (f:=kR a) (fun s=>(mM a out s,(s:Int))) n (fun s c=>?_) ?_ (oP (by omega))
 ·unfold kR;rw[if_pos (by grind),ah (P2 V hn c (by rw[mN];exact d)),af (by omega)]
  rfl
 simp_all[kR,if_neg]
theorem Vf:mY a=some (live a):=by
 have b:=V.len;unfold mY;rw[aw (by grind)];have:=aY (f:=nC a) (fun j=>(it a j,(j:Int))) n (fun j c=>by
  unfold nC;rw[if_pos (by grind),ah (H0 V hn (by grind[rI])),af (by omega),it,b]) (by
  simp_all[nC,if_neg]) (oP (by omega))
 exact (ah this).trans (by simp[live,b])
theorem P3 {out:List Bool} {g:Bool} {s:Nat} (hs:s<n) (i:out.length=n):al (eS (g,(s:Int),out) (nth a.2.2 (s:Int))) aW (g,0,out)=some (.brk (g || (hit out (nth a.2.2 (s:Int)) && !nth out (s:Int)),9,Ay a out s)):=by
 have m:=V.rowAt (s:=s) (by omega) (by omega);have b:s<out.length:=by omega
 have:=aY (f:=eS (g,(s:Int),out) (nth a.2.2 (s:Int))) (fun k=>(g || (((nth a.2.2 (s:Int)).take k).any (P0 out) && !nth out (s:Int)),(k:Int),if ((nth a.2.2 (s:Int)).take k).any (P0 out) then out.set s true else out)) 9 (fun k d=>by
  unfold eS;rw[if_pos (by grind),V.get2 (by omega) (by omega) d];rw[Lg (by omega),show nth (nth a.2.2 (s:Int)) (k:Int)=mv a s k from rfl];simp only[af (show k<9223372036854775807 by omega)];by_cases c:mv a s k≥0
  ·have j:=(V.mv (s:=s) (k:=k) (by omega) (by omega) d).2;by_cases q:((nth a.2.2 (s:Int)).take k).any (P0 out)=true
   ·simp[q,if_true,Bool.true_or];simp_all[nth,qv,aA,aa,Int.toNat_natCast,if_true]
   ·simp[q,Bool.false_eq_true,if_false,Bool.false_or,P0,Bool.false_and,Bool.or_false];rw[aA c (by rw[i];exact j),aA (by omega) (by omega)];cases o:nth out (mv a s k) with
    | false=>simp[c]
    | true =>
     cases e:nth out (s:Int) with
     | false=>simp[c]
     | true =>
      rw[cB b] at e;simp[c,Lf b e]
  ·simp[P0,c]) (by grind[eS]) (by unfold aW;omega)
 have h:(nth a.2.2 (s:Int)).take 9=nth a.2.2 (s:Int):=List.take_of_length_le (by omega);rw[h] at this;have l:(g || (((nth a.2.2 (s:Int)).take 0).any (P0 out) && !nth out (s:Int)))=g:=by simp
 rw[l] at this;exact this
theorem H1 {out:List Bool} (j:out.length=n): ∃g,al (eT a) aW (false,0,out)=some (.brk (g,(n:Int),mM a out n))/\(g=true↔cnt out<cnt (mM a out n)):=by
 have h:=V.nlen;obtain ⟨k,e,⟨g,rfl,d⟩⟩:=fO (f:=eT a) (fun s c=> ∃g,c=(g,(s:Int),mM a out s)/\(g=true↔cnt out<cnt (mM a out s))) n (by
  rintro s c i ⟨g,rfl,d⟩;have b:(mM a out s).length=n:=by rw[mN];exact j
  unfold eT;simp only;rw[if_pos (by grind),V.get (by omega) (by omega)];simp only[aa];rw[ah (P3 V hn i b),af (by omega)];refine ⟨_,rfl,_,rfl,?_⟩;grind[zQ,Az,mM,id,absurd]) (by
  simp_all[eT,if_neg]) ⟨false,rfl,by simp[mM]⟩ (oP (by omega))
 exact ⟨g,e,d⟩
theorem Z8:gk a=some (live a):=by
 have c:=V.len;unfold gk;rw[aw (by grind)];obtain ⟨o,e,i,rfl,k⟩:=b8 (f:=jL a) (fun i s=> ∃b,s=(b,it a i)/\(b=true->i<=cnt (it a i))/\(b=false->it a (i+1)=it a i)) (fun o=> ∃i,o= .brk (false,it a i)/\it a (i+1)=it a i) (n+1) (s:=(true,a.2.1)) (by
  rintro i s k ⟨b,rfl,d,p⟩;unfold jL;cases b with
  | false=>grind
  | true =>
   have m:=Ve a i;have d:=d rfl;have ⟨g,e,l⟩:=H1 V hn (out:=it a i) (by grind[rI]);have j:mM a (it a i) n=it a (i+1):=by rw[it,c]
   rw[j] at e l;refine .inl ⟨by omega,(g,it a (i+1)),by rw[if_pos rfl,ah e],g,rfl,fun h=>?_,fun h=>?_⟩
   ·grind
   grind[it,JB]) ⟨true,rfl,fun _=>Nat.zero_le _,fun h=>by cases h⟩ (oP (by omega))
 grind[ah,P1,XS,live]
end
end
def nothing:AutT:=(0,[false],[[-1,-1,-1,-1,-1,-1,-1,-1,-1]])
theorem P4:qI=some nothing:=by kernel_rfl
theorem P5:wK=some nothing:=by kernel_rfl
theorem P6 {n:Nat} (h:n<=1000000):iOk (n:Int)=true:=by
 have b:i64.min= -9223372036854775808:=by decide
 have a:i64.max=9223372036854775807:=by decide
 simp[iOk,Lit.wf,b,a,aj,decide_eq_true_eq];omega
theorem take_one {α:Type} [Inhabited α] {xs:List α} {k:Nat} (h:k<xs.length):xs.take (k+1)=xs.take k++ [nth xs (k:Int)]:=by
 rw[List.take_succ_eq_append_getElem h,cB h]
theorem l7 {α:Type} [Inhabited α] {xs ys:List α} (h:xs <+:ys) {i:Int} (a:0<=i) (h1:i<xs.length):nth ys i=nth xs i:=by
 obtain ⟨t,rfl⟩:=h;exact j8 a h1
structure NumOk {κ:Type} [DecidableEq κ] (nx:κ->List (Option κ)) (first:κ) (G:κ->Prop) (B:Nat):Prop where
 g0:G first
 gn: ∀x,G x-> ∀y,some y∈nx x->G y
 len: ∀x,G x->(nx x).length=9
 bound: ∀l:List κ,l.Nodup->(∀x∈l,G x)->l.length<=B
section
variable {κ:Type} [DecidableEq κ] [Inhabited κ] {nx:κ->List (Option κ)} {first:κ} {G:κ->Prop} {B:Nat}
theorem NumOk.le (H:NumOk nx first G B) (i:Nat):(bfS nx first i).length<=B:=H.bound _ (pO i) (mL H.g0 H.gn i)
theorem NumOk.at (H:NumOk nx first G B) {i:Nat} (h:i<(bfS nx first i).length):G (nth (bfS nx first i) (i:Int)):=mL H.g0 H.gn i _ (cZ (by omega) (by omega))
theorem mO {i:Nat} (h:i<(bfS nx first i).length):bfS nx first (i+1)=nbS (bfS nx first i) (nx (nth (bfS nx first i) (i:Int))):=by rw[FL h,cB h]
theorem yA {i:Nat} (h:i<(bfS nx first i).length):bfR nx first (i+1)=bfR nx first i++ [nbR (bfS nx first i) (nx (nth (bfS nx first i) (i:Int)))]:=by rw[yu h,cB h]
theorem Ba {β:Type} {acc:κ->β} {i:Nat} (h:i<(bfS nx first i).length):((bfS nx first (i+1)).take (i+1)).map acc=((bfS nx first i).take i).map acc++ [acc (nth (bfS nx first i) (i:Int))]:=by
 have hp:=cq (nx:=nx) (first:=first) i;have b:=hp.length_le;have e:(bfS nx first (i+1)).take i=(bfS nx first i).take i:=by
  have ⟨t,a⟩:=hp;grind
 rw[take_one (by omega),aZ,e,l7 hp (by omega) (by omega)];rfl
def MapOf (M:List (κ×Int)) (l:List κ):Prop:=M.length=l.length/\ ∀x,M.lookup x=if x∈l then some (l.idxOf x:Int) else none
theorem MapOf.one (x:κ):MapOf [(x,0)] [x]:=by
 refine ⟨rfl,fun y=>?_⟩;grind
theorem MapOf.put {M:List (κ×Int)} {l:List κ} (h:MapOf M l) {x:κ} (a:x∉l):MapOf ((x,(l.length:Int))::M) (l++ [x]):=by
 refine ⟨by simp[h.1],fun y=>?_⟩;rw[List.lookup_cons];by_cases e:y=x
 ·grind
 ·simp[show (y==x)=false from by simp[e],h.2 y,List.mem_append,List.mem_singleton,e,or_false];grind
end
section
variable {nx:Int->List (Option Int)} {first:Int} {G:Int->Prop} {B:Nat}
theorem H2 {p3:Int->Int->Option (Int×Bool)} {l:List Int} {M:List (Int×Int)} {os:List (Option Int)} {acs:List Bool} {rws:List (List Int)} {i:Nat}
  (hi:i<l.length) (x:os.length=9) (w:MapOf M l) (m: ∀y,some y∈os->iOk y=true) (z: ∀k,(nbS l (os.take k)).length<=1000000)
  (hp: ∀(k:Nat) (o:k<9),∃j,p3 (nth l (i:Int)) (k:Int)=some (match nth os (k:Int) with | some y=>(y,true) | none=>(j,false))) :
  ∃g,al (fI p3 (l,M,(i:Int),0,acs,rws)) aW (l,M,[],0)=some (.brk (nbS l os,g,nbR l os,9))/\MapOf g (nbS l os):=by
 obtain ⟨A,e,g,rfl,r⟩:=fO (f:=fI p3 (l,M,(i:Int),0,acs,rws)) (fun k s=> ∃g,s=(nbS l (os.take k),g,nbR l (os.take k),(k:Int))/\MapOf g (nbS l (os.take k))) 9 (by
  rintro k s o ⟨d,rfl,a⟩;have b:=nl l (os.take k);have p:=b.length_le;have n:=z k;have ⟨j,q⟩:=hp k o;have u:(nbR l (os.take k)).length<=9:=by rw[ji,aq];omega
  unfold fI;simp only;rw[if_pos (by grind),aA (by omega) (by omega)];simp only[aa];rw[l7 b (by omega) (by omega),q,take_one (by omega),yt,vv];simp only[aa,af (show k<9223372036854775807 by omega)];cases t:nth os (k:Int) with
  | none =>
   simp only[Bool.false_eq_true,if_false];rw[aw (by grind)];exact ⟨_,rfl,d,rfl,a⟩
  | some y =>
   have v:=m y (t ▸ cZ (by omega) (by omega));rw[show chk (iOk y=true)=some () from by unfold chk;grind];rw[show lkM d y=_ from a.2 y];by_cases c:y∈nbS l (os.take k)
   ·simp only[c,if_true,Option.isSome_some,Option.getD_some,aa];rw[aw (by grind)];exact ⟨_,rfl,d,by rw[oo c];rfl,by grind[oo]⟩
   ·have h:Rg d iOk iOk y ((nbS l (os.take k)).length:Int)=some ((y,((nbS l (os.take k)).length:Int))::d):=by
     unfold Rg;rw[if_pos ⟨by have:=a.1;omega,v,P6 n⟩]
    simp only[c,if_false,Option.isSome_none,Bool.false_eq_true,h,aa];rw[aw (by grind)];simp only[aa];rw[aw (by grind)];refine ⟨_,rfl,(y,((nbS l (os.take k)).length:Int))::d,?_,?_⟩
    ·grind[oq,nbI,rG]
    ·rw[oq c];exact a.put c) (by
  grind[fI]) (s:=(l,M,[],0)) ⟨M,rfl,w⟩ (by unfold aW;omega)
 grind
theorem Z9 {most:Int} {p2:Int->Option Bool} {p3:Int->Int->Option (Int×Bool)} {acc:Int->Bool} (H:NumOk nx first G B) (C:B<=1000000) (m:(B:Int)<=most) (c: ∀x,G x->iOk x=true)
  (r: ∀x,G x->p2 x=some (acc x)) (v: ∀x (k:Nat),G x->k<9-> ∃j,p3 x (k:Int)=some (match nth (nx x) (k:Int) with | some y=>(y,true) | none=>(j,false))) :
  ∃N,bfE nx first N/\fY first most p2 p3=some ((0,(bfS nx first N).map acc,bfR nx first N),true):=by
 have ⟨N,t,d⟩:=U9 (nx:=nx) (first:=first) (H.le);refine ⟨N,d,?_⟩;unfold fY;rw[show Rg ([] :List (Int×Int)) iOk iOk first 0=some [(first,0)] from by unfold Rg;rw[if_pos ⟨by simp,c _ H.g0,by decide⟩]];simp[aa];obtain ⟨D,e,p,rfl,b⟩:=fO (f:=cL most p2 p3) (fun i s=> ∃M,s=(bfS nx first i,M,(i:Int),0,((bfS nx first i).take i).map acc,bfR nx first i)/\MapOf M (bfS nx first i)) N (by
  rintro i s w ⟨M,rfl,o⟩;have a:=d.2 i w;have g:=H.at a;have n:=H.le (i+1);have ⟨p,e,b⟩:=H2 (p3:=p3) (l:=bfS nx first i) (M:=M) (os:=nx (nth (bfS nx first i) (i:Int))) (acs:=((bfS nx first i).take i).map acc) (rws:=bfR nx first i) a (H.len _ g) o (fun y u=>c y (H.gn _ g y u))
   (fun k=>by
    have:(nbS (bfS nx first i) ((nx (nth (bfS nx first i) (i:Int))).take k)).length<=B:=H.bound _ (uE (pO i)) fun x h=>by
     rcases zM.1 h with h | h
     ·exact mL H.g0 H.gn i x h
     ·exact H.gn _ g x (List.mem_of_mem_take h)
    omega) (fun k q=>v _ k g q)
  unfold cL;rw[if_pos (by grind),ah e,<-mO a];rw[<-mO a] at b;have z:=(cq (nx:=nx) (first:=first) i).length_le;simp only;rw[if_neg (by grind),aA (by omega) (by omega)];simp only[aa];rw[l7 (cq i) (by omega) (by omega),r _ g];simp only[aa];have E:(bfR nx first i).length=i:=l6 fun j A=>d.2 j (by omega);rw[aw (by simp;omega)];rw[aw (by simp;omega)];simp only[aa,af (show i<9223372036854775807 by omega)];exact ⟨_,rfl,p,by rw[Ba a,yA a],b⟩) (by
  rintro s ⟨M,rfl,o⟩;unfold cL;rw[if_neg (by have:=d.1;grind)]) (s:=([first],[(first,0)],0,0,[],[])) ⟨_,rfl,MapOf.one first⟩ (oP (by omega))
 rw[ah e];rw[List.take_of_length_le (by have:=d.1;omega)]
end
theorem Vg {l:List Int} {x:Int} (h:l.length<=9223372036854775807):pn l x=some (if x∈l then (l.idxOf x:Int) else -1):=by
 unfold pn;have ⟨o,e,d⟩:=b8 (f:=qH l x) (fun i s=>s=(i:Int)/\x∉l.take i) (fun o=>(x∈l/\o= .ret (l.idxOf x:Int))\/(x∉l/\ ∃s,o= .brk s)) l.length (s:=0) (by
  rintro i s j ⟨rfl,a⟩;unfold qH;by_cases b:i<l.length
  ·rw[if_pos (by grind),aA (by omega) (by omega)];simp[aa];by_cases c:nth l (i:Int)=x
   ·refine .inr ⟨_,by rw[if_pos (by grind)],(fun g e=>by cases e),.inl ?_⟩;have e:l=l.take i++(x::l.drop (i+1)):=by
     grind[cB,List.drop_eq_getElem_cons,List.take_append_drop]
    grind
   ·refine .inl ⟨b,_,by rw[if_neg (by grind)],by grind[af],?_⟩;rw[take_one b,List.mem_append,List.mem_singleton];rintro (h | h)
    ·exact a h
    ·exact c h.symm
  simp_all[if_neg,List.take_of_length_le]) ⟨rfl,by simp⟩ (oP h)
 rcases d with ⟨a,rfl⟩ | ⟨a,s,rfl⟩
 ·rw[bI e,if_pos a]
 ·rw[ah e,if_neg a]
section
variable {a:AutT} {n:Nat} {c:List Int} {lv:List Bool} {nx:Int->List (Option Int)} {G:Int->Prop} {B:Nat} {acc:Int->Bool}
def good (n:Nat) (lv:List Bool) (r:Int):Prop:=0<=r/\r<n/\nth lv r=true
def zR (a:AutT) (c:List Int) (lv:List Bool) (r:Int):List (Option Int):=(List.range 9).map fun k=>if mv a r k≥0/\nth lv (mv a r k)=true then some (nth c (mv a r k)) else none
theorem Lh {r:Int} {k:Nat} (b:k<9):nth (zR a c lv r) (k:Int)=if mv a r k≥0/\nth lv (mv a r k)=true then some (nth c (mv a r k)) else none:=by
 grind[zR,cB]
def RepsOf (n:Nat) (lv:List Bool) (c:List Int) (rs l:List Int):Prop:=rs.length=l.length/\ ∀j:Nat,j<l.length->good n lv (nth rs j)/\nth c (nth rs j)=nth l (j:Int)
theorem RepsOf.snoc {rs l:List Int} (h:RepsOf n lv c rs l) {t:Int} (d:good n lv t):RepsOf n lv c (rs++ [t]) (l++ [nth c t]):=by
 refine ⟨by simp[h.1],fun j b=>?_⟩;by_cases e:j<l.length
 ·rw[j8 (by omega) (by have:=h.1;omega),j8 (by omega) (by omega)];exact h.2 j e
 ·have f:nth (rs++ [t]) (l.length:Int)=t:=by rw[cB (by simp[h.1])];simp[<-h.1]
  grind[nth,cB]
theorem P7 (V:VA a n) (M:n<=1000000) (O:c.length=n) (L:lv.length=n) {l rs:List Int} {acs:List Bool} {rws:List (List Int)} {i:Nat} (hi:i<l.length) (J:RepsOf n lv c rs l) {os:List (Option Int)} (H:os.length=9)
  (A: ∀r,good n lv r->nth c r=nth l (i:Int)->zR a c lv r=os) (I: ∀k,(nbS l (os.take k)).length<=1000000) :
  ∃g,al (iY a c lv (l,rs,(i:Int),0,acs,rws)) aW (l,rs,[],0)=some (.brk (nbS l os,g,nbR l os,9))/\RepsOf n lv c g (nbS l os):=by
 obtain ⟨N,e,g,rfl,K⟩:=fO (f:=iY a c lv (l,rs,(i:Int),0,acs,rws)) (fun k s=> ∃g,s=(nbS l (os.take k),g,nbR l (os.take k),(k:Int))/\RepsOf n lv c g (nbS l (os.take k))) 9 (by
  rintro k s v ⟨d,rfl,j⟩;have m:=nl l (os.take k);have z:=m.length_le;have D:=I k;have C:(nbR l (os.take k)).length<=9:=by rw[ji,aq];omega
  have E:=j.1;have ⟨⟨t,q,F⟩,y⟩:=j.2 i (by omega);rw[l7 m (by omega) (by omega)] at y;have w:=A _ ⟨t,q,F⟩ y;have b:nth os (k:Int)=if mv a (nth d (i:Int)) k≥0/\nth lv (mv a (nth d (i:Int)) k)=true then some (nth c (mv a (nth d (i:Int)) k)) else none:=by
   rw[<-w];exact Lh v
  have x:=V.mv (s:=nth d (i:Int)) (k:=k) t q v;unfold iY;simp only;rw[if_pos (by grind),aA (xs:=d) (by omega) (by omega)];simp only[aa];rw[V.get t q];simp only[aa];rw[V.get2 t q v,take_one (by omega),yt,vv];simp only[aa,af (show k<9223372036854775807 by omega)];by_cases o:mv a (nth d (i:Int)) k≥0
  ·rw[if_pos (by grind),aA (xs:=lv) o (by omega)];simp only[aa];by_cases p:nth lv (mv a (nth d (i:Int)) k)=true
   ·rw[if_pos ⟨o,p⟩] at b;rw[if_pos p,aA (xs:=c) o (by omega),b];simp only[aa];rw[Vg (by omega)];simp only[aa];by_cases u:nth c (mv a (nth d (i:Int)) k)∈nbS l (os.take k)
    ·rw[if_pos u,if_neg (by simp)];simp only[aa];rw[aw (by grind)];exact ⟨_,rfl,d,by rw[oo u];rfl,by grind[oo]⟩
    ·rw[if_neg u,if_pos (by decide)];rw[aw (by grind)];rw[aw (by grind)];simp only[aa];rw[aw (by grind)];refine ⟨_,rfl,d++ [mv a (nth d (i:Int)) k],?_,?_⟩
     ·grind[oq,nbI,rG]
     ·rw[oq u];exact j.snoc ⟨o,x.2,p⟩
   ·rw[if_neg (fun h=>p h.2)] at b;rw[if_neg p,b];simp only[aa];rw[aw (by grind)];exact ⟨_,rfl,d,rfl,j⟩
  ·rw[if_neg (fun h=>o h.1)] at b;rw[if_neg (by grind),b];simp only[aa];rw[aw (by grind)];exact ⟨_,rfl,d,rfl,j⟩) (by
  grind[iY]) (s:=(l,rs,[],0)) ⟨rs,rfl,J⟩ (by unfold aW;omega)
 grind
theorem aaa (V:VA a n) (C:n<=1000000) (K:c.length=n) (t:lv.length=n) (hs:nth lv a.1=true) (H:NumOk nx (nth c a.1) G B) (M:B<=1000000)
  (D: ∀r,good n lv r->nx (nth c r)=zR a c lv r) (h: ∀r,good n lv r->acc (nth c r)=nth a.2.1 r) :
  ∃N,bfE nx (nth c a.1) N/\kt a c lv=some (0,(bfS nx (nth c a.1) N).map acc,bfR nx (nth c a.1) N):=by
 have ⟨N,A,l⟩:=U9 (nx:=nx) (first:=nth c a.1) (H.le);refine ⟨N,l,?_⟩;have d:=V.start;unfold kt;rw[aA d.1 (by omega)];simp[aa];rw[if_pos hs,aA d.1 (by omega)];simp[aa];obtain ⟨O,e,m,rfl,q⟩:=fO (f:=lq a c lv) (fun i s=> ∃m,s=(bfS nx (nth c a.1) i,m,(i:Int),0,((bfS nx (nth c a.1) i).take i).map acc,bfR nx (nth c a.1) i)/\RepsOf n lv c m (bfS nx (nth c a.1) i)) N (by
  rintro i s I ⟨m,rfl,q⟩;have b:=l.2 i I;have y:=H.at b;have ⟨p,e,g⟩:=P7 (acs:=((bfS nx (nth c a.1) i).take i).map acc) (rws:=bfR nx (nth c a.1) i) V C K t b q (os:=nx (nth (bfS nx (nth c a.1) i) (i:Int))) (H.len _ y) (fun r L e=>by grind) (fun k=>by
    have:(nbS (bfS nx (nth c a.1) i) ((nx (nth (bfS nx (nth c a.1) i) (i:Int))).take k)).length<=B:=H.bound _ (uE (pO i)) fun x o=>by
     rcases zM.1 o with o | o
     ·exact mL H.g0 H.gn i x o
     ·exact H.gn _ y x (List.mem_of_mem_take o)
    omega)
  unfold lq;simp only;rw[if_pos (by grind),ah e];rw[<-mO b] at g;have J:=(cq (nx:=nx) (first:=nth c a.1) i).length_le;have E:=g.1;have ⟨⟨z,w,F⟩,v⟩:=g.2 i (by omega);rw[l7 (cq i) (by omega) (by omega)] at v;rw[aA (xs:=p) (by omega) (by omega)];simp only[aa];rw[V.acc z w,<-h _ ⟨z,w,F⟩,v];simp only[aa];have L:(bfR nx (nth c a.1) i).length=i:=l6 fun j u=>l.2 j (by omega);rw[aw (by simp;omega)];rw[aw (by simp;omega)];simp only[aa,af (show i<9223372036854775807 by omega)];exact ⟨_,rfl,p,by rw[<-mO b,Ba b,yA b],g⟩) (by
  rintro s ⟨m,rfl,q⟩;unfold lq;rw[if_neg (by have:=l.1;grind)]) (s:=([nth c a.1],[a.1],0,0,[],[])) ⟨[a.1],rfl,rfl,fun j u=>by
   obtain rfl:j=0:=by simpa [bfS] using u
   exact ⟨⟨d.1,d.2,hs⟩,rfl⟩⟩ (oP (by omega))
 rw[ah e];rw[List.take_of_length_le (by have:=l.1;omega)]
theorem JC (V:VA a n) (d:lv.length=n) (hs:nth lv a.1=false):kt a c lv=some nothing:=by
 have b:=V.start;simp_all[kt,aA,aa,P4]
end
abbrev El:=(List Int)×Int×Int×(List Int)×Bool
abbrev XT (x:Int) (j:Nat):Bool:=(rM (pU x (j:Int)) 1)==1
def Tz (F:List Int) (set m0:Int):Nat->Int
 | 0=>m0
 | i+1=>if XT set (i+1) then orI (Tz F set m0 i) (nth F (i:Int)) else Tz F set m0 i
def pick (L:List Int) (m letter:Int):Nat->Int
 | 0=>0
 | i+1=>if nth L (i:Int)=letter/\XT m i=true then orI (pick L m letter i) (C7 1 ((i+1:Nat):Int)) else pick L m letter i
def aft (p:El) (set letter:Int):Int:=pick p.1 (Tz p.2.2.2.1 set (if (rM set 1)==1 then p.2.1 else 0) p.2.2.2.1.length) letter p.1.length
def uF (p:El) (set:Int):Bool:=if (rM set 1)==1 then (if p.2.2.2.2 then true else (rM (pU set 1) p.2.2.1) !=0) else (rM (pU set 1) p.2.2.1) !=0
theorem uG (i:Nat):chk (0<=(i:Int))=some ():=by rfl
theorem XU {p:El} {set letter:Int} (h:p.2.2.2.1.length=p.1.length) (e:p.1.length<=1000000):qb p set letter=some (aft p set letter):=by
 have g: ∀b,al (jQ p set) aW (b,0)=some (.brk (Tz p.2.2.2.1 set b p.1.length,(p.1.length:Int))):=fun b =>
  aY (f:=jQ p set) (fun i=>(Tz p.2.2.2.1 set b i,(i:Int))) p.1.length (fun i d=>by
   unfold jQ;rw[if_pos (by grind),af (by omega),uG];rw[Tz];by_cases c:XT set (i+1)=true
   ·simp_all[if_pos,aA]
   grind) (by unfold jQ;simp) (oP (by omega))
 have j: ∀a:Int×Int,al (jR p letter a) aW (0,0)=some (.brk (pick p.1 a.1 letter p.1.length,(p.1.length:Int))):=fun a =>
  aY (f:=jR p letter a) (fun i=>(pick p.1 a.1 letter i,(i:Int))) p.1.length (fun i d=>by
   unfold jR;rw[if_pos (by grind),af (by omega),uG,uG];rw[pick];by_cases c:XT a.1 i=true
   ·rw[if_pos c,aA (by omega) (by omega)];grind
   grind) (by unfold jR;simp) (oP (by omega))
 unfold qb aft;by_cases c:((rM set 1)==1)=true
 ·simp_all[if_pos,aa,ah]
 simp_all[if_neg,aa,ah]
theorem XV {p:El} {set letter:Int} (h:p.2.2.2.1.length=p.1.length) (e:p.1.length<=1000000):iI p set letter=some (aft p set letter):=by
 have g: ∀b,al (dW p set) aW (b,0)=some (.brk (Tz p.2.2.2.1 set b p.2.2.2.1.length,(p.2.2.2.1.length:Int))):=fun b =>
  aY (f:=dW p set) (fun i=>(Tz p.2.2.2.1 set b i,(i:Int))) p.2.2.2.1.length (fun i d=>by
   unfold dW;rw[if_pos (by grind),aA (by omega) (by omega)];rw[af (by omega),uG];rw[Tz];grind) (by unfold dW;simp) (oP (by omega))
 have j: ∀a:Int×Int,al (dX p letter a) aW (0,0)=some (.brk (pick p.1 a.1 letter p.1.length,(p.1.length:Int))):=fun a =>
  aY (f:=dX p letter a) (fun i=>(pick p.1 a.1 letter i,(i:Int))) p.1.length (fun i d=>by
   unfold dX;rw[if_pos (by grind),aA (by omega) (by omega)];rw[af (by omega),uG,uG];rw[pick];grind) (by unfold dX;simp) (oP (by omega))
 unfold iI aft;by_cases c:((rM set 1)==1)=true
 ·simp_all[if_pos,aa,ah]
 simp_all[if_neg,aa,ah]
theorem aab (p:El) (x:Int):nA p x=some (uF p x):=by
 grind[nA,uF]
theorem aac (p:El) (x:Int):eR p x=some (uF p x):=by
 grind[eR,uF]
theorem MV (x:Int): -9223372036854775808<=i64.wrap x/\i64.wrap x<=9223372036854775807:=by
 simp[IntKind.wrap,IntKind.bits,IntKind.signed,Bool.true_and];grind
theorem XW (x:Int):iOk (i64.wrap x)=true:=by
 have a:i64.min= -9223372036854775808:=by decide
 simp_all[MV,iOk,Lit.wf,aj,decide_eq_true_eq]
theorem aad (m n:Int):iOk (orI m n)=true:=XW _
theorem P8 (L:List Int) (m letter:Int): ∀i,iOk (pick L m letter i)=true
 | 0=>by rfl
 | i+1=>by
  rw[pick];split
  ·exact aad _ _
  ·exact P8 L m letter i
def nxS (p:El) (x:Int):List (Option Int):=(List.range 9).map fun k:Nat=>if aft p x (k:Int)=0 then none else some (aft p x (k:Int))
theorem Vh {p:El} {x:Int} {k:Nat} (a:k<9):nth (nxS p x) (k:Int)=if aft p x k=0 then none else some (aft p x k):=by
 grind[nxS,cB]
theorem CN (p:El) (x:Int):(nxS p x).length=9:=by simp[nxS]
theorem aae {p:El} {x y:Int} (h:some y∈nxS p x):iOk y=true:=by
 have ⟨k,a,e⟩:=List.mem_map.1 h;split at e
 ·cases e
 ·cases ae e;exact P8 _ _ _ _
theorem P9 {κ:Type} [DecidableEq κ] : ∀(l:List κ) (os:List (Option κ)),(nbS l os).length<=l.length+os.length
 | l,[] =>by simp[nbS]
 | l,o::os=>by
  have h:=P9 (nbL l o) os;have a:(nbL l o).length<=l.length+1:=by
   cases o with
   | none=>simp[nbL]
   | some x=>grind[nbL]
  grind[nbS,nbL,ay]
section
variable {κ:Type} [DecidableEq κ] (nx:κ->List (Option κ)) (first:κ) (acc:κ->Bool) (most:Nat)
def goM:Nat->Nat->AutT×Bool
 | 0,i=>((0,[],[]),false)
 | f+1,i=>if i<(bfS nx first i).length then (if (bfS nx first (i+1)).length>most then ((0,[],[]),false) else goM f (i+1)) else ((0,((bfS nx first i).take i).map acc,bfR nx first i),true)
end
section
variable {κ:Type} [DecidableEq κ] {nx:κ->List (Option κ)} {first:κ} {acc:κ->Bool} {most:Nat}
theorem Qa {i:Nat} (h: ∀j,j<i->j<(bfS nx first j).length):i<=(bfS nx first i).length:=by
 cases i with
 | zero=>omega
 | succ i =>
  have a:=h i (by omega);grind[cq]
theorem Li {S:Type} {f:S->Option (Out (AutT×Bool) S)} (t:most<=1000000) (h1:1<=most) (b:Nat->S->Prop)
  (hs: ∀i s,b i s->(∀j,j<i->j<(bfS nx first j).length)->(bfS nx first i).length<=most->i<(bfS nx first i).length->((bfS nx first (i+1)).length>most->f s=some (.ret ((0,[],[]),false)))/\((bfS nx first (i+1)).length<=most-> ∃a,f s=some (.nxt a)/\b (i+1) a))
  (n: ∀i s,b i s-> ¬i<(bfS nx first i).length->f s=some (.brk s)) {s:S} (l:b 0 s) :
  (al f aW s=some (.ret ((0,[],[]),false))/\goM nx first acc most (most+2) 0=((0,[],[]),false)) \/
  ∃N a,al f aW s=some (.brk a)/\b N a/\bfE nx first N/\N<=most/\goM nx first acc most (most+2) 0=((0,(bfS nx first N).map acc,bfR nx first N),true):=by
 have ⟨o,e,u⟩:=b8 (f:=f) (fun i s=>b i s/\(∀j,j<i->j<(bfS nx first j).length)/\(bfS nx first i).length<=most/\goM nx first acc most (most+2) 0=goM nx first acc most (most+2 - i) i)
  (fun o=>(o= .ret ((0,[],[]),false)/\goM nx first acc most (most+2) 0=((0,[],[]),false))\/ ∃N a,o= .brk a/\b N a/\bfE nx first N/\N<=most/\goM nx first acc most (most+2) 0=((0,(bfS nx first N).map acc,bfR nx first N),true)) most (s:=s) (by
  rintro i s m ⟨g,d,r,h⟩;have k:=Qa d;rw[show most+2 - i=(most+1 - i)+1 from by omega] at h;have q:goM nx first acc most (most+1 - i+1) i=if i<(bfS nx first i).length then (if (bfS nx first (i+1)).length>most then ((0,[],[]),false) else goM nx first acc most (most+1 - i) (i+1)) else ((0,((bfS nx first i).take i).map acc,bfR nx first i),true):=rfl
  by_cases c:i<(bfS nx first i).length
  ·grind
  ·refine .inr ⟨_,n i s g c,(fun a e=>by cases e),.inr ⟨i,s,rfl,g,⟨by omega,d⟩,m,?_⟩⟩;grind) ⟨l,fun j p=>by omega,by simp[bfS];omega,rfl⟩ (oP (by omega))
 grind
end
section
variable {p:El} {most:Nat} (hl:p.2.2.2.1.length=p.1.length) (hb:p.1.length<=1000000) (hm:most<=900000) (h1:1<=most)
include hl hb hm h1
theorem ab3:jK p most=some (goM (nxS p) 1 (uF p) most (most+2) 0):=by
 have n: ∀(l:List Int) (i k:Nat),k<9-> ∃j,(fun b g=>eA b g (p.1,p.2.1,p.2.2.1,p.2.2.2.1,p.2.2.2.2)) (nth l (i:Int)) (k:Int)=some (match nth (nxS p (nth l (i:Int))) (k:Int) with | some y=>(y,true) | none=>(j,false)):=by
  intro l i k h;refine ⟨0,?_⟩;show eA _ _ p=_;unfold eA;rw[XV hl hb,Vh h];by_cases c:aft p (nth l (i:Int)) k=0
  ·grind
  ·grind
 unfold jK fY;rw[show Rg ([] :List (Int×Int)) iOk iOk 1 0=some [(1,0)] from by rfl];simp[aa];rcases Li (nx:=nxS p) (first:=1) (acc:=uF p) (most:=most) (f:=cL most (fun b=>eR (p.1,p.2.1,p.2.2.1,p.2.2.2.1,p.2.2.2.2) b) (fun b g=>eA b g (p.1,p.2.1,p.2.2.1,p.2.2.2.1,p.2.2.2.2)))
  (by omega) h1 (fun i s=> ∃M,s=(bfS (nxS p) 1 i,M,(i:Int),0,((bfS (nxS p) 1 i).take i).map (uF p),bfR (nxS p) 1 i)/\MapOf M (bfS (nxS p) 1 i)) (by
   rintro i s ⟨M,rfl,m⟩ r u a;have ⟨z,e,d⟩:=H2 (p3:=fun b g=>eA b g (p.1,p.2.1,p.2.2.1,p.2.2.2.1,p.2.2.2.2)) (l:=bfS (nxS p) 1 i) (M:=M) (os:=nxS p (nth (bfS (nxS p) 1 i) (i:Int))) (acs:=((bfS (nxS p) 1 i).take i).map (uF p)) (rws:=bfR (nxS p) 1 i) a (CN _ _) m (fun y t=>aae t)
    (fun k=>by
     grind[P9,bfS,nxS,nth,CN,aq]) (fun k h=>n _ i k h)
   rw[<-mO a] at d;have w:=(cq (nx:=nxS p) (first:=1) i).length_le;constructor
   ·simp_all[cL,if_pos,ah,mO]
   ·intro o;unfold cL;rw[if_pos (by grind),ah e,<-mO a];simp only;rw[if_neg (by grind),aA (by omega) (by omega)];simp only[aa];rw[l7 (cq i) (by omega) (by omega)];rw[aac];simp only[aa];have C:=l6 r;rw[aw (by simp;omega)];rw[aw (by simp;omega)];simp only[aa,af (show i<9223372036854775807 by omega)];exact ⟨_,rfl,z,by rw[Ba a,yA a],d⟩) (by
   rintro i s ⟨M,rfl,m⟩ A;simp_all[cL,if_neg]) (s:=([1],[(1,0)],0,0,[],[])) ⟨_,rfl,MapOf.one 1⟩ with ⟨e,q⟩ | ⟨N,B,e,⟨M,rfl,m⟩,v,x,q⟩
 ·grind[bI]
 ·rw[ah e,q];simp only[aa];rw[List.take_of_length_le (by have:=v.1;omega)]
theorem TA {l:List Int} {acs:List Bool} {rws:List (List Int)} {i:Nat} (hi:i<l.length) (g:l.length<=most) :
  al (kp p (l,(i:Int),0,acs,rws)) aW (l,[],0)=some (.brk (nbS l (nxS p (nth l (i:Int))),nbR l (nxS p (nth l (i:Int))),9)):=by
 have m:=CN p (nth l (i:Int))
 have:=aY (f:=kp p (l,(i:Int),0,acs,rws)) (fun k=>(nbS l ((nxS p (nth l (i:Int))).take k),nbR l ((nxS p (nth l (i:Int))).take k),(k:Int))) 9 (fun k e=>by
  have a:=nl l ((nxS p (nth l (i:Int))).take k);have b:=a.length_le;have j:=P9 l ((nxS p (nth l (i:Int))).take k);rw[aq] at j;have h:(nbR l ((nxS p (nth l (i:Int))).take k)).length<=9:=by rw[ji,aq];omega
  unfold kp;simp only[gJ];rw[if_pos (by grind),aA (by omega) (by omega)];simp only[aa];rw[l7 a (by omega) (by omega),XU hl hb];simp only[aa];rw[take_one (by omega),yt,vv,Vh e];simp only[af (show k<9223372036854775807 by omega)];by_cases c:aft p (nth l (i:Int)) k=0
  ·rw[if_pos c,if_neg (by simp[c])];simp[aa];rw[aw (by grind)];rfl
  ·rw[if_neg c,if_pos (by grind),Vg (by omega)];simp[aa];by_cases d:aft p (nth l (i:Int)) k∈nbS l ((nxS p (nth l (i:Int))).take k)
   ·rw[if_pos d,if_neg (by simp),oo d];simp[aa];rw[aw (by grind)];rfl
   ·rw[if_neg d,if_pos (by decide),aw (by grind),oq d];simp[aa];rw[aw (by simp;omega)];simp[nbI,rG d,aa]) (by
  rfl) (by unfold aW;omega)
 exact this
theorem aaf:fy p most=some (goM (nxS p) 1 (uF p) most (most+2) 0):=by
 unfold fy;rcases Li (nx:=nxS p) (first:=1) (acc:=uF p) (most:=most) (f:=gW p most)
  (by omega) h1 (fun i s=>s=(bfS (nxS p) 1 i,(i:Int),0,((bfS (nxS p) 1 i).take i).map (uF p),bfR (nxS p) 1 i)) (by
   rintro i s rfl g b a;have e:=TA hl hb hm h1 (acs:=((bfS (nxS p) 1 i).take i).map (uF p)) (rws:=bfR (nxS p) 1 i) a b;have h:=(cq (nx:=nxS p) (first:=1) i).length_le;constructor
   ·simp_all[gW,if_pos,ah,mO]
   ·intro d;unfold gW;rw[if_pos (by grind),ah e,<-mO a];simp only;rw[if_neg (by grind),aA (by omega) (by omega)];simp only[aa];rw[l7 (cq i) (by omega) (by omega)];rw[aab];simp only[aa];have l:=l6 g;rw[aw (by simp;omega)];rw[aw (by simp;omega)];simp only[aa,af (show i<9223372036854775807 by omega)];exact ⟨_,rfl,by rw[Ba a,yA a]⟩) (by
   simp_all[gW,if_neg]) (s:=([1],0,0,[],[])) rfl with ⟨e,c⟩ | ⟨N,m,e,rfl,j,k,c⟩
 ·rw[bI e,c]
 ·rw[ah e,c];rw[List.take_of_length_le (by have:=j.1;omega)]
end
theorem TC (m n:Int):orI m n=orI n m:=by unfold orI;rw[BitVec.or_comm]
def lk (F:List Int) (from_ to_:Int):Nat->List Int
 | 0=>F
 | i+1=>if XT from_ i then (lk F from_ to_ i).set i (orI (nth (lk F from_ to_ i) (i:Int)) to_) else lk F from_ to_ i
theorem yB (F:List Int) (f t:Int): ∀i,(lk F f t i).length=F.length
 | 0=>rfl
 | i+1=>by
  rw[lk];split
  ·rw[List.length_set,yB]
  ·exact yB F f t i
theorem Lj {p:El} {f t:Int} (b:p.2.2.2.1.length<=1000000):pj p f t=some (p.1,p.2.1,p.2.2.1,lk p.2.2.2.1 f t p.2.2.2.1.length,p.2.2.2.2):=by
 have e:al (kQ f t) aW (0,p.2.2.2.1)=some (.brk ((p.2.2.2.1.length:Int),lk p.2.2.2.1 f t p.2.2.2.1.length)):=aY (f:=kQ f t) (fun i=>((i:Int),lk p.2.2.2.1 f t i)) p.2.2.2.1.length (fun i d=>by
  have a:=yB p.2.2.2.1 f t i;unfold kQ;rw[if_pos (by grind),uG];rw[lk,af (by omega)];by_cases c:XT f i=true
  ·simp_all[if_pos,aA,aa,Int.toNat_natCast]
  grind) (by unfold kQ;simp[yB]) (oP (by omega))
 grind[pj,ah]
theorem Lk {p:El} {f t:Int} (b:p.2.2.2.1.length<=1000000):fm p f t=some (p.1,p.2.1,p.2.2.1,lk p.2.2.2.1 f t p.2.2.2.1.length,p.2.2.2.2):=by
 have e:al (dF p f t) aW (0,p.2.2.2.1)=some (.brk ((p.2.2.2.1.length:Int),lk p.2.2.2.1 f t p.2.2.2.1.length)):=aY (f:=dF p f t) (fun i=>((i:Int),lk p.2.2.2.1 f t i)) p.2.2.2.1.length (fun i d=>by
  have a:=yB p.2.2.2.1 f t i;unfold dF;rw[if_pos (by grind),uG];rw[lk,af (by omega)];by_cases c:XT f i=true
  ·simp_all[if_pos,aA,aa,Int.toNat_natCast]
  grind) (by unfold dF;simp) (oP (by omega))
 grind[fm,ah]
def BOk (x:Tr Tok):Prop:= ∀(n m:Nat) (p:El),(flat x).length<=n->(flat x).length<=m->p.2.2.2.1.length=p.1.length->p.1.length+(flat x).length<=100000->
 ∃(nu:Bool) (fi la:Int) (q:El),cO n p (flat x)=some ((nu,fi,la),q)/\bL m p x=some ((fi,la,nu),q)/\q.2.2.2.1.length=q.1.length/\q.1.length<=p.1.length+(flat x).length
theorem TE {x:Tr Tok} (h:WT x):BOk x:=by
 refine WT.ind (p:=BOk) ?_ ?_ ?_ h
 ·intro t e n m p c d v i;rw[FM] at c d i⊢;simp only[ay,aD] at i
  match n,m,c,d with
  | n+1,m+1,_,_ =>
   rw[cO,bL];simp only[tc,aa]
   have:=(lE (A:=[]) (t:=t) (by simp)).1
   rw[List.nil_append] at this;rw[this];simp only[aa,gJ];rcases np (show 0<=ar t by omega) with ⟨k,_⟩ | ⟨k,_⟩ | ⟨_,k⟩
   ·omega
   ·omega
   rcases k with k | k | k
   ·exact ⟨false,0,0,p,by simp[k],by simp[k],v,by simp⟩
   ·exact ⟨true,0,0,p,by simp[k],by simp[k],v,by simp⟩
   ·refine ⟨false,C7 1 (p.1.length:Int),C7 1 (p.1.length:Int),(p.1++ [t.2.1],p.2.1,p.2.2.1,p.2.2.2.1++ [0],p.2.2.2.2),?_,?_,by grind,by simp⟩
    ·rw[if_neg (by simp[k]),if_pos (by simp[k]),aw (by grind)];simp only[aa];rw[aw (by simp;omega)];rfl
    ·rw[if_neg (by simp[k]),if_pos (by simp[k]),aw (by grind)];simp only[aa];rw[aw (by simp;omega)];rfl
 ·intro t a e P ih n m p c d v i;rw[DA] at c d i⊢;simp only[az,ay,aD] at c d i
  match n,m,c,d with
  | n+1,m+1,c,d =>
   rw[cO,bL];simp only[tc,aa,gJ];obtain ⟨L,G⟩:=lE (A:=flat a) (t:=t) (by omega);rw[L];simp only[aa];obtain ⟨j,F,u,q,I,H,l,J⟩:=ih n m p (by omega) (by omega) v (by omega);rcases PV e with ⟨T,C⟩ | ⟨T,C,k3⟩
   ·have E:(t.1==2)=false:=by simp[C]
    have z:(t.1==3)=false:=by simp[C]
    have w:(t.1==4)=false:=by simp[C]
    have D:(t.1==5)=false:=by simp[C]
    simp only[E,z,w,D,T,Bool.false_eq_true,if_false,if_true];rw[G,Int.toNat_natCast,List.take_left,chk_of (by grind)];simp only[aa];rw[I,show aU [a] 0=some a from rfl];simp only[aa];rw[H];simp only[aa,gJ];rw[Lj (by omega),Lk (by omega)];simp only[aa];refine ⟨true,F,u,_,rfl,rfl,?_,?_⟩
    ·simp only[yB];exact l
    ·simp only[az,ay,aD];omega
   grind
 ·intro t a b e P Q O K n m p c d v i;rw[yx] at c d i⊢;have M:((flat a++flat b)++ [t]).length<=1000000:=by omega
  obtain ⟨S,W,U,X⟩:=yz (a:=a) (t:=t) Q M;simp only[az,ay,aD] at c d i
  match n,m,c,d with
  | n+1,m+1,c,d =>
   have hpa:=P.pos;have Z:=Q.pos;rw[cO,bL];simp only[tc,aa,gJ];obtain ⟨L,G⟩:=lE (A:=flat a++flat b) (t:=t) (by grind);rw[L];simp only[aa];obtain ⟨j,F,u,q,I,H,l,J⟩:=O n m p (by omega) (by omega) v (by omega);obtain ⟨f,s,g,o,B,y,N,hq4⟩:=K n m q (by omega) (by omega) l (by omega);have c1: ∀r:Int,0<=r->r<=((flat a++flat b++ [t]).length:Int)->chk (0<=r/\r<=((flat a++flat b++ [t]).length:Int))=some ():=fun r h1 Y=>chk_of ⟨h1,Y⟩;have V:aU [a,b] 0=some a:=rfl;have R:aU [a,b] 1=some b:=rfl;rcases np (show 0<=ar t by omega) with ⟨_,k⟩ | ⟨k,_⟩ | ⟨k,_⟩
   ·rcases k with k | k
    ·have E:(t.1==2)=false:=by simp[k]
     have z:(t.1==3)=false:=by simp[k]
     have w:(t.1==4)=true:=by simp[k]
     have D:(t.1==5)=false:=by simp[k]
     simp only[E,z,w,D,Bool.false_eq_true,if_false,if_true];rw[G,S,W,chk_of (by grind)];simp only[aa];rw[chk_of (by grind),U,X,I,V,R];simp only[aa];rw[H,chk_of (by grind)];simp only[aa,gJ];rw[B,y];simp only[aa,gJ];rw[Lj (by omega),Lk (by omega)];simp only[aa];refine ⟨j&&f,if j then orI F s else F,if f then orI u g else g,(o.1,o.2.1,o.2.2.1,lk o.2.2.2.1 u s o.2.2.2.1.length,o.2.2.2.2),?_,?_,?_,?_⟩
     ·cases j <;> cases f <;> rfl
     ·rw[TC u g];cases j <;> cases f <;> rfl
     ·grind[yB]
     grind
    ·have E:(t.1==2)=false:=by simp[k]
     have z:(t.1==3)=false:=by simp[k]
     have w:(t.1==4)=false:=by simp[k]
     have D:(t.1==5)=true:=by simp[k]
     simp only[E,z,w,D,Bool.false_eq_true,if_false,if_true];rw[G,S,W,chk_of (by grind)];simp only[aa];rw[chk_of (by grind),U,X,I,V,R];simp only[aa];rw[H,chk_of (by grind)];simp only[aa,gJ];rw[B,y];simp only[aa,gJ];refine ⟨j || f,orI F s,orI u g,o,?_,?_,N,?_⟩
     ·cases j <;> simp
     ·cases j <;> simp
     grind
   ·omega
   ·omega
def Ll (e:List Tok):Nat->Nat
 | 0=>0
 | i+1=>if (nth e (i:Int)).1=3 then Ll e i+1 else Ll e i
theorem JD (e:List Tok): ∀i,Ll e i<=i
 | 0=>aF _
 | i+1=>by
  have:=JD e i
  grind[Ll]
theorem aag {r:List Tok×Bool} (a:r.1.length<=1000000):al (eV r) aW (0,0)=some (.brk ((Ll r.1 r.1.length:Int),(r.1.length:Int))):=
 aY (f:=eV r) (fun i=>((Ll r.1 i:Int),(i:Int))) r.1.length (fun i b=>by
  have:=JD r.1 i
  unfold eV;rw[if_pos (by grind),aA (by omega) (by omega)];rw[Ll,af (show i<9223372036854775807 by omega),af (show Ll r.1 i<9223372036854775807 by omega)];grind) (by unfold eV;simp) (oP (by omega))
theorem ab4 {r:List Tok×Bool} (a:r.1.length<=1000000):al (eQ r) aW (0,0)=some (.brk ((Ll r.1 r.1.length:Int),(r.1.length:Int))):=
 aY (f:=eQ r) (fun i=>((Ll r.1 i:Int),(i:Int))) r.1.length (fun i b=>by
  have:=JD r.1 i
  unfold eQ;rw[if_pos (by grind),aA (by omega) (by omega)];rw[Ll,af (show i<9223372036854775807 by omega),af (show Ll r.1 i<9223372036854775807 by omega)];grind) (by unfold eQ;simp) (oP (by omega))
theorem xd {e:List Tok} (k:e.length<=1048576): ∃r:El×Bool,dJ e=some r/\jt e=some r/\r.1.2.2.2.1.length=r.1.1.length/\r.1.1.length<=100000:=by
 have t:=pP;have ⟨g,l⟩:=JA k;unfold dJ jt;rw[g,l];simp only[aa];by_cases c:(Le e).2=true
 ·have ⟨y,a,i,n⟩:=PZ c;rw[if_pos c,if_pos c,ah (aag (by grind)),ah (ab4 (by grind))];by_cases d:(Ll (Le e).1 (Le e).1.length:Int)>20
  ·simp_all
  ·have b:=decide_eq_false d;simp only[b,Bool.false_eq_true,if_false];rw[i,FO (by omega),vx a];simp only[aa];have ⟨p,s,o,q,m,j,h,f⟩:=TE a fV fV ([],0,0,[],false) (by omega) (by omega) rfl (by grind);rw[m,j];simp[aa];grind
 simp_all
theorem MW (n:Nat) (l:List Int) (b:l.Nodup) (h: ∀x∈l,0<=x/\x<n):l.length<=n:=by
 have:=b.length_le_of_subset (l₂:=(List.range n).map Int.ofNat) (fun x a=>by
  obtain ⟨c,d⟩:=h x a;exact List.mem_map.2 ⟨x.toNat,List.mem_range.2 (by omega),by show ((x.toNat:Nat):Int)=x;omega⟩)
 simpa using this
theorem aah {n:Nat} {x:Int} (a:n<=1000000) (b:0<=x) (h1:x<n):iOk x=true:=by
 have:=P6 (n:=x.toNat) (by omega)
 rwa [show ((x.toNat:Nat):Int)=x from by omega] at this
theorem aai {κ:Type} [DecidableEq κ] {nx:κ->List (Option κ)} {first:κ} {G:κ->Prop} {B N:Nat} {acc:κ->Bool} (H:NumOk nx first G B) (e:B<=1000000) (c:bfE nx first N):Data.sm ((0,(bfS nx first N).map acc,bfR nx first N):AutT):=by
 have d:=H.bound _ (pO (nx:=nx) (first:=first) N) (mL H.g0 H.gn N);refine ⟨trivial,⟨by rw[List.length_map];omega,fun _ _=>trivial⟩,?_,?_⟩
 ·rw[l6 c.2];have:=c.1;omega
 ·have key: ∀i,i<=N-> ∀r∈bfR nx first i,r.length=9:=by
   intro i;induction i with
   | zero=>intro _ r a;cases a
   | succ i ih =>
    intro f r a;have b:=c.2 i (by omega);rw[yu b] at a;rcases aG a with a | a
    ·exact ih (by omega) r a
    ·obtain rfl:=ak a;rw[ji,H.len _ (mL H.g0 H.gn i _ (List.getElem_mem b))]
  intro r a;exact ⟨by rw[key N (aF _) r a];decide,fun _ _=>trivial⟩
theorem MX:Data.sm nothing:=⟨trivial,⟨by decide,fun _ _=>trivial⟩,by decide,fun r a=>by
 obtain rfl:=ak a;exact ⟨by decide,fun _ _=>trivial⟩⟩
theorem MY {κ:Type} [DecidableEq κ] {l m:List κ} (h:l <+:m) {y:κ} (a:y∈l):(m.idxOf y:Int)=l.idxOf y:=by
 obtain ⟨t,rfl⟩:=h;grind
theorem Vi {κ:Type} [DecidableEq κ] : ∀(l:List κ) (os:List (Option κ)) (i:Nat),i<os.length->nth (nbR l os) (i:Int)=nbI (nbS l os) (nth os (i:Int))
 | l,o::os,0,_=>by
  show nbI l o=nbI (nbS (nbL l o) os) o;cases o with
  | none=>rfl
  | some y =>
   have b:y∈nbL l (some y):=PQ.2 (.inr rfl);simp[nbI];rw[MY (nl _ os) b];by_cases c:y∈l
   ·rw[oo c]
   simp_all[oq,List.idxOf_append,if_neg,rG]
 | l,o::os,i+1,h=>by
  have a:i<os.length:=by simpa using h
  have d:=Vi (nbL l o) os i a;have e:nth (nbR l (o::os)) ((i+1:Nat):Int)=nth (nbR (nbL l o) os) (i:Int):=by
   rfl
  have f:nth (o::os) ((i+1:Nat):Int)=nth os (i:Int):=by rfl
  exact d
theorem qT {κ:Type} [DecidableEq κ] {l:List κ} {y:κ} (h:y∈l): ∃(q:Nat) (a:q<l.length),nbI l (some y)=(q:Int)/\l[q] =y:=
 ⟨l.idxOf y,List.idxOf_lt_length_of_mem h,rfl,by simp⟩
theorem FR {κ:Type} [DecidableEq κ] {l:List κ} {y:κ} (h:y∉l):nbI l (some y)=(l.length:Int):=by simp[nbI,rG h]
def Vj:List Int->Nat->Nat->Prop
 | [],c,m=>c=m
 | x::xs,c,m=>(x= -1/\Vj xs c m)\/(0<=x/\x<c/\Vj xs c m)\/(x=c/\Vj xs (c+1) m)
theorem FU {κ:Type} [DecidableEq κ] : ∀(os:List (Option κ)) (l:List κ),Vj (nbR l os) l.length (nbS l os).length
 | [],l=>rfl
 | none::os,l=>.inl ⟨rfl,FU os l⟩
 | some y::os,l=>by
  by_cases c:y∈l
  ·refine .inr (.inl ⟨Int.natCast_nonneg _,?_,?_⟩)
   ·grind[List.idxOf_lt_length_of_mem,nbI]
   ·show Vj (nbR (nbL l (some y)) os) l.length (nbS (nbL l (some y)) os).length;rw[oo c];exact FU os l
  ·refine .inr (.inr ⟨by simp[nbI,rG c],?_⟩);show Vj (nbR (nbL l (some y)) os) (l.length+1) (nbS (nbL l (some y)) os).length
   have:=FU os (l++ [y])
   grind[oq]
def abp:List Int->List (Option (List Int))->Prop
 | [],[] =>True
 | x::xs,o::os=>((x<0/\o=none)\/(0<=x/\ ∃t,o=some (x::t)))/\abp xs os
 | _,_=>False
theorem Qb: ∀(xs:List Int) (os:List (Option (List Int))),xs.length=os.length->(∀i (h:i<xs.length) (b:i<os.length),(xs[i] < 0/\os[i] =none)\/(0<=xs[i] /\ ∃t,os[i] =some (xs[i] ::t)))->abp xs os
 | [],[],_,_=>trivial
 | x::xs,o::os,hl,h=>⟨h 0 (by simp) (by simp),Qb xs os (by grind) fun i c a=>h (i+1) (by grind) (by grind)⟩
theorem pQ: ∀(xs:List Int) (os:List (Option (List Int))) (l:List (List Int)) (c m:Nat),abp xs os->Vj xs c m->(∀y∈l,∃h t,y=h::t/\h<c)->
  m+l.length<=(nbS l os).length+c/\(l.length=c->(∀(q:Nat) (z:q<l.length),∃t,l[q] =(q:Int)::t)->(nbS l os).length=m->nbR l os=xs)
 | [],[],l,c,m,_,a,_=>by
  subst a;exact ⟨by simp[nbS];omega,fun _ _ _=>rfl⟩
 | x::xs,o::os,l,c,m,hr,a,hh=>by
  have ⟨i,b⟩:=hr;rcases a with ⟨rfl,a⟩ | ⟨u,w,a⟩ | ⟨rfl,a⟩
  ·have r:o=none:=by
    rcases i with ⟨-,h⟩ | ⟨h,-⟩
    ·exact h
    ·omega
   subst r;have ⟨g,f⟩:=pQ xs os l c m b a hh;exact ⟨g,fun p j d=>by show -1::nbR l os=_;rw[f p j d]⟩
  ·obtain ⟨t,rfl⟩: ∃t,o=some (x::t):=by
    grind
   by_cases k:(x::t)∈l
   ·have ⟨g,f⟩:=pQ xs os l c m b a hh;grind[nbL,oo,nbS,qT,nbI,nbR]
   ·have ⟨g,f⟩:=pQ xs os (l++ [x::t]) c m b a (fun y s=>by
     grind)
    grind[az,List.length_singleton,nbS,nbL]
  ·obtain ⟨t,rfl⟩: ∃t,o=some ((c:Int)::t):=by
    grind
   have k:((c:Int)::t)∉l:=fun k=>by
    grind
   have v:=oq k;have ⟨g,f⟩:=pQ xs os (l++ [(c:Int)::t]) (c+1) m b a (fun y s=>by
    grind)
   have n:(l++ [(c:Int)::t]).length=l.length+1:=by simp
   refine ⟨by grind[nbS,nbL],fun p j d=>?_⟩;have d:(nbS (nbL l (some ((c:Int)::t))) os).length=m:=d;rw[v] at d
   have:=f (by omega) (fun q z=>by
    by_cases e:q<l.length
    ·grind
    grind) d
   grind[nbI,nbR,nbL,FR]
theorem zS (xs ys:List Int) (d:xs.length<=1048576): ∃r,pg xs ys=some r/\(r=0↔xs=ys):=by
 unfold pg;have a:=Z0 (f:=qa xs ys) xs ys (fun i h b=>by
  simp[qa,bT h,bT b,if_true,aK h,aK b,aa,af (show i<9223372036854775807 by omega)];grind) (fun i j=>by
  grind[qa]) xs.length 0 aW (by omega) (de _ (by omega))
 rw[show (((0:Nat):Int))=(0:Int) from rfl] at a;rcases a with ⟨r,e,c,g⟩ | ⟨s,e,c⟩
 ·exact ⟨r,by rw[e];rfl,by grind⟩
 ·simp[aO];by_cases l:xs.length<ys.length
  ·exact ⟨-1,by grind,by grind⟩
  ·by_cases k:xs.length>ys.length
   ·exact ⟨1,by grind,by grind⟩
   ·exact ⟨0,by grind,by grind⟩
theorem yC (xs ys:List Int) (a:xs.length<=9223372036854775807):cx xs ys=some (decide (xs=ys)):=
 eqL (f:=dj xs ys) xs ys a (fun i h b=>by
  simp[dj,bT h,if_true,aK h,aK b,aa,af (show i<9223372036854775807 by omega)];grind) (by simp only[dj,bS];rfl)
def Vk (a:AutT):List Int:=(List.range a.2.1.length).map fun s:Nat=>if nth (live a) (s:Int)=true then (if nth a.2.1 (s:Int)=true then 1 else 0) else -1
def ent (a:AutT) (c:List Int) (s:Int) (k:Nat):Int:=if mv a s k<0 then -1 else nth c (mv a s k)
def Gs (a:AutT) (c:List Int) (s:Int):List Int:=nth c s::(List.range 9).map fun k=>ent a c s k
def Gt (a:AutT) (c:List Int) (s:Nat):Option (List Int):=if nth c (s:Int)<0 then none else some (Gs a c s)
def keys (a:AutT) (c:List Int):List (Option (List Int)):=(List.range a.2.1.length).map (Gt a c)
def Em (a:AutT) (c:List Int):List Int:=nbR [] (keys a c)
def C4 (a:AutT) (c:List Int):Nat:=(nbS [] (keys a c)).length
def cI (a:AutT):Nat->List Int
 | 0=>Vk a
 | j+1=>Em a (cI a j)
section
variable {a:AutT} {n:Nat}
theorem fP (a:AutT) (c:List Int):(keys a c).length=a.2.1.length:=by simp[keys]
theorem JE {c:List Int} {s:Nat} (h:s<a.2.1.length):nth (keys a c) (s:Int)=Gt a c s:=by
 grind[cB,keys]
theorem CO (a:AutT) (c:List Int):(Em a c).length=a.2.1.length:=by rw[Em,ji,fP]
theorem rJ (a:AutT): ∀j,(cI a j).length=a.2.1.length
 | 0=>by simp[cI,Vk]
 | j+1=>CO a _
theorem sD {κ:Type} [DecidableEq κ] : ∀(l:List κ) (os:List (Option κ)),(nbS l os).length<=l.length+os.length
 | l,[] =>by simp[nbS]
 | l,o::os=>by
  have h:=sD (nbL l o) os
  have:(nbL l o).length<=l.length+1:=by
   cases o with
   | none=>simp[nbL]
   | some x=>grind[nbL]
  grind[nbS,nbL,ay]
theorem JF (a:AutT) (c:List Int):C4 a c<=a.2.1.length:=by
 grind[sD,keys,fP,C4]
theorem FV {c:List Int} {s:Nat} (h:s<a.2.1.length):nth (Em a c) (s:Int)=nbI (nbS [] (keys a c)) (Gt a c s):=by
 grind[Em,Vi,fP,JE]
theorem CP {c:List Int} {s:Nat} (h:s<a.2.1.length) (b: ¬nth c (s:Int)<0):Gs a c s∈nbS [] (keys a c):=by
 refine zM.2 (.inr ?_);refine List.mem_map.2 ⟨s,List.mem_range.2 h,?_⟩;unfold Gt;grind
theorem Bb {c:List Int} {s:Nat} (h:s<a.2.1.length):(nth (Em a c) (s:Int)<0↔nth c (s:Int)<0)/\(nth (Em a c) (s:Int)<0->nth (Em a c) (s:Int)= -1):=by
 rw[FV h];unfold Gt;by_cases b:nth c (s:Int)<0
 ·simp_all[if_pos,nbI]
 ·grind[qT,CP,absurd]
theorem XX {c:List Int} {s:Nat} (h:s<a.2.1.length):nth (Em a c) (s:Int)<(a.2.1.length:Int):=by
 rw[FV h];unfold Gt;by_cases b:nth c (s:Int)<0
 ·grind[nbI]
 ·obtain ⟨q,d,e,-⟩:=qT (CP h b)
  have:=JF a c
  grind[C4]
theorem Qc {c:List Int} {s t:Nat} (hs:s<a.2.1.length) (b:t<a.2.1.length) (j:0<=nth (Em a c) (s:Int)) (h:nth (Em a c) (s:Int)=nth (Em a c) (t:Int)):Gs a c s=Gs a c t:=by
 have e: ¬nth c (s:Int)<0:=fun k=>by have:=(Bb hs).1.2 k;omega
 have i: ¬nth c (t:Int)<0:=fun k=>by simp_all[Bb]
 rw[FV hs,FV b] at h;unfold Gt at h;have ⟨q,l,o,p⟩:=qT (CP hs e);have ⟨m,f,d,g⟩:=qT (CP b i);grind
theorem En (a:AutT) {s:Nat} (h:s<a.2.1.length): ∀j,(nth (cI a j) (s:Int)<0↔nth (live a) (s:Int)=false)/\(nth (cI a j) (s:Int)<0->nth (cI a j) (s:Int)= -1)
 | 0=>by
  grind[nth,cI,live,Vk,cB]
 | j+1=>by
  have b:=En a h j;grind[Bb,cI,trans]
theorem Vl (a:AutT) {s t:Nat} (hs:s<a.2.1.length) (b:t<a.2.1.length): ∀j,0<=nth (cI a j) (s:Int)->nth (cI a j) (s:Int)=nth (cI a j) (t:Int)->nth a.2.1 (s:Int)=nth a.2.1 (t:Int)
 | 0,h0,h=>by
  grind[nth,cI,live,Vk,cB]
 | j+1,h0,h=>by
  have k:=Qc (c:=cI a j) hs b h0 h;have d:nth (cI a j) (s:Int)=nth (cI a j) (t:Int):=by
   injection k
  refine Vl a hs b j ?_ d
  have:=(Bb (c:=cI a j) hs).1
  grind[nth,cI,Em]
theorem XY (a:AutT) (j:Nat):Vj (cI a (j+1)) 0 (C4 a (cI a j)):=FU (keys a (cI a j)) []
theorem TG (a:AutT) {c:List Int} (b:c.length=a.2.1.length):abp c (keys a c):=by
 refine Qb _ _ (by rw[fP,b]) fun i h f=>?_;have d:=(cB h).symm;have e:(keys a c)[i] =Gt a c i:=by simp[keys]
 rw[d,e];unfold Gt;by_cases k:nth c (i:Int)<0
 ·grind
 ·exact .inr ⟨by omega,_,by rw[if_neg k];rfl⟩
theorem Qd (a:AutT) (j:Nat):C4 a (cI a j)<=C4 a (cI a (j+1))/\(C4 a (cI a (j+1))=C4 a (cI a j)->cI a (j+2)=cI a (j+1)):=by
 have ⟨e,b⟩:=pQ (cI a (j+1)) (keys a (cI a (j+1))) [] 0 (C4 a (cI a j)) (TG a (rJ a _)) (XY a j) (fun y d=>by cases d);exact ⟨by grind[C4],fun h=>b rfl (fun q c=>absurd c (Nat.not_lt_zero q)) h⟩
theorem aaj {j k:Nat} (h:cI a (j+1)=cI a j) (b:j<=k):cI a k=cI a j:=by
 induction b with
 | refl=>rfl
 | step _ ih=>rw[cI,ih];exact h
theorem Qe {j k:Nat} (h:cI a (j+1)=cI a j) (b:cI a (k+1)=cI a k):cI a j=cI a k:=by
 grind[Nat.le_total,aaj]
theorem XZ (a:AutT): ∃j,j<=a.2.1.length/\cI a (j+1)=cI a j:=by
 by_cases e:cI a 1=cI a 0
 ·grind
 have d:1<=C4 a (cI a 0):=by
  refine Nat.one_le_iff_ne_zero.2 fun k=>e ?_;have b: ∀s:Nat,s<a.2.1.length->nth (cI a 0) (s:Int)<0:=fun s g=>by
   grind[CP,cI,List.length_pos_of_mem,C4]
  refine XN (by grind[rJ]) fun i c=>?_;rw[rJ] at c;have l:=(En a c 0).2 (b i c);have f:=(En a c 1).2 (((En a c 1).1.trans (En a c 0).1.symm).2 (b i c));omega
 have key: ∀m,(∃j,j<=m/\cI a (j+1)=cI a j)\/m+1<=C4 a (cI a m):=by
  intro m;induction m with
  | zero=>omega
  | succ m ih =>
   grind[Qd]
 rcases key a.2.1.length with h | h
 ·exact h
 grind[JF,cI]
end
end D
end Go.Proofs.YtodbpnpbhpeepaaGreatDoor
