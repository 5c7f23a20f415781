/- FnExactSurvivingVersion: for every input the law returns true and changes nothing that was there. Part 7 of 9. -/
import Derived.Test.YtodbpnpbhpeepaaGreatDoorESC5
set_option linter.unusedVariables false
set_option linter.unusedSimpArgs false
set_option linter.unnecessarySimpa false
set_option linter.unusedSectionVars false
set_option maxRecDepth 1000000
namespace Go.Proofs.YtodbpnpbhpeepaaGreatDoor
open Go.IntKind (i64)
namespace R
open Go.RowKit
open D
abbrev y3:Ty:=.int .i64
abbrev xX:Ty:=.prod y3 (.prod y3 (.prod y3 y3))
abbrev t302:Ty:=.tree 337 302 xX
abbrev uO:Ty:=.prod y3 (.prod y3 (.prod y3 y3))
abbrev y58:Ty:=.sl 172 xX
abbrev y60:Ty:=.wr y58
abbrev yH:Ty:=.prod y3 (.prod y60 y3)
abbrev y4:Ty:=.bool
abbrev Hf:Ty:=.sl 4 y4
abbrev y70:Ty:=.sl 3 y3
abbrev ND:Ty:=.sl 70 y70
abbrev kK:Ty:=.prod y3 (.prod Hf ND)
abbrev Ya:Ty:=.prod y3 (.prod y3 y3)
abbrev Y0:Ty:=.prod y4 uO
abbrev y9:Ty:=.str
abbrev Yb:Ty:=.sl 9 y9
abbrev Yc:Ty:=.prod y3 (.prod y3 (.prod y3 y3))
abbrev Xv:Ty:=.sl 316 Yc
abbrev Xw:Ty:=.prod y70 Xv
abbrev y5:Ty:=.int .u8
abbrev y22:Ty:=.sl 5 y5
abbrev Xx:Ty:=.prod y3 (.prod Hf ND)
abbrev Yd:Ty:=.prod y3 (.prod y3 (.prod y3 y3))
abbrev Xy:Ty:=.sl 353 Yd
abbrev Xz:Ty:=.wr Xy
abbrev XA:Ty:=.prod y3 (.prod Xz y3)
abbrev Ww:Ty:=.int .u64
abbrev y71:Ty:=.sl 124 uO
abbrev y73:Ty:=.prod y70 y71
abbrev y24:Ty:=.sl 73 y73
abbrev Je:Ty:=.prod y70 (.prod y3 (.prod y3 (.prod y70 y4)))
abbrev y26:Ty:=.prod y3 y24
abbrev y27:Ty:=.sl 141 kK
abbrev y28:Ty:=.sl 126 yH
abbrev Y1:Ty:=.prod y4 (.prod y3 y3)
abbrev y30:Ty:=.prod y27 y28
abbrev Y2:Ty:=.prod y3 (.prod y3 y4)
abbrev Ye:Ty:=.fro t302
abbrev y93:Ty:=.prod y3 (.prod y3 y3)
abbrev y31:Ty:=.sl 93 y93
abbrev y33:Ty:=.prod y26 (.prod y30 (.prod y31 y9))
abbrev XB:Ty:=.sl 302 Ye
abbrev Zh:Ty:=.prod xX XB
abbrev Wx:Ty:=.int .u64
abbrev Wy:Ty:=.int .u32
abbrev y45:Ty:=.sl 219 Xw
abbrev y47:Ty:=.prod y3 y45
abbrev y48:Ty:=.sl 221 Xx
abbrev y49:Ty:=.sl 227 XA
abbrev y51:Ty:=.prod y48 y49
abbrev y52:Ty:=.sl 161 Ya
abbrev y54:Ty:=.prod y47 (.prod y51 (.prod y52 y9))
abbrev y82:Ty:=.sl 191 Y0
abbrev y84:Ty:=.wr y82
abbrev y87:Ty:=.sl 84 y84
theorem ti3:TI Tryz.prog 3 false 1:=⟨⟨_,Tryz.underlying3,rfl⟩,by kernel_rfl⟩
theorem Wz (a0:Int) (a1:Int) (a2:Int) (a3:Int) (b0:Int) (b1:Int) (b2:Int) (b3:Int) (w:World):EqT Tryz.prog 124 (.agg #[.int .i64 a0,.int .i64 a1,.int .i64 a2,.int .i64 a3]) (.agg #[.int .i64 b0,.int .i64 b1,.int .i64 b2,.int .i64 b3]) ((a0==b0)&&((a1==b1)&&((a2==b2)&&((a3==b3)&&true)))) w:=RC w Tryz.underlying124 (by kernel_rfl) (by kernel_rfl) (n9 rfl (mq ti3 rfl) (mq ti3 rfl) (run_equalIn_int w 9998 3 _ _ _ _ Tryz.underlying3) (n9 rfl (mq ti3 rfl) (mq ti3 rfl) (run_equalIn_int w 9998 3 _ _ _ _ Tryz.underlying3) (n9 rfl (mq ti3 rfl) (mq ti3 rfl) (run_equalIn_int w 9998 3 _ _ _ _ Tryz.underlying3) (n9 rfl (mq ti3 rfl) (mq ti3 rfl) (run_equalIn_int w 9998 3 _ _ _ _ Tryz.underlying3) (Lo w)))))
theorem WA (a0:Int) (a1:Int) (a2:Int) (a3:Int) (b0:Int) (b1:Int) (b2:Int) (b3:Int) (w:World):EqT Tryz.prog 172 (.agg #[.int .i64 a0,.int .i64 a1,.int .i64 a2,.int .i64 a3]) (.agg #[.int .i64 b0,.int .i64 b1,.int .i64 b2,.int .i64 b3]) ((a0==b0)&&((a1==b1)&&((a2==b2)&&((a3==b3)&&true)))) w:=RC w Tryz.underlying172 (by kernel_rfl) (by kernel_rfl) (n9 rfl (mq ti3 rfl) (mq ti3 rfl) (run_equalIn_int w 9998 3 _ _ _ _ Tryz.underlying3) (n9 rfl (mq ti3 rfl) (mq ti3 rfl) (run_equalIn_int w 9998 3 _ _ _ _ Tryz.underlying3) (n9 rfl (mq ti3 rfl) (mq ti3 rfl) (run_equalIn_int w 9998 3 _ _ _ _ Tryz.underlying3) (n9 rfl (mq ti3 rfl) (mq ti3 rfl) (run_equalIn_int w 9998 3 _ _ _ _ Tryz.underlying3) (Lo w)))))
theorem mz3 (w:World):(zeroValue 3).run Tryz.prog w= .ok (.int .i64 0) w:=by kernel_rfl
theorem kk3:KeyOk Tryz.prog 3 (fun n:Int=>Value.int .i64 n) Tm iOk:=VL Tryz.underlying3
theorem ek3:EltOk Tryz.prog 3 (fun n:Int=>Value.int .i64 n) Tm iOk 0:=VM Tryz.underlying3 mz3
def tt:TT:=[(3,⟨false,1,none,y3,[],some 8,none,false,none,none,some (some .i64),false,none⟩),
 (4,⟨false,1,none,y4,[],some 1,none,true,none,none,none,false,none⟩),
 (5,⟨false,1,none,y5,[],some 1,none,false,none,none,some (some .u8),false,none⟩),
 (9,⟨false,1,none,y9,[],some 16,none,false,none,none,some none,false,none⟩),
 (22,⟨false,1,some 5,y22,[],some 24,none,false,none,none,none,false,none⟩),
 (24,⟨false,1,some 73,y24,[],some 24,none,false,none,none,none,false,none⟩),
 (26,⟨true,2,none,y26,[(0,0),(1,0)],some 32,some [(0,1),(1,1)],false,none,none,none,false,none⟩),
 (27,⟨false,1,some 141,y27,[],some 24,none,false,none,none,none,false,none⟩),
 (28,⟨false,1,some 126,y28,[],some 24,none,false,none,none,none,false,none⟩),
 (30,⟨true,2,none,y30,[(0,0),(1,0)],some 48,some [(0,1),(1,1)],false,none,none,none,false,none⟩),
 (31,⟨false,1,some 93,y31,[],some 24,none,false,none,none,none,false,none⟩),
 (33,⟨true,6,none,y33,[(0,1),(2,1),(4,0),(5,0)],some 120,some [(0,2),(2,2),(4,1),(5,1)],false,none,none,none,false,none⟩),
 (45,⟨false,1,some 219,y45,[],some 24,none,false,none,none,none,false,none⟩),
 (47,⟨true,2,none,y47,[(0,0),(1,0)],some 32,some [(0,1),(1,1)],false,none,none,none,false,none⟩),
 (48,⟨false,1,some 221,y48,[],some 24,none,false,none,none,none,false,none⟩),
 (49,⟨false,1,some 227,y49,[],some 24,none,false,none,none,none,false,none⟩),
 (51,⟨true,2,none,y51,[(0,0),(1,0)],some 48,some [(0,1),(1,1)],false,none,none,none,false,none⟩),
 (52,⟨false,1,some 161,y52,[],some 24,none,false,none,none,none,false,none⟩),
 (54,⟨true,6,none,y54,[(0,1),(2,1),(4,0),(5,0)],some 120,some [(0,2),(2,2),(4,1),(5,1)],false,none,none,none,false,none⟩),
 (58,⟨false,1,some 172,y58,[],some 24,none,false,none,none,none,false,none⟩),
 (60,⟨true,1,none,y60,[(0,0)],some 24,some [(0,1)],false,none,none,none,false,none⟩),
 (70,⟨false,1,some 3,y70,[],some 24,none,false,none,none,none,false,none⟩),
 (71,⟨false,1,some 124,y71,[],some 24,none,false,none,none,none,false,none⟩),
 (73,⟨true,2,none,y73,[(0,0),(1,0)],some 48,some [(0,1),(1,1)],false,none,none,none,false,none⟩),
 (81,⟨false,1,none,.bool,[],none,none,false,none,none,none,true,none⟩),
 (82,⟨false,1,some 191,y82,[],some 24,none,false,none,none,none,false,none⟩),
 (84,⟨true,1,none,y84,[(0,0)],some 24,some [(0,1)],false,none,none,none,false,none⟩),
 (86,⟨false,1,none,.bool,[],none,none,false,none,none,none,true,none⟩),
 (87,⟨false,1,some 84,y87,[],some 24,none,false,none,none,none,false,none⟩),
 (93,⟨true,3,none,y93,[(0,0),(1,0),(2,0)],some 24,some [(0,1),(1,1),(2,1)],false,none,none,none,false,none⟩),
 (124,⟨true,4,none,uO,[(0,0),(1,0),(2,0),(3,0)],some 32,some [(0,1),(1,1),(2,1),(3,1)],false,some [some .i64,some .i64,some .i64,some .i64],none,none,false,none⟩),
 (126,⟨true,3,none,yH,[(0,0),(1,0),(2,0)],some 40,some [(0,1),(1,1),(2,1)],false,none,none,none,false,none⟩),
 (138,⟨false,1,some 4,Hf,[],some 24,none,false,none,none,none,false,none⟩),
 (139,⟨false,1,some 70,ND,[],some 24,none,false,none,none,none,false,none⟩),
 (141,⟨true,3,none,kK,[(0,0),(1,0),(2,0)],some 56,some [(0,1),(1,1),(2,1)],false,none,none,none,false,none⟩),
 (142,⟨false,1,none,.bool,[],none,none,false,none,none,none,true,none⟩),
 (144,⟨false,1,none,.bool,[],none,none,false,none,none,none,true,none⟩),
 (150,⟨false,1,none,.bool,[],none,none,false,none,none,none,true,none⟩),
 (152,⟨false,1,none,.bool,[],none,none,false,none,none,none,true,none⟩),
 (161,⟨true,3,none,Ya,[(0,0),(1,0),(2,0)],some 24,some [(0,1),(1,1),(2,1)],false,none,none,none,false,none⟩),
 (172,⟨true,4,none,xX,[(0,0),(1,0),(2,0),(3,0)],some 32,some [(0,1),(1,1),(2,1),(3,1)],false,some [some .i64,some .i64,some .i64,some .i64],none,none,false,none⟩),
 (191,⟨true,5,none,Y0,[(0,0),(1,3)],some 40,some [(0,1),(1,4)],false,none,none,none,false,none⟩),
 (199,⟨false,1,some 9,Yb,[],some 24,none,false,none,none,none,false,none⟩),
 (214,⟨false,1,none,.bool,[],none,none,false,none,none,none,true,none⟩),
 (217,⟨false,1,some 316,Xv,[],some 24,none,false,none,none,none,false,none⟩),
 (219,⟨true,2,none,Xw,[(0,0),(1,0)],some 48,some [(0,1),(1,1)],false,none,none,none,false,none⟩),
 (221,⟨true,3,none,Xx,[(0,0),(1,0),(2,0)],some 56,some [(0,1),(1,1),(2,1)],false,none,none,none,false,none⟩),
 (223,⟨false,1,some 353,Xy,[],some 24,none,false,none,none,none,false,none⟩),
 (225,⟨true,1,none,Xz,[(0,0)],some 24,some [(0,1)],false,none,none,none,false,none⟩),
 (227,⟨true,3,none,XA,[(0,0),(1,0),(2,0)],some 40,some [(0,1),(1,1),(2,1)],false,none,none,none,false,none⟩),
 (232,⟨false,1,none,Ww,[],some 8,none,false,none,none,some (some .u64),false,none⟩),
 (257,⟨true,5,none,Je,[(0,0),(1,0),(2,0),(3,0),(4,0)],some 72,some [(0,1),(1,1),(2,1),(3,1),(4,1)],false,none,none,none,false,none⟩),
 (291,⟨true,3,none,Y1,[(0,0),(1,0),(2,0)],some 24,some [(0,1),(1,1),(2,1)],false,none,none,none,false,none⟩),
 (300,⟨true,3,none,Y2,[(0,0),(1,0),(2,0)],some 24,some [(0,1),(1,1),(2,1)],false,none,none,none,false,none⟩),
 (302,⟨false,1,none,Ye,[],some 8,none,false,none,none,none,false,some 337⟩),
 (305,⟨false,1,none,.bool,[],none,none,false,none,none,none,true,none⟩),
 (307,⟨false,1,none,.bool,[],none,none,false,none,none,none,true,none⟩),
 (316,⟨true,4,none,Yc,[(0,0),(1,0),(2,0),(3,0)],some 32,some [(0,1),(1,1),(2,1),(3,1)],false,none,none,none,false,none⟩),
 (326,⟨false,1,none,.bool,[],none,none,false,none,none,none,true,none⟩),
 (335,⟨false,1,some 302,XB,[],some 24,none,false,none,none,none,false,none⟩),
 (337,⟨true,5,none,Zh,[(0,3),(4,0)],some 56,some [(0,4),(4,1)],false,none,none,none,false,none⟩),
 (341,⟨false,1,none,.bool,[],none,none,false,none,some ⟨3,3,.int,.int⟩,none,false,none⟩),
 (343,⟨false,1,none,.bool,[],none,none,false,none,none,none,true,none⟩),
 (353,⟨true,4,none,Yd,[(0,0),(1,0),(2,0),(3,0)],some 32,some [(0,1),(1,1),(2,1),(3,1)],false,none,none,none,false,none⟩),
 (363,⟨false,1,none,Wx,[],some 8,none,false,none,none,some (some .u64),false,none⟩),
 (391,⟨false,1,none,Wy,[],some 4,none,false,none,none,some (some .u32),false,none⟩),
 (396,⟨false,1,none,.bool,[],none,none,false,none,none,none,true,none⟩)]
theorem Km:TTok Tryz.prog tt:=⟨ub (n:=1) (z:=.int .i64 0) ⟨⟨_,Tryz.underlying3,rfl⟩,by kernel_rfl⟩ rfl (by unfold TZ;kernel_rfl) rfl (bp rfl) (fun h=>by cases h) (fun k h=>by obtain rfl:=ae h;exact Tryz.underlying3),
 ub (n:=1) (z:=.bool false) ⟨⟨_,Tryz.underlying4,rfl⟩,by kernel_rfl⟩ rfl (by unfold TZ;kernel_rfl) rfl (bp rfl) (fun h=>Tryz.underlying4) (fun k h=>by cases h),
 ub (n:=1) (z:=.int .u8 0) ⟨⟨_,Tryz.underlying5,rfl⟩,by kernel_rfl⟩ rfl (by unfold TZ;kernel_rfl) rfl (bp rfl) (fun h=>by cases h) (fun k h=>by obtain rfl:=ae h;exact Tryz.underlying5),
 ub (n:=1) (z:=.string ⟨#[]⟩) ⟨⟨_,Tryz.underlying9,rfl⟩,by kernel_rfl⟩ rfl (by unfold TZ;kernel_rfl) rfl (bp rfl) (fun h=>by cases h) (fun k h=>by obtain rfl:=ae h;exact Tryz.underlying9),
 o0 ⟨⟨_,Tryz.underlying22,rfl⟩,by kernel_rfl⟩ Tryz.underlying22 (by unfold TZ;kernel_rfl),
 o0 ⟨⟨_,Tryz.underlying24,rfl⟩,by kernel_rfl⟩ Tryz.underlying24 (by unfold TZ;kernel_rfl),
 lR (z:=.agg #[.int .i64 0,.slice none 0 0]) ⟨⟨_,Tryz.underlying26,rfl⟩,by kernel_rfl⟩ rfl ⟨⟨_,_,Tryz.underlying26,rfl,rfl,by kernel_rfl⟩,⟨_,_,Tryz.underlying26,rfl,rfl,by kernel_rfl⟩,trivial⟩ (by unfold TZ;kernel_rfl) rfl (bp rfl) ⟨_,Tryz.underlying26,by kernel_rfl⟩ (fun ks h=>by cases h),
 o0 ⟨⟨_,Tryz.underlying27,rfl⟩,by kernel_rfl⟩ Tryz.underlying27 (by unfold TZ;kernel_rfl),
 o0 ⟨⟨_,Tryz.underlying28,rfl⟩,by kernel_rfl⟩ Tryz.underlying28 (by unfold TZ;kernel_rfl),
 lR (z:=.agg #[.slice none 0 0,.slice none 0 0]) ⟨⟨_,Tryz.underlying30,rfl⟩,by kernel_rfl⟩ rfl ⟨⟨_,_,Tryz.underlying30,rfl,rfl,by kernel_rfl⟩,⟨_,_,Tryz.underlying30,rfl,rfl,by kernel_rfl⟩,trivial⟩ (by unfold TZ;kernel_rfl) rfl (bp rfl) ⟨_,Tryz.underlying30,by kernel_rfl⟩ (fun ks h=>by cases h),
 o0 ⟨⟨_,Tryz.underlying31,rfl⟩,by kernel_rfl⟩ Tryz.underlying31 (by unfold TZ;kernel_rfl),
 lR (z:=.agg #[.int .i64 0,.slice none 0 0,.slice none 0 0,.slice none 0 0,.slice none 0 0,.string ⟨#[]⟩]) ⟨⟨_,Tryz.underlying33,rfl⟩,by kernel_rfl⟩ rfl ⟨⟨_,_,Tryz.underlying33,rfl,rfl,by kernel_rfl⟩,⟨_,_,Tryz.underlying33,rfl,rfl,by kernel_rfl⟩,⟨_,_,Tryz.underlying33,rfl,rfl,by kernel_rfl⟩,⟨_,_,Tryz.underlying33,rfl,rfl,by kernel_rfl⟩,trivial⟩ (by unfold TZ;kernel_rfl) rfl (bp rfl) ⟨_,Tryz.underlying33,by kernel_rfl⟩ (fun ks h=>by cases h),
 o0 ⟨⟨_,Tryz.underlying45,rfl⟩,by kernel_rfl⟩ Tryz.underlying45 (by unfold TZ;kernel_rfl),
 lR (z:=.agg #[.int .i64 0,.slice none 0 0]) ⟨⟨_,Tryz.underlying47,rfl⟩,by kernel_rfl⟩ rfl ⟨⟨_,_,Tryz.underlying47,rfl,rfl,by kernel_rfl⟩,⟨_,_,Tryz.underlying47,rfl,rfl,by kernel_rfl⟩,trivial⟩ (by unfold TZ;kernel_rfl) rfl (bp rfl) ⟨_,Tryz.underlying47,by kernel_rfl⟩ (fun ks h=>by cases h),
 o0 ⟨⟨_,Tryz.underlying48,rfl⟩,by kernel_rfl⟩ Tryz.underlying48 (by unfold TZ;kernel_rfl),
 o0 ⟨⟨_,Tryz.underlying49,rfl⟩,by kernel_rfl⟩ Tryz.underlying49 (by unfold TZ;kernel_rfl),
 lR (z:=.agg #[.slice none 0 0,.slice none 0 0]) ⟨⟨_,Tryz.underlying51,rfl⟩,by kernel_rfl⟩ rfl ⟨⟨_,_,Tryz.underlying51,rfl,rfl,by kernel_rfl⟩,⟨_,_,Tryz.underlying51,rfl,rfl,by kernel_rfl⟩,trivial⟩ (by unfold TZ;kernel_rfl) rfl (bp rfl) ⟨_,Tryz.underlying51,by kernel_rfl⟩ (fun ks h=>by cases h),
 o0 ⟨⟨_,Tryz.underlying52,rfl⟩,by kernel_rfl⟩ Tryz.underlying52 (by unfold TZ;kernel_rfl),
 lR (z:=.agg #[.int .i64 0,.slice none 0 0,.slice none 0 0,.slice none 0 0,.slice none 0 0,.string ⟨#[]⟩]) ⟨⟨_,Tryz.underlying54,rfl⟩,by kernel_rfl⟩ rfl ⟨⟨_,_,Tryz.underlying54,rfl,rfl,by kernel_rfl⟩,⟨_,_,Tryz.underlying54,rfl,rfl,by kernel_rfl⟩,⟨_,_,Tryz.underlying54,rfl,rfl,by kernel_rfl⟩,⟨_,_,Tryz.underlying54,rfl,rfl,by kernel_rfl⟩,trivial⟩ (by unfold TZ;kernel_rfl) rfl (bp rfl) ⟨_,Tryz.underlying54,by kernel_rfl⟩ (fun ks h=>by cases h),
 o0 ⟨⟨_,Tryz.underlying58,rfl⟩,by kernel_rfl⟩ Tryz.underlying58 (by unfold TZ;kernel_rfl),
 lR (z:=.agg #[.slice none 0 0]) ⟨⟨_,Tryz.underlying60,rfl⟩,by kernel_rfl⟩ rfl ⟨⟨_,_,Tryz.underlying60,rfl,rfl,by kernel_rfl⟩,trivial⟩ (by unfold TZ;kernel_rfl) rfl (bp rfl) ⟨_,Tryz.underlying60,by kernel_rfl⟩ (fun ks h=>by cases h),
 o0 ⟨⟨_,Tryz.underlying70,rfl⟩,by kernel_rfl⟩ Tryz.underlying70 (by unfold TZ;kernel_rfl),
 o0 ⟨⟨_,Tryz.underlying71,rfl⟩,by kernel_rfl⟩ Tryz.underlying71 (by unfold TZ;kernel_rfl),
 lR (z:=.agg #[.slice none 0 0,.slice none 0 0]) ⟨⟨_,Tryz.underlying73,rfl⟩,by kernel_rfl⟩ rfl ⟨⟨_,_,Tryz.underlying73,rfl,rfl,by kernel_rfl⟩,⟨_,_,Tryz.underlying73,rfl,rfl,by kernel_rfl⟩,trivial⟩ (by unfold TZ;kernel_rfl) rfl (bp rfl) ⟨_,Tryz.underlying73,by kernel_rfl⟩ (fun ks h=>by cases h),
 xW (ty:=.bool) (b:=8) ⟨⟨_,Tryz.underlying81,rfl⟩,by kernel_rfl⟩ rfl (by unfold TZ;kernel_rfl),
 o0 ⟨⟨_,Tryz.underlying82,rfl⟩,by kernel_rfl⟩ Tryz.underlying82 (by unfold TZ;kernel_rfl),
 lR (z:=.agg #[.slice none 0 0]) ⟨⟨_,Tryz.underlying84,rfl⟩,by kernel_rfl⟩ rfl ⟨⟨_,_,Tryz.underlying84,rfl,rfl,by kernel_rfl⟩,trivial⟩ (by unfold TZ;kernel_rfl) rfl (bp rfl) ⟨_,Tryz.underlying84,by kernel_rfl⟩ (fun ks h=>by cases h),
 xW (ty:=.bool) (b:=8) ⟨⟨_,Tryz.underlying86,rfl⟩,by kernel_rfl⟩ rfl (by unfold TZ;kernel_rfl),
 o0 ⟨⟨_,Tryz.underlying87,rfl⟩,by kernel_rfl⟩ Tryz.underlying87 (by unfold TZ;kernel_rfl),
 lR (z:=.agg #[.int .i64 0,.int .i64 0,.int .i64 0]) ⟨⟨_,Tryz.underlying93,rfl⟩,by kernel_rfl⟩ rfl ⟨⟨_,_,Tryz.underlying93,rfl,rfl,by kernel_rfl⟩,⟨_,_,Tryz.underlying93,rfl,rfl,by kernel_rfl⟩,⟨_,_,Tryz.underlying93,rfl,rfl,by kernel_rfl⟩,trivial⟩ (by unfold TZ;kernel_rfl) rfl (bp rfl) ⟨_,Tryz.underlying93,by kernel_rfl⟩ (fun ks h=>by cases h),
 lR (z:=.agg #[.int .i64 0,.int .i64 0,.int .i64 0,.int .i64 0]) ⟨⟨_,Tryz.underlying124,rfl⟩,by kernel_rfl⟩ rfl ⟨⟨_,_,Tryz.underlying124,rfl,rfl,by kernel_rfl⟩,⟨_,_,Tryz.underlying124,rfl,rfl,by kernel_rfl⟩,⟨_,_,Tryz.underlying124,rfl,rfl,by kernel_rfl⟩,⟨_,_,Tryz.underlying124,rfl,rfl,by kernel_rfl⟩,trivial⟩ (by unfold TZ;kernel_rfl) rfl (bp rfl) ⟨_,Tryz.underlying124,by kernel_rfl⟩ (fun ks h=>by obtain rfl:=ae h;exact fun w a0 b0 a1 b1 a2 b2 a3 b3=>Wz a0 a1 a2 a3 b0 b1 b2 b3 w),
 lR (z:=.agg #[.int .i64 0,.slice none 0 0,.int .i64 0]) ⟨⟨_,Tryz.underlying126,rfl⟩,by kernel_rfl⟩ rfl ⟨⟨_,_,Tryz.underlying126,rfl,rfl,by kernel_rfl⟩,⟨_,_,Tryz.underlying126,rfl,rfl,by kernel_rfl⟩,⟨_,_,Tryz.underlying126,rfl,rfl,by kernel_rfl⟩,trivial⟩ (by unfold TZ;kernel_rfl) rfl (bp rfl) ⟨_,Tryz.underlying126,by kernel_rfl⟩ (fun ks h=>by cases h),
 o0 ⟨⟨_,Tryz.underlying138,rfl⟩,by kernel_rfl⟩ Tryz.underlying138 (by unfold TZ;kernel_rfl),
 o0 ⟨⟨_,Tryz.underlying139,rfl⟩,by kernel_rfl⟩ Tryz.underlying139 (by unfold TZ;kernel_rfl),
 lR (z:=.agg #[.int .i64 0,.slice none 0 0,.slice none 0 0]) ⟨⟨_,Tryz.underlying141,rfl⟩,by kernel_rfl⟩ rfl ⟨⟨_,_,Tryz.underlying141,rfl,rfl,by kernel_rfl⟩,⟨_,_,Tryz.underlying141,rfl,rfl,by kernel_rfl⟩,⟨_,_,Tryz.underlying141,rfl,rfl,by kernel_rfl⟩,trivial⟩ (by unfold TZ;kernel_rfl) rfl (bp rfl) ⟨_,Tryz.underlying141,by kernel_rfl⟩ (fun ks h=>by cases h),
 xW (ty:=.bool) (b:=8) ⟨⟨_,Tryz.underlying142,rfl⟩,by kernel_rfl⟩ rfl (by unfold TZ;kernel_rfl),
 xW (ty:=.bool) (b:=8) ⟨⟨_,Tryz.underlying144,rfl⟩,by kernel_rfl⟩ rfl (by unfold TZ;kernel_rfl),
 xW (ty:=.bool) (b:=8) ⟨⟨_,Tryz.underlying150,rfl⟩,by kernel_rfl⟩ rfl (by unfold TZ;kernel_rfl),
 xW (ty:=.bool) (b:=8) ⟨⟨_,Tryz.underlying152,rfl⟩,by kernel_rfl⟩ rfl (by unfold TZ;kernel_rfl),
 lR (z:=.agg #[.int .i64 0,.int .i64 0,.int .i64 0]) ⟨⟨_,Tryz.underlying161,rfl⟩,by kernel_rfl⟩ rfl ⟨⟨_,_,Tryz.underlying161,rfl,rfl,by kernel_rfl⟩,⟨_,_,Tryz.underlying161,rfl,rfl,by kernel_rfl⟩,⟨_,_,Tryz.underlying161,rfl,rfl,by kernel_rfl⟩,trivial⟩ (by unfold TZ;kernel_rfl) rfl (bp rfl) ⟨_,Tryz.underlying161,by kernel_rfl⟩ (fun ks h=>by cases h),
 lR (z:=.agg #[.int .i64 0,.int .i64 0,.int .i64 0,.int .i64 0]) ⟨⟨_,Tryz.underlying172,rfl⟩,by kernel_rfl⟩ rfl ⟨⟨_,_,Tryz.underlying172,rfl,rfl,by kernel_rfl⟩,⟨_,_,Tryz.underlying172,rfl,rfl,by kernel_rfl⟩,⟨_,_,Tryz.underlying172,rfl,rfl,by kernel_rfl⟩,⟨_,_,Tryz.underlying172,rfl,rfl,by kernel_rfl⟩,trivial⟩ (by unfold TZ;kernel_rfl) rfl (bp rfl) ⟨_,Tryz.underlying172,by kernel_rfl⟩ (fun ks h=>by obtain rfl:=ae h;exact fun w a0 b0 a1 b1 a2 b2 a3 b3=>WA a0 a1 a2 a3 b0 b1 b2 b3 w),
 lR (z:=.agg #[.bool false,.int .i64 0,.int .i64 0,.int .i64 0,.int .i64 0]) ⟨⟨_,Tryz.underlying191,rfl⟩,by kernel_rfl⟩ rfl ⟨⟨_,_,Tryz.underlying191,rfl,rfl,by kernel_rfl⟩,⟨_,_,Tryz.underlying191,rfl,rfl,by kernel_rfl⟩,trivial⟩ (by unfold TZ;kernel_rfl) rfl (bp rfl) ⟨_,Tryz.underlying191,by kernel_rfl⟩ (fun ks h=>by cases h),
 o0 ⟨⟨_,Tryz.underlying199,rfl⟩,by kernel_rfl⟩ Tryz.underlying199 (by unfold TZ;kernel_rfl),
 xW (ty:=.bool) (b:=8) ⟨⟨_,Tryz.underlying214,rfl⟩,by kernel_rfl⟩ rfl (by unfold TZ;kernel_rfl),
 o0 ⟨⟨_,Tryz.underlying217,rfl⟩,by kernel_rfl⟩ Tryz.underlying217 (by unfold TZ;kernel_rfl),
 lR (z:=.agg #[.slice none 0 0,.slice none 0 0]) ⟨⟨_,Tryz.underlying219,rfl⟩,by kernel_rfl⟩ rfl ⟨⟨_,_,Tryz.underlying219,rfl,rfl,by kernel_rfl⟩,⟨_,_,Tryz.underlying219,rfl,rfl,by kernel_rfl⟩,trivial⟩ (by unfold TZ;kernel_rfl) rfl (bp rfl) ⟨_,Tryz.underlying219,by kernel_rfl⟩ (fun ks h=>by cases h),
 lR (z:=.agg #[.int .i64 0,.slice none 0 0,.slice none 0 0]) ⟨⟨_,Tryz.underlying221,rfl⟩,by kernel_rfl⟩ rfl ⟨⟨_,_,Tryz.underlying221,rfl,rfl,by kernel_rfl⟩,⟨_,_,Tryz.underlying221,rfl,rfl,by kernel_rfl⟩,⟨_,_,Tryz.underlying221,rfl,rfl,by kernel_rfl⟩,trivial⟩ (by unfold TZ;kernel_rfl) rfl (bp rfl) ⟨_,Tryz.underlying221,by kernel_rfl⟩ (fun ks h=>by cases h),
 o0 ⟨⟨_,Tryz.underlying223,rfl⟩,by kernel_rfl⟩ Tryz.underlying223 (by unfold TZ;kernel_rfl),
 lR (z:=.agg #[.slice none 0 0]) ⟨⟨_,Tryz.underlying225,rfl⟩,by kernel_rfl⟩ rfl ⟨⟨_,_,Tryz.underlying225,rfl,rfl,by kernel_rfl⟩,trivial⟩ (by unfold TZ;kernel_rfl) rfl (bp rfl) ⟨_,Tryz.underlying225,by kernel_rfl⟩ (fun ks h=>by cases h),
 lR (z:=.agg #[.int .i64 0,.slice none 0 0,.int .i64 0]) ⟨⟨_,Tryz.underlying227,rfl⟩,by kernel_rfl⟩ rfl ⟨⟨_,_,Tryz.underlying227,rfl,rfl,by kernel_rfl⟩,⟨_,_,Tryz.underlying227,rfl,rfl,by kernel_rfl⟩,⟨_,_,Tryz.underlying227,rfl,rfl,by kernel_rfl⟩,trivial⟩ (by unfold TZ;kernel_rfl) rfl (bp rfl) ⟨_,Tryz.underlying227,by kernel_rfl⟩ (fun ks h=>by cases h),
 ub (n:=1) (z:=.int .u64 0) ⟨⟨_,Tryz.underlying232,rfl⟩,by kernel_rfl⟩ rfl (by unfold TZ;kernel_rfl) rfl (bp rfl) (fun h=>by cases h) (fun k h=>by obtain rfl:=ae h;exact Tryz.underlying232),
 lR (z:=.agg #[.slice none 0 0,.int .i64 0,.int .i64 0,.slice none 0 0,.bool false]) ⟨⟨_,Tryz.underlying257,rfl⟩,by kernel_rfl⟩ rfl ⟨⟨_,_,Tryz.underlying257,rfl,rfl,by kernel_rfl⟩,⟨_,_,Tryz.underlying257,rfl,rfl,by kernel_rfl⟩,⟨_,_,Tryz.underlying257,rfl,rfl,by kernel_rfl⟩,⟨_,_,Tryz.underlying257,rfl,rfl,by kernel_rfl⟩,⟨_,_,Tryz.underlying257,rfl,rfl,by kernel_rfl⟩,trivial⟩ (by unfold TZ;kernel_rfl) rfl (bp rfl) ⟨_,Tryz.underlying257,by kernel_rfl⟩ (fun ks h=>by cases h),
 lR (z:=.agg #[.bool false,.int .i64 0,.int .i64 0]) ⟨⟨_,Tryz.underlying291,rfl⟩,by kernel_rfl⟩ rfl ⟨⟨_,_,Tryz.underlying291,rfl,rfl,by kernel_rfl⟩,⟨_,_,Tryz.underlying291,rfl,rfl,by kernel_rfl⟩,⟨_,_,Tryz.underlying291,rfl,rfl,by kernel_rfl⟩,trivial⟩ (by unfold TZ;kernel_rfl) rfl (bp rfl) ⟨_,Tryz.underlying291,by kernel_rfl⟩ (fun ks h=>by cases h),
 lR (z:=.agg #[.int .i64 0,.int .i64 0,.bool false]) ⟨⟨_,Tryz.underlying300,rfl⟩,by kernel_rfl⟩ rfl ⟨⟨_,_,Tryz.underlying300,rfl,rfl,by kernel_rfl⟩,⟨_,_,Tryz.underlying300,rfl,rfl,by kernel_rfl⟩,⟨_,_,Tryz.underlying300,rfl,rfl,by kernel_rfl⟩,trivial⟩ (by unfold TZ;kernel_rfl) rfl (bp rfl) ⟨_,Tryz.underlying300,by kernel_rfl⟩ (fun ks h=>by cases h),
 X9 (e:=337) (E:=302) (u:=xX) ⟨⟨_,Tryz.underlying302,rfl⟩,by kernel_rfl⟩ Tryz.underlying302 (by unfold TZ;kernel_rfl),
 xW (ty:=.bool) (b:=8) ⟨⟨_,Tryz.underlying305,rfl⟩,by kernel_rfl⟩ rfl (by unfold TZ;kernel_rfl),
 xW (ty:=.bool) (b:=8) ⟨⟨_,Tryz.underlying307,rfl⟩,by kernel_rfl⟩ rfl (by unfold TZ;kernel_rfl),
 lR (z:=.agg #[.int .i64 0,.int .i64 0,.int .i64 0,.int .i64 0]) ⟨⟨_,Tryz.underlying316,rfl⟩,by kernel_rfl⟩ rfl ⟨⟨_,_,Tryz.underlying316,rfl,rfl,by kernel_rfl⟩,⟨_,_,Tryz.underlying316,rfl,rfl,by kernel_rfl⟩,⟨_,_,Tryz.underlying316,rfl,rfl,by kernel_rfl⟩,⟨_,_,Tryz.underlying316,rfl,rfl,by kernel_rfl⟩,trivial⟩ (by unfold TZ;kernel_rfl) rfl (bp rfl) ⟨_,Tryz.underlying316,by kernel_rfl⟩ (fun ks h=>by cases h),
 xW (ty:=.bool) (b:=8) ⟨⟨_,Tryz.underlying326,rfl⟩,by kernel_rfl⟩ rfl (by unfold TZ;kernel_rfl),
 o0 ⟨⟨_,Tryz.underlying335,rfl⟩,by kernel_rfl⟩ Tryz.underlying335 (by unfold TZ;kernel_rfl),
 lR (z:=.agg #[.int .i64 0,.int .i64 0,.int .i64 0,.int .i64 0,.slice none 0 0]) ⟨⟨_,Tryz.underlying337,rfl⟩,by kernel_rfl⟩ rfl ⟨⟨_,_,Tryz.underlying337,rfl,rfl,by kernel_rfl⟩,⟨_,_,Tryz.underlying337,rfl,rfl,by kernel_rfl⟩,trivial⟩ (by unfold TZ;kernel_rfl) rfl (bp rfl) ⟨_,Tryz.underlying337,by kernel_rfl⟩ (fun ks h=>by cases h),
 X8 (m:=⟨3,3,.int,.int⟩) (ty:=.bool) ⟨⟨_,Tryz.underlying341,rfl⟩,by kernel_rfl⟩ rfl ⟨Tryz.underlying341,kk3,ek3⟩,
 xW (ty:=.bool) (b:=8) ⟨⟨_,Tryz.underlying343,rfl⟩,by kernel_rfl⟩ rfl (by unfold TZ;kernel_rfl),
 lR (z:=.agg #[.int .i64 0,.int .i64 0,.int .i64 0,.int .i64 0]) ⟨⟨_,Tryz.underlying353,rfl⟩,by kernel_rfl⟩ rfl ⟨⟨_,_,Tryz.underlying353,rfl,rfl,by kernel_rfl⟩,⟨_,_,Tryz.underlying353,rfl,rfl,by kernel_rfl⟩,⟨_,_,Tryz.underlying353,rfl,rfl,by kernel_rfl⟩,⟨_,_,Tryz.underlying353,rfl,rfl,by kernel_rfl⟩,trivial⟩ (by unfold TZ;kernel_rfl) rfl (bp rfl) ⟨_,Tryz.underlying353,by kernel_rfl⟩ (fun ks h=>by cases h),
 ub (n:=1) (z:=.int .u64 0) ⟨⟨_,Tryz.underlying363,rfl⟩,by kernel_rfl⟩ rfl (by unfold TZ;kernel_rfl) rfl (bp rfl) (fun h=>by cases h) (fun k h=>by obtain rfl:=ae h;exact Tryz.underlying363),
 ub (n:=1) (z:=.int .u32 0) ⟨⟨_,Tryz.underlying391,rfl⟩,by kernel_rfl⟩ rfl (by unfold TZ;kernel_rfl) rfl (bp rfl) (fun h=>by cases h) (fun k h=>by obtain rfl:=ae h;exact Tryz.underlying391),
 xW (ty:=.bool) (b:=8) ⟨⟨_,Tryz.underlying396,rfl⟩,by kernel_rfl⟩ rfl (by unfold TZ;kernel_rfl),trivial⟩
theorem mixed:Tryz.prog.follows .mixedOrders=true:=by kernel_rfl
def Si (fn:Func):Code:=match fn.body with
 | some c=>c
 | none=>.skip
theorem fk {k:FuncId} {fn:Func} {f:FS} (ft:FT) (hF:FTok Tryz.prog ft) (hf:Tryz.prog.funcs[k]? =some fn) (ann:Ann) (an:List (Nat×Ty):=[]) (tr:Trs:=[]) (hb:fn.body=some (Si fn):=by rfl) (he:(fn.name == "runtime.NumGoroutine")=false:=by kernel_rfl) (hcl:f.cl=none:=by rfl) (hm:Nat.ble f.ps.length fn.ntmps=true:=by rfl) (hdp:(EH f.rs&&wj f.ps)=true:=by rfl)
  (hmod: ∀d,appP f.ps f.m d=j7 ⟨tt,ft,an,fn.ntmps,tr⟩ (Nv ⟨tt,ft,an,fn.ntmps,tr⟩ fn.results.toList f.rs f.ps d) (Si fn) ann (fun r=>some r) (fun _ _=>none) (Nv ⟨tt,ft,an,fn.ntmps,tr⟩ fn.results.toList f.rs f.ps d) (qS (zL f.ps d)):=by intro d;kernel_rfl):FOk Tryz.prog k f:=
 fok (V:=⟨tt,ft,an,fn.ntmps,tr⟩) Km hF mixed hf hb rfl (enters_of hf he hb) hcl (bp hm) hdp ann hmod
def iO:FS:=⟨[.rd y3,.rd y3,.rd y3],[y4],bY,none⟩
def sP:FS:=⟨[.rd uO,.rd y3],[y4],fB,none⟩
def gA:FS:=⟨[.rd y73],[y4],bG,none⟩
def cY:FS:=⟨[.rd y70,.rd y70],[y4],cf,none⟩
def kB:FS:=⟨[.rd y26],[y4],m_i_IsValidHistory,none⟩
def dW:FS:=⟨[.rd y26],[y3],bH,none⟩
def bF:FS:=⟨[.rd y27,.rd y27,.fn [kK,kK] [y4]],[y4],aY,none⟩
def gM:FS:=⟨[.rd Hf,.rd Hf],[y4],dJ,none⟩
def cq:FS:=⟨[.rd ND,.rd ND,.fn [y70,y70] [y4]],[y4],bL,none⟩
def nz:FS:=⟨[.rd y70,.rd y70],[y4],fX,none⟩
def kW:FS:=⟨[.rd kK,.rd kK],[y4],dS,none⟩
def bA:FS:=⟨[.rd y28,.rd y28,.fn [yH,yH] [y4]],[y4],aS,none⟩
def fU:FS:=⟨[.rd y58,.rd y58],[y4],cn,none⟩
def tj:FS:=⟨[.rd y60,.rd y60],[y4],lj,none⟩
def qw:FS:=⟨[.rd yH,.rd yH],[y4],gx,none⟩
def nA:FS:=⟨[.rd y30,.rd y30],[y4],fY,none⟩
def rA:FS:=⟨[.rd y60],[y60],fQ,none⟩
def rB:FS:=⟨[.rd y3],[y4],jH,none⟩
def zQ:FS:=⟨[.rd xX],[y4],pR,none⟩
def bJ:FS:=⟨[.rd XB],[XB],fun _=>none,some (302,8)⟩
def sQ:FS:=⟨[.rd y60],[t302],mQ,none⟩
def Cb:FS:=⟨[.rd y60],[y4],sF,none⟩
def rC:FS:=⟨[.rd y60],[y4],j9,none⟩
def lO (n:Nat):FS:=⟨[.rd t302],[y3],bS n,none⟩
def Jf:FS:=⟨[.rd y3],[t302],Ds,none⟩
def oz (n:Nat):FS:=⟨[.eat t302,.rd y3,.rd y3],[t302],jI n,none⟩
def kC (n:Nat):FS:=⟨[.rd t302],[t302],bC n,none⟩
def jw (n:Nat):FS:=⟨[.rd t302,.ptr 60 y60],[],bz n,none⟩
def vr:FS:=⟨[.rd t302],[y60],pT,none⟩
def tl:FS:=⟨[.rd y60],[y60,y4],ln,none⟩
def mr:FS:=⟨[.ptr 257 Je,.rd y3,.rd y3],[],dG,none⟩
def gp (n:Nat):FS:=⟨[.ptr 257 Je,.rd t302],[Y2],bD n,none⟩
def oA:FS:=⟨[.rd y60],[Je,y4],gK,none⟩
def mc:FS:=⟨[.rd y3,.rd y3,.fn [y3] [y4],.fn [y3,y3] [y3,y4]],[kK,y4],eL,none⟩
def lX:FS:=⟨[.rd Je,.rd y3],[y4],dk,none⟩
def nB:FS:=⟨[.rd Je,.rd y3,.rd y3],[y3],fZ,none⟩
def pd:FS:=⟨[.rd y3,.rd y3,.cap 257 Je],[y3,y4],da,none⟩
def rD:FS:=⟨[.rd Je,.rd y3],[kK,y4],gW,none⟩
def bM:FS:=⟨[.rd Hf],[Hf],fun _=>none,some (4,1)⟩
def oB:FS:=⟨[.rd kK],[Hf],eR,none⟩
def eI:FS:=⟨[.rd ND,.fn [y70] [y4]],[y3],bU,none⟩
def kL:FS:=⟨[.rd y70,.cap 70 y70],[y4],gI,none⟩
def mu:FS:=⟨[.rd kK,.rd y70],[y70,y3],dH,none⟩
def lY:FS:=⟨[.rd kK],[y70],dq,none⟩
def nC:FS:=⟨[.rd Wy,.rd Wy],[Wy,Wy],uc,none⟩
def nD:FS:=⟨[.rd Wx,.rd Wx],[Wx,Wx],ni,none⟩
def pe:FS:=⟨[.rd Ww,.rd Ww],[Ww,Ww],o6,none⟩
def ix:FS:=⟨[.rd y70,.rd y3],[y70],gY,none⟩
def zR:FS:=⟨[],[kK],ud,none⟩
def iR:FS:=⟨[.rd y70,.rd y3],[y3],eJ,none⟩
def jM:FS:=⟨[.rd y3,.cap 70 y70],[y3],bd,none⟩
def jN:FS:=⟨[.rd y3,.cap 141 kK,.capf 343 [y3] [y3]],[y4],cE,none⟩
def oC:FS:=⟨[.rd kK,.rd y3,.rd y3],[y3],eS,none⟩
def jO:FS:=⟨[.rd y3,.rd y3,.cap 141 kK,.capf 343 [y3] [y3],.cap 70 y70],[y3,y4],cF,none⟩
def kM:FS:=⟨[.rd kK],[kK],cr,none⟩
def Fq:FS:=⟨[.rd kK],[kK,y4],zP,none⟩
def rE:FS:=⟨[.rd y60],[kK,y4],gZ,none⟩
def cW:FS:=⟨[.rd y27,.fn [kK] [y4]],[y3],bc,none⟩
def xp:FS:=⟨[.rd kK,.cap 141 kK],[y4],lT,none⟩
def Cc:FS:=⟨[.rd y28],[y30,y4],sG,none⟩
def nE:FS:=⟨[.rd y30],[y4],ga,none⟩
def cL:FS:=⟨[.rd y28,.fn [yH] [y4]],[y3],bT,none⟩
def rF:FS:=⟨[.rd yH,.cap 3 y3],[y4],kd,none⟩
def vt:FS:=⟨[.rd y30,.rd y3],[y3],ke,none⟩
def lZ:FS:=⟨[.rd y9,.rd y5],[.int .i64],eT,none⟩
def qx:FS:=⟨[.rd y3],[.str],l9,none⟩
def qc:FS:=⟨[.rd y3],[y9],df,none⟩
def oP:FS:=⟨[.rd uO],[y9],iW,none⟩
def qy:FS:=⟨[.rd Yb,.rd y9],[.str],jj,none⟩
def nF:FS:=⟨[.rd y84],[y9],eu,none⟩
def xq:FS:=⟨[.rd y9],[y3],jJ,none⟩
def me:FS:=⟨[.rd y3,.rd y84],[y9],eM,none⟩
def kX:FS:=⟨[.rd y9,.rd y9],[.sl 9 .str],cG,none⟩
def rG:FS:=⟨[.rd y9],[.int .i64,.bool],fR,none⟩
def rH:FS:=⟨[.rd y9,.rd y9],[.str,.str,.bool],cQ,none⟩
def vu:FS:=⟨[.rd y9],[uO,y4],gb,none⟩
def tm:FS:=⟨[.rd y9],[y84,y4],dN,none⟩
def qz:FS:=⟨[.rd y9],[y3,y84,y4],jk,none⟩
def uo:FS:=⟨[.rd y9],[y70,.sl 84 (.bag y84),y3],m_i_ScanLog,none⟩
def iP:FS:=⟨[.rd y33],[y4],dU,none⟩
def rI:FS:=⟨[.rd y70],[y70],lU,none⟩
def kD:FS:=⟨[.rd y73],[y73],dL,none⟩
def nG:FS:=⟨[.rd y26],[y26],hH,none⟩
def pf:FS:=⟨[.rd kK],[kK],iF,none⟩
def qA:FS:=⟨[.rd y30],[y30],jl,none⟩
def oQ:FS:=⟨[.rd y33],[y33],iX,none⟩
def jD:FS:=⟨[.ptr 33 y33],[y3],eB,none⟩
def fg:FS:=⟨[.rd y71,.fn [uO] [y4]],[y3],cX,none⟩
def rJ:FS:=⟨[.rd uO,.cap 3 y3],[y4],nk,none⟩
def qd:FS:=⟨[.rd y73,.rd y3],[y3],kg,none⟩
def gB:FS:=⟨[.eat (.sl 124 uO),.rd y3,.ow (.sl 124 uO)],[.sl 124 uO],cA,none⟩
def tn:FS:=⟨[.rd y73,.rd uO],[y73,y4],lq,none⟩
def gN:FS:=⟨[.rd y71,.rd uO],[y3],dM,none⟩
def fM:FS:=⟨[.rd y71,.rd uO],[y4],b7,none⟩
def gC:FS:=⟨[.eat (.sl 124 uO),.rd y3,.rd y3],[.sl 124 uO],cB,none⟩
def tq:FS:=⟨[.rd y73,.rd y3],[y73,y4],lr,none⟩
def tu:FS:=⟨[.rd y73,.rd y84],[y73,y4],iY,none⟩
def rK:FS:=⟨[.rd y26,.rd y84],[y26,y4],hO,none⟩
def rL:FS:=⟨[.rd y33,.rd y84],[y33,y4],hY,none⟩
def jE:FS:=⟨[.rd y84,.ptr 33 y33],[y4],gf,none⟩
def Cd:FS:=⟨[.rd y9,.kb 40 33 y33,.kc 42],[y3],wE,none⟩
def pg:FS:=⟨[.rd y33,.rd y9],[y33,y3],iG,none⟩
def lP:FS:=⟨[.rd y3,.rd y3,.rd y3],[y4],cR,none⟩
def wH:FS:=⟨[.rd y73,.rd uO],[y4],o8,none⟩
def gD:FS:=⟨[.rd y73],[y4],cV,none⟩
def vv:FS:=⟨[.rd y70,.rd y70],[y3],np,none⟩
def gO:FS:=⟨[.rd y26],[y4],m_s_IsValidHistory,none⟩
def sR:FS:=⟨[.rd y58],[y60],gG,none⟩
def rM:FS:=⟨[.rd y3],[y4],lV,none⟩
def uq:FS:=⟨[.rd xX],[y3],nr,none⟩
def Ce:FS:=⟨[.rd y60],[y4],sH,none⟩
def rN:FS:=⟨[.rd y60],[y4],kh,none⟩
def qe:FS:=⟨[.rd y58],[y3],hZ,none⟩
def qf (n:Nat):FS:=⟨[.rd y58],[y3],eD n,none⟩
def wI:FS:=⟨[.rd y60,.rd y60,.rd xX],[y60],kP,none⟩
def Cf:FS:=⟨[.rd y3],[y60],o9,none⟩
def oD (n:Nat):FS:=⟨[.rd y60,.rd y3,.rd y3],[y60],jK n,none⟩
def mG (n:Nat):FS:=⟨[.rd y58],[y60],cS n,none⟩
def tv:FS:=⟨[.rd y60],[y60,y4],lx,none⟩
def zS:FS:=⟨[.ptr 257 Je,.rd y3,.rd y3],[],nt,none⟩
def oE (n:Nat):FS:=⟨[.ptr 257 Je,.rd y58],[Y1],dt n,none⟩
def oF:FS:=⟨[.rd y60],[Je,y4],gL,none⟩
def xr:FS:=⟨[.rd Je,.rd y3,.rd y3],[y3],om,none⟩
def ur:FS:=⟨[.rd y70,.rd y3],[y3],nw,none⟩
def tw:FS:=⟨[.rd Je,.rd y3],[y4],lz,none⟩
def tx:FS:=⟨[.rd Je,.rd y3],[kK,y4],ja,none⟩
def tz:FS:=⟨[],[kK],oO,none⟩
def vx:FS:=⟨[.rd kK,.rd y70,.rd Hf],[kK],iH,none⟩
def uu:FS:=⟨[.rd kK],[Hf],kQ,none⟩
def Cg:FS:=⟨[.rd kK,.rd y70,.rd y3],[y70],pa,none⟩
def tC:FS:=⟨[.rd kK],[y70],jd,none⟩
def rO:FS:=⟨[.rd kK],[kK],fI,none⟩
def rP:FS:=⟨[.rd y60],[kK,y4],ij,none⟩
def kY:FS:=⟨[.rd kK,.rd kK],[y4],fJ,none⟩
def xt:FS:=⟨[.rd y27,.rd kK],[y3],lW,none⟩
def xu:FS:=⟨[.rd y28],[y30,y4],oo,none⟩
def tD:FS:=⟨[.rd y60,.rd y60],[y4],lB,none⟩
def nH:FS:=⟨[.rd y30,.rd y30],[y4],gg,none⟩
def nI:FS:=⟨[.rd y30],[y4],gi,none⟩
def db:FS:=⟨[.rd y26],[y3],a8,none⟩
def vy:FS:=⟨[.rd y30,.rd y3],[y3],kj,none⟩
def zT:FS:=⟨[.rd y33],[y4],ue,none⟩
def mH:FS:=⟨[.rd y3],[y9],b9,none⟩
def mf:FS:=⟨[.rd y3],[y9],eO,none⟩
def oR:FS:=⟨[.rd uO],[y9],je,none⟩
def nJ:FS:=⟨[.rd y84],[y9],cT,none⟩
def xw:FS:=⟨[.rd y9],[y3],fS,none⟩
def mg:FS:=⟨[.rd y3,.rd y84],[y9],dE,none⟩
def vz:FS:=⟨[.rd y9,.rd y5],[Yb],im,none⟩
def rQ:FS:=⟨[.rd y9],[y3,y4],fT,none⟩
def rR:FS:=⟨[.rd y9],[y3,y4],fL,none⟩
def vA:FS:=⟨[.rd y9],[uO,y4],gj,none⟩
def tE:FS:=⟨[.rd y9],[y84,y4],dO,none⟩
def qB:FS:=⟨[.rd y9],[y3,y84,y4],jn,none⟩
def uv:FS:=⟨[.rd y9],[y70,.sl 84 (.bag y84),y3],m_s_ScanLog,none⟩
def Ci:FS:=⟨[.rd y33],[y4],wG,none⟩
def iQ:FS:=⟨[.rd y33],[y4],dV,none⟩
def mR:FS:=⟨[.rd y73],[y73],ct,none⟩
def wJ:FS:=⟨[.rd y26],[y26],pb,none⟩
def zU:FS:=⟨[.rd kK],[kK],pV,none⟩
def zV:FS:=⟨[.rd y30],[y30],pW,none⟩
def uw:FS:=⟨[.rd y33],[y33],ny,none⟩
def mI:FS:=⟨[.rd y73,.rd y3],[y3],iJ,none⟩
def tF:FS:=⟨[.rd y73,.rd uO],[y73,y4],lC,none⟩
def tG:FS:=⟨[.rd y73,.rd y3],[y73,y4],lD,none⟩
def zW:FS:=⟨[.rd y73,.rd y84],[y73,y4],uf,none⟩
def tH:FS:=⟨[.rd y73,.rd y84],[y73,y4],ji,none⟩
def rS:FS:=⟨[.rd y26,.rd y84],[y26,y4],iu,none⟩
def rT:FS:=⟨[.rd y33,.rd y84],[y33,y4],iw,none⟩
def ph:FS:=⟨[.rd y33,.rd y9],[y33,y3],iL,none⟩
def wK:FS:=⟨[.rd y70,.rd y3],[y3],sI,none⟩
def zX:FS:=⟨[.rd Xv,.rd y3],[y3],ug,none⟩
def zY:FS:=⟨[.rd Xw,.rd y3],[y3],pX,none⟩
def xx:FS:=⟨[.rd y45,.rd y3],[y3],ru,none⟩
def vB:FS:=⟨[.rd y47,.rd y3],[y3],mB,none⟩
def zZ:FS:=⟨[.rd Hf,.rd y3],[y3],uh,none⟩
def Aa:FS:=⟨[.rd ND,.rd y3],[y3],ui,none⟩
def rU:FS:=⟨[.rd Xx,.rd y3],[y3],kp,none⟩
def qC:FS:=⟨[.rd y48,.rd y3],[y3],ma,none⟩
def xy:FS:=⟨[.rd Xy,.rd y3],[y3],rv,none⟩
def Cj:FS:=⟨[.rd Xz,.rd y3],[y3],sJ,none⟩
def qD:FS:=⟨[.rd XA,.rd y3],[y3],jo,none⟩
def pj:FS:=⟨[.rd y49,.rd y3],[y3],kS,none⟩
def tI:FS:=⟨[.rd y51,.rd y3],[y3],lF,none⟩
def pn:FS:=⟨[.rd y52,.rd y3],[y3],kT,none⟩
def xz:FS:=⟨[.rd y54,.rd y3],[y3],ot,none⟩
def wL:FS:=⟨[.rd y70],[y70],pc,none⟩
def Ck:FS:=⟨[.rd Yc],[uO],sK,none⟩
def Ab:FS:=⟨[.rd Xv],[y71],pY,none⟩
def Ac:FS:=⟨[.rd Xw],[y73],pZ,none⟩
def xA:FS:=⟨[.rd y45],[y24],ou,none⟩
def vC:FS:=⟨[.rd y47],[y26],mD,none⟩
def Ad:FS:=⟨[.rd Hf],[Hf],p7,none⟩
def Ae:FS:=⟨[.rd ND],[ND],p8,none⟩
def rV:FS:=⟨[.rd Xx],[kK],kt,none⟩
def qF:FS:=⟨[.rd y48],[y27],jq,none⟩
def Af:FS:=⟨[.rd Yd],[xX],p9,none⟩
def xB:FS:=⟨[.rd Xy],[y58],ox,none⟩
def Cl:FS:=⟨[.rd Xz],[y60],sL,none⟩
def qG:FS:=⟨[.rd XA],[yH],jr,none⟩
def po:FS:=⟨[.rd y49],[y28],iM,none⟩
def tJ:FS:=⟨[.rd y51],[y30],lJ,none⟩
def qH:FS:=⟨[.rd Ya],[y93],jt,none⟩
def pq:FS:=⟨[.rd y52],[y31],iN,none⟩
def xC:FS:=⟨[.rd y54],[y33],jL,none⟩
def wM:FS:=⟨[.rd y70,.rd y70],[y4],sM,none⟩
def Cm:FS:=⟨[.rd uO,.rd uO],[y4],sN,none⟩
def Ag:FS:=⟨[.rd y71,.rd y71],[y4],uj,none⟩
def Ah:FS:=⟨[.rd y73,.rd y73],[y4],qa,none⟩
def xD:FS:=⟨[.rd y24,.rd y24],[y4],ry,none⟩
def vD:FS:=⟨[.rd y26,.rd y26],[y4],mF,none⟩
def Ai:FS:=⟨[.rd Hf,.rd Hf],[y4],uk,none⟩
def Aj:FS:=⟨[.rd ND,.rd ND],[y4],um,none⟩
def rW:FS:=⟨[.rd kK,.rd kK],[y4],kz,none⟩
def qI:FS:=⟨[.rd y27,.rd y27],[y4],mb,none⟩
def Ak:FS:=⟨[.rd xX,.rd xX],[y4],qb,none⟩
def xE:FS:=⟨[.rd y58,.rd y58],[y4],rz,none⟩
def Cn:FS:=⟨[.rd y60,.rd y60],[y4],sO,none⟩
def qJ:FS:=⟨[.rd yH,.rd yH],[y4],ju,none⟩
def pv:FS:=⟨[.rd y28,.rd y28],[y4],kU,none⟩
def tK:FS:=⟨[.rd y30,.rd y30],[y4],lN,none⟩
def qK:FS:=⟨[.rd y93,.rd y93],[y4],jv,none⟩
def pw:FS:=⟨[.rd y31,.rd y31],[y4],kV,none⟩
def xF:FS:=⟨[.rd y33,.rd y33],[y4],oy,none⟩
def mw:FS:=⟨[.rd y33,.rd y9],[y3],fw,none⟩
def my:FS:=⟨[.rd y33,.rd y9],[y3],fx,none⟩
def nK:FS:=⟨[.rd y54,.rd y9],[y4],cU,none⟩
end R
namespace R
open Go.RowKit
open D
theorem jP:FOk Tryz.prog 59 iO:=fk [] trivial Tryz.func59 .no
theorem wN:FOk Tryz.prog 186 sP:=fk [(59,iO)] ⟨jP,trivial⟩ Tryz.func186 .no
theorem jx:FOk Tryz.prog 118 gA:=fk [(59,iO),(186,sP)] ⟨jP,wN,trivial⟩ Tryz.func118 (.t (.t (.two (.t (.loop [.s 14] .no)) (.two (.t (.loop [.s 25] .no)) .no))))
theorem eK:FOk Tryz.prog 119 cY:=fk [] trivial Tryz.func119 (.t (.t (.two (.t (.loop [.s 13] .no)) .no)))
theorem oG:FOk Tryz.prog 57 kB:=fk [(59,iO),(118,gA),(119,cY)] ⟨jP,jx,eK,trivial⟩ Tryz.func57 (.t (.t (.t (.two (.t (.loop [.s 24] .no)) .no))))
theorem fN:FOk Tryz.prog 41 dW:=fk [(57,kB)] ⟨oG,trivial⟩ Tryz.func41 .no
theorem cM:FOk Tryz.prog 109 bF:=fk [] trivial Tryz.func109 (.t (.t (.two (.t (.loop [.s 17] .no)) .no)))
theorem mJ:FOk Tryz.prog 178 gM:=fk [] trivial Tryz.func178 (.t (.t (.two (.t (.loop [.s 13] .no)) .no)))
theorem eY:FOk Tryz.prog 179 cq:=fk [] trivial Tryz.func179 (.t (.t (.two (.t (.loop [.s 17] .no)) .no)))
theorem uy:FOk Tryz.prog 180 nz:=fk [(119,cY)] ⟨eK,trivial⟩ Tryz.func180 .no
theorem px:FOk Tryz.prog 110 kW:=fk [(178,gM),(179,cq),(180,nz)] ⟨mJ,eY,uy,trivial⟩ Tryz.func110 .no
theorem cC:FOk Tryz.prog 111 bA:=fk [] trivial Tryz.func111 (.t (.t (.two (.t (.loop [.s 17] .no)) .no)))
theorem l5:FOk Tryz.prog 237 fU:=fk [] trivial Tryz.func237 (.t (.t (.two (.t (.loop [.s 13] .no)) .no)))
theorem Bi:FOk Tryz.prog 181 tj:=fk [(237,fU)] ⟨l5,trivial⟩ Tryz.func181 .no
theorem xY:FOk Tryz.prog 112 qw:=fk [(181,tj)] ⟨Bi,trivial⟩ Tryz.func112 .no
theorem uz:FOk Tryz.prog 48 nA:=fk [(109,bF),(110,kW),(111,bA),(112,qw)] ⟨cM,px,cC,xY,trivial⟩ Tryz.func48 .no
theorem xG:FOk Tryz.prog 164 rA:=fk [] trivial Tryz.func164 .no
end R
namespace R
open Go.RowKit
open D
theorem xH:FOk Tryz.prog 371 rB:=fk [(59,iO)] ⟨jP,trivial⟩ Tryz.func371 .no
theorem Hg:FOk Tryz.prog 335 zQ:=fk [(59,iO),(371,rB)] ⟨jP,xH,trivial⟩ Tryz.func335 (.t (.two (.t (.t (.t (.t (.t (.join [.slot 37 .boo] .no .no)))))) .no))
theorem mi:FOk Tryz.prog 336 bJ:=Fl (f:=bJ) (j8 (f:=⟨bJ.ps,bJ.rs,bJ.m,none⟩) (enters_of Tryz.func336 (by kernel_rfl) rfl) rfl (fun d=>rfl)) (I6 (V:=⟨tt,[],[(5,.raw)],8,[]⟩) Km trivial mixed Tryz.func336 rfl rfl (enters_of Tryz.func336 (by kernel_rfl) rfl) (bp rfl) .no (fun E bn xs=>by cases bn <;> kernel_rfl))
theorem wO:FOk Tryz.prog 293 sQ:=fk [(335,zQ),(336,bJ)] ⟨Hg,mi,trivial⟩ Tryz.func293 (.t (.t (.two (.t (.loop [.slot 3 (.own 302 Ye),.s 13] (.t (.t (.two (.t (.t (.two (.t (.at [.s 6] (.two (.t (.at [.slot 19 .boo] .no)) (.t (.two (.t (.at [.slot 22 .boo] .no)) .no))))) .no))) .no))))) .no))) (tr:=[(337,302,xX)])
theorem Kn:FOk Tryz.prog 368 Cb:=fk [(293,sQ)] ⟨wO,trivial⟩ Tryz.func368 .no (tr:=[(337,302,xX)])
theorem Al:FOk Tryz.prog 330 rC:=fk [(368,Cb)] ⟨Kn,trivial⟩ Tryz.func330 .no
theorem tL: ∀n,FOk Tryz.prog 331 (lO n)
 | 0=>j8 (f:=lO 0) (enters_of Tryz.func331 (by kernel_rfl) rfl) rfl (fun d=>rfl)
 | n+1=>by
  have ih:=tL n
  exact fk [(331,(lO n))] ⟨ih,trivial⟩ Tryz.func331 (.t (.t (.two (.t (.loop [.s 3,.s 11] (.t (.t (.two (.at [.s 3] .no) .no))))) .no))) (tr:=[(337,302,xX)])
theorem QP:FOk Tryz.prog 392 Jf:=fk [] trivial Tryz.func392 .no (tr:=[(337,302,xX)])
theorem xI: ∀n,FOk Tryz.prog 369 (oz n)
 | 0=>j8 (f:=oz 0) (enters_of Tryz.func369 (by kernel_rfl) rfl) rfl (fun d=>rfl)
 | n+1=>by
  have ih:=xI n
  exact fk [(369,(oz n)),(392,Jf)] ⟨ih,QP,trivial⟩ Tryz.func369 .no (tr:=[(337,302,xX)])
theorem rX: ∀n,FOk Tryz.prog 332 (kC n)
 | 0=>j8 (f:=kC 0) (enters_of Tryz.func332 (by kernel_rfl) rfl) rfl (fun d=>rfl)
 | n+1=>by
  have ih:=rX n
  exact fk [(332,(kC n)),(369,(oz gr))] ⟨ih,(xI gr),trivial⟩ Tryz.func332 (.t (.t (.t (.two (.t (.loop [.s 41,.box 3 [(.num .i64),(.num .i64),(.num .i64),(.num .i64),(.own 302 (.tree 337 302 xX))]] .no)) .no)))) (an:=[(52,t302)]) (tr:=[(337,302,xX)])
theorem qL: ∀n,FOk Tryz.prog 370 (jw n)
 | 0=>j8 (f:=jw 0) (enters_of Tryz.func370 (by kernel_rfl) rfl) rfl (fun d=>rfl)
 | n+1=>by
  have ih:=qL n
  exact fk [(370,(jw n))] ⟨ih,trivial⟩ Tryz.func370 (.two (.t (.loop [.s 11,.box 1 [(.own 172 xX)]] .no)) .no) (tr:=[(337,302,xX)])
theorem Dt:FOk Tryz.prog 333 vr:=fk [(370,(jw gr))] ⟨(qL gr),trivial⟩ Tryz.func333 .no (tr:=[(337,302,xX)])
theorem Bj:FOk Tryz.prog 291 tl:=fk [(293,sQ),(330,rC),(331,(lO gr)),(332,(kC gr)),(333,vr)] ⟨wO,Al,(tL gr),(rX gr),Dt,trivial⟩ Tryz.func291 .no (tr:=[(337,302,xX)])
theorem sZ:FOk Tryz.prog 334 mr:=fk [] trivial Tryz.func334 (.t (.loop [.s 12,.par 4 [3] 3 y3] (.t (.t (.two (.at [.par 4 [3] 3 y3] .no) .no)))))
theorem nL: ∀n,FOk Tryz.prog 292 (gp n)
 | 0=>j8 (f:=gp 0) (enters_of Tryz.func292 (by kernel_rfl) rfl) rfl (fun d=>rfl)
 | n+1=>by
  have ih:=nL n
  exact fk [(292,(gp n)),(334,mr)] ⟨ih,sZ,trivial⟩ Tryz.func292 (.t (.two (.t (.t (.t (.t (.t (.t (.t (.t (.two (.t (.t (.t (.two (.t (.at [.box 10 [(.num .i64),(.num .i64),.boo]] .no)) (.two (.t (.at [.box 10 [(.num .i64),(.num .i64),.boo]] .no)) .no))))) .no))))))))) .no)) (tr:=[(337,302,xX)])
theorem vE:FOk Tryz.prog 241 oA:=fk [(291,tl),(292,(gp gr)),(293,sQ)] ⟨Bj,(nL gr),wO,trivial⟩ Tryz.func241 (.t (.t (.t (.t (.two (.t (.loop [.s 6,.s 22] (.t (.t (.two (.at [.s 6] .no) .no))))) .no))))) (tr:=[(337,302,xX)])
theorem qM:FOk Tryz.prog 294 mc:=fk [] trivial Tryz.func294 (.t (.t (.t (.t (.two (.t (.loop [.slot 10 (.own 3 y3),.slot 11 (.map ⟨3,3,.int,.int⟩),.s 13,.box 12 [(.num .i64),(.own 4 y4),(.own 70 y70)]] (.t (.two (.t (.two (.t (.loop [.slot 10 (.own 3 y3),.slot 11 (.map ⟨3,3,.int,.int⟩),.slot 14 (.own 3 y3),.s 15] (.t (.join [.slot 10 (.own 3 y3),.slot 11 (.map ⟨3,3,.int,.int⟩),.slot 14 (.own 3 y3)] (.t (.t (.t (.join [.slot 10 (.own 3 y3),.slot 11 (.map ⟨3,3,.int,.int⟩),.s 18] .no .no)))) .no)))) .no)) .no)))) .no)))))
end R
namespace R
open Go.RowKit
open D
theorem rY:FOk Tryz.prog 295 lX:=fk [] trivial Tryz.func295 .no
theorem uA:FOk Tryz.prog 297 nB:=fk [] trivial Tryz.func297 (.t (.t (.join [.s 7] .no (.two (.t (.loop [.s 7,.s 21] (.t (.t (.join [.s 7] .no .no))))) (.t (.two (.t (.loop [.s 10,.s 39] (.t (.t (.join [.s 10] .no .no))))) .no))))))
theorem wP:FOk Tryz.prog 296 pd:=fk [(297,nB)] ⟨uA,trivial⟩ Tryz.func296 .no
theorem Am:FOk Tryz.prog 242 rD:=fk [(294,mc),(295,lX),(296,pd)] ⟨qM,rY,wP,trivial⟩ Tryz.func242 .no
theorem mK:FOk Tryz.prog 393 bM:=Fl (f:=bM) (j8 (f:=⟨bM.ps,bM.rs,bM.m,none⟩) (enters_of Tryz.func393 (by kernel_rfl) rfl) rfl (fun d=>rfl)) (I6 (V:=⟨tt,[],[(5,.raw)],8,[]⟩) Km trivial mixed Tryz.func393 rfl rfl (enters_of Tryz.func393 (by kernel_rfl) rfl) (bp rfl) .no (fun E bn xs=>by cases bn <;> kernel_rfl))
theorem vF:FOk Tryz.prog 372 oB:=fk [(393,bM)] ⟨mK,trivial⟩ Tryz.func372 (.t (.t (.two (.t (.loop [.slot 4 .boo,.row 3 4 y4] (.t (.t (.t (.loop [.slot 4 .boo,.s 16,.row 3 4 y4] (.t (.t (.two (.t (.t (.loop [.slot 4 .boo,.s 23,.row 3 4 y4] (.t (.t (.two (.at [.slot 4 .boo,.row 3 4 y4] .no) .no)))))) .no))))))))) .no)))
theorem jV:FOk Tryz.prog 394 eI:=fk [] trivial Tryz.func394 (.t (.two (.t (.loop [.s 8] .no)) .no))
theorem qW:FOk Tryz.prog 395 kL:=fk [(119,cY)] ⟨eK,trivial⟩ Tryz.func395 .no
theorem ta:FOk Tryz.prog 373 mu:=fk [(394,eI),(395,kL)] ⟨jV,qW,trivial⟩ Tryz.func373 (.t (.t (.t (.two (.t (.loop [.slot 6 (.own 70 y70),.slot 7 (.own 3 y3),.s 18] (.t (.t (.join [.slot 6 (.own 70 y70),.slot 7 (.own 3 y3)] (.t (.t (.t (.two (.t (.loop [.s 36,.box 10 [(.own 3 y3)]] (.t (.t (.two (.t (.join [.s 12] .no .no)) .no))))) (.t (.join [.slot 6 (.own 70 y70),.s 13,.gone 10] .no .no)))))) .no))))) .no))))
theorem rZ:FOk Tryz.prog 337 lY:=fk [(372,oB),(373,mu)] ⟨vF,ta,trivial⟩ Tryz.func337 (.t (.t (.two (.t (.loop [.slot 3 (.own 3 y3),.s 13] (.t (.t (.join [.slot 3 (.own 3 y3)] .no .no))))) (.t (.loop [.slot 3 (.own 3 y3),.s 6] .no)))))
theorem uB:FOk Tryz.prog 407 nC:=fk [] trivial Tryz.func407 .no
theorem uC:FOk Tryz.prog 408 nD:=fk [] trivial Tryz.func408 .no
theorem wQ:FOk Tryz.prog 396 pe:=fk [(407,nC),(408,nD)] ⟨uB,uC,trivial⟩ Tryz.func396 .no
theorem nM:FOk Tryz.prog 374 ix:=fk [(396,pe)] ⟨wQ,trivial⟩ Tryz.func374 (.t (.t (.t (.t (.t (.t (.two (.loop [.s 8,.row 7 3 (.int .i64)] .no) .no))))))) (an:=[(44,.bool)])
theorem Hh:FOk Tryz.prog 338 zR:=fk [(374,ix)] ⟨nM,trivial⟩ Tryz.func338 .no
theorem n7:FOk Tryz.prog 340 iR:=fk [] trivial Tryz.func340 (.t (.two (.t (.loop [.s 8] .no)) .no))
theorem py:FOk Tryz.prog 339 jM:=fk [(340,iR)] ⟨n7,trivial⟩ Tryz.func339 .no
end R
namespace R
open Go.RowKit
open D
theorem pz:FOk Tryz.prog 341 jN:=fk [] trivial Tryz.func341 .no
theorem vG:FOk Tryz.prog 343 oC:=fk [(371,rB)] ⟨xH,trivial⟩ Tryz.func343 .no
theorem pA:FOk Tryz.prog 342 jO:=fk [(343,oC)] ⟨vG,trivial⟩ Tryz.func342 .no
theorem qX:FOk Tryz.prog 298 kM:=fk [(294,mc),(337,lY),(338,zR),(339,jM),(341,jN),(342,jO)] ⟨qM,rZ,Hh,py,pz,pA,trivial⟩ Tryz.func298 .no
theorem NF:FOk Tryz.prog 243 Fq:=fk [(298,kM)] ⟨qX,trivial⟩ Tryz.func243 .no
theorem An:FOk Tryz.prog 187 rE:=fk [(241,oA),(242,rD),(243,Fq)] ⟨vE,Am,NF,trivial⟩ Tryz.func187 .no
theorem gE:FOk Tryz.prog 188 cW:=fk [] trivial Tryz.func188 (.t (.two (.t (.loop [.s 8] .no)) .no))
theorem Fs:FOk Tryz.prog 189 xp:=fk [(110,kW)] ⟨px,trivial⟩ Tryz.func189 .no
theorem Ko:FOk Tryz.prog 120 Cc:=fk [(59,iO),(164,rA),(187,rE),(188,cW),(189,xp)] ⟨jP,xG,An,gE,Fs,trivial⟩ Tryz.func120 (.t (.t (.two (.t (.loop [.s 13,.box 4 [(.own 141 kK),(.own 126 yH)]] (.t (.t (.two (.t (.t (.t (.t (.join [.s 9,.box 4 [(.own 141 kK),(.own 126 yH)],.gone 7] .no .no))))) .no))))) .no)))
theorem uD:FOk Tryz.prog 58 nE:=fk [(48,nA),(120,Cc)] ⟨uz,Ko,trivial⟩ Tryz.func58 .no
theorem fP:FOk Tryz.prog 121 cL:=fk [] trivial Tryz.func121 (.t (.two (.t (.loop [.s 8] .no)) .no))
theorem Ao:FOk Tryz.prog 122 rF:=fk [] trivial Tryz.func122 .no
theorem Du:FOk Tryz.prog 60 vt:=fk [(121,cL),(122,rF)] ⟨fP,Ao,trivial⟩ Tryz.func60 .no
theorem sb:FOk Tryz.prog 123 lZ:=Do Dr (enters_of Tryz.func123 (by kernel_rfl) rfl)
theorem xZ:FOk Tryz.prog 234 qx:=QM Jb (enters_of Tryz.func234 (by kernel_rfl) rfl)
theorem vH:FOk Tryz.prog 167 qc:=fk [(234,qx)] ⟨xZ,trivial⟩ Tryz.func167 .no
theorem tM:FOk Tryz.prog 232 oP:=fk [(167,qc),(186,sP)] ⟨vH,wN,trivial⟩ Tryz.func232 .no
end R
namespace R
open Go.RowKit
open D
theorem ya:FOk Tryz.prog 233 qy:=QN QO NC 9 (enters_of Tryz.func233 (by kernel_rfl) rfl)
theorem sd:FOk Tryz.prog 166 nF:=fk [(232,oP),(233,qy)] ⟨tM,ya,trivial⟩ Tryz.func166 (.t (.t (.t (.two (.t (.loop [.slot 3 (.own 9 y9),.s 15] (.t (.t (.two (.atX [.slot 3 (.own 9 y9)] .no) .no))))) .no))))
theorem Ft:FOk Tryz.prog 168 xq:=fk [] trivial Tryz.func168 (.t (.t (.two (.t (.loop [.s 3,.s 4] .no)) .no)))
theorem qN:FOk Tryz.prog 103 me:=fk [(59,iO),(166,nF),(167,qc),(168,xq)] ⟨jP,sd,vH,Ft,trivial⟩ Tryz.func103 .no
theorem pB:FOk Tryz.prog 191 kX:=Nz NB (by kernel_rfl) (by kernel_rfl) (enters_of Tryz.func191 (by kernel_rfl) rfl)
theorem Ap (n a b:Int) (w:World):Calls Tryz.prog 59 #[.int .i64 n,.int .i64 a,.int .i64 b] w fun e w'=>e= .returned (.bool (decide (a<=n/\n<=b)))/\w'=w:=by
 by_cases h:a<=n
 ·go_enter Tryz.func59,Tryz.ntmps59
  go_wp2
  go_ret
  simp[h]
 ·go_enter Tryz.func59,Tryz.ntmps59
  go_wp2
  go_ret
  simp
  try (intro k;omega)
theorem Hi (s:ByteArray) (r:Int×Bool) (w:World) (hr:rr s=some r) (hL:LayW Tryz.prog w):Calls Tryz.prog 192 #[.string s] w fun e w'=>e= .returned (.tuple #[.int .i64 r.1,.bool r.2])/\Below w.heap.size w w':=by
 unfold rr at hr
 by_cases h10:10<s.size
 ·rw[if_pos h10] at hr
  obtain rfl:=ae hr
  go_enter Tryz.func192,Tryz.ntmps192
  go_wp2
  go_ret2
  exact ⟨rfl,Below.refl _ _⟩
 ·rw[if_neg h10] at hr
  have h18:s.size<=18:=by omega
  cases ha:Lib.atoi s.data.toList with
  | none =>
   rw[ha] at hr
   obtain rfl:=ae hr
   obtain ⟨tp,p,hv⟩:=hL.syn
   have hcon:=Any.strconv_Atoi_err_var Jc s h18 ha tp p w hv
   go_enter Tryz.func192,Tryz.ntmps192
   go_wp2_with (go_at_call 246;refine hcon.mono ?_;rintro e w' ⟨N,rfl,hN,hh,hb⟩)
   go_ret2
   exact ⟨rfl,hb⟩
  | some n =>
   rw[ha] at hr
   have hB:=Lib.atoi_bound ha (by simpa using h18)
   have hA:=Any.strconv_Atoi { Jc with } s n h18 ha w
   have hI:=fun t=>Any.strconv_Itoa Jb n (by omega) (by omega) (Lib.bytesWorld w 5 t) (Lib.bytesWorld_var w 5 t hL.tab)
   have hz: ∀t k os,Below w.heap.size w (Go.Sort.grow ((Lib.bytesWorld w 5 t).drewN k) os):=fun t k os=>by
    have h1:=Lib.bytesWorld_below w 5 t
    exact ⟨h1.os,h1.tape,h1.output,by have:=h1.size;simp only[Go.Sort.grow,Array.size_append];exact Nat.le_trans this (Nat.le_add_right _ _),fun b hb=>(Go.Sort.heap_grow_old ((Lib.bytesWorld w 5 t).drewN k) os (aJ hb h1.size:b<((Lib.bytesWorld w 5 t).drewN k).heap.size)).trans (h1.block b hb)⟩
   replace hr:(if (⟨(Lib.itoa n).toArray⟩:ByteArray)=s/\ -999999999<=n/\n<=999999999 then some (n,true) else some (0,false))=some r:=hr
   generalize (⟨(Lib.itoa n).toArray⟩:ByteArray)=q at hr hI
   by_cases e1:q=s
   ·subst e1
    by_cases e2: -999999999<=n/\n<=999999999
    ·rw[if_pos ⟨rfl,e2.1,e2.2⟩] at hr
     obtain rfl:=ae hr
     go_enter Tryz.func192,Tryz.ntmps192
     go_wp2_with (first | (go_at_call 246;refine hA.mono ?_;rintro e w' ⟨rfl,t,rfl⟩) | (go_at_call 234;refine (hI _).mono ?_;rintro e w' ⟨rfl,k,os,rfl⟩) | (go_at_call 59;refine (Ap _ _ _ _).mono ?_;rintro e w' ⟨rfl,rfl⟩))
     go_ret2
     exact ⟨rfl,hz _ _ _⟩
    ·rw[if_neg fun k=>e2 k.2] at hr
     obtain rfl:=ae hr
     go_enter Tryz.func192,Tryz.ntmps192
     go_wp2_with (first | (go_at_call 246;refine hA.mono ?_;rintro e w' ⟨rfl,t,rfl⟩) | (go_at_call 234;refine (hI _).mono ?_;rintro e w' ⟨rfl,k,os,rfl⟩) | (go_at_call 59;refine (Ap _ _ _ _).mono ?_;rintro e w' ⟨rfl,rfl⟩))
     go_ret2
     exact ⟨rfl,hz _ _ _⟩
   ·rw[if_neg fun k=>e1 k.1] at hr
    obtain rfl:=ae hr
    have e2: ¬q.toList=s.toList:=fun k=>e1 (Go.WideShapes.bytes_inj (by rw[<-ByteArray.toList_eq,<-ByteArray.toList_eq];exact k))
    go_enter Tryz.func192,Tryz.ntmps192
    go_wp2_with (first | (go_at_call 246;refine hA.mono ?_;rintro e w' ⟨rfl,t,rfl⟩) | (go_at_call 234;refine (hI _).mono ?_;rintro e w' ⟨rfl,k,os,rfl⟩) | (go_at_call 59;refine (Ap _ _ _ _).mono ?_;rintro e w' ⟨rfl,rfl⟩))
    go_ret2
    exact ⟨rfl,hz _ _ _⟩
theorem xJ:FOk Tryz.prog 192 rG:=NA (enters_of Tryz.func192 (by kernel_rfl) rfl) Hi
theorem Aq:FOk Tryz.prog 304 rH:=UR UT (by kernel_rfl) (enters_of Tryz.func304 (by kernel_rfl) rfl)
theorem Dv:FOk Tryz.prog 247 vu:=fk [(192,rG),(232,oP),(304,rH)] ⟨xJ,tM,Aq,trivial⟩ Tryz.func247 .no
theorem Bk:FOk Tryz.prog 193 tm:=fk [(166,nF),(191,kX),(247,vu)] ⟨sd,pB,Dv,trivial⟩ Tryz.func193 (.t (.t (.t (.two (.t (.loop [.s 16,.box 4 [(.own 191 (.prod y4 uO))]] .no)) .no))))
theorem yc:FOk Tryz.prog 124 qz:=fk [(103,me),(191,kX),(192,rG),(193,tm)] ⟨qN,pB,xJ,Bk,trivial⟩ Tryz.func124 .no
theorem Ar:FOk Tryz.prog 61 uo:=Ja (ps:=[.rd y9]) (A:=y70) (E:=84) (t:=y84) (B:=y3) (m:=m_i_ScanLog) (fk [(123,lZ),(124,qz)] ⟨sb,yc,trivial⟩ Tryz.func61 (.t (.t (.t (.t (.two (.loop [.slot 5 (.own 3 y3),.slot 6 (.own 84 y84),.s 7] .no) .no))))))
theorem kZ:FOk Tryz.prog 17 iP:=fk [(41,dW),(57,kB),(58,nE),(59,iO),(60,vt),(61,uo)] ⟨fN,oG,uD,jP,Du,Ar,trivial⟩ Tryz.func17 (.t (.t (.t (.two (.t (.loop [.s 37] .no)) .no))))
theorem xK:FOk Tryz.prog 210 rI:=fk [] trivial Tryz.func210 .no
theorem mL:FOk Tryz.prog 148 kD:=fk [(210,rI)] ⟨xK,trivial⟩ Tryz.func148 .no
theorem se:FOk Tryz.prog 100 nG:=fk [(148,kD)] ⟨mL,trivial⟩ Tryz.func100 (.t (.t (.two (.t (.loop [.s 12,.box 3 [(.num .i64),(.own 73 y73)]] .no)) .no)))
theorem wR:FOk Tryz.prog 163 pf:=fk [(210,rI)] ⟨xK,trivial⟩ Tryz.func163 (.t (.t (.two (.t (.loop [.s 16,.box 3 [(.num .i64),(.own 4 y4),(.own 70 y70)]] .no)) .no)))
theorem yd:FOk Tryz.prog 101 qA:=fk [(163,pf),(164,rA)] ⟨wR,xG,trivial⟩ Tryz.func101 (.t (.t (.two (.t (.loop [.s 12,.box 3 [(.own 141 kK),(.own 126 yH)]] .no)) (.two (.t (.loop [.s 27,.box 3 [(.own 141 kK),(.own 126 yH)]] .no)) .no))))
end R
namespace R
open Go.RowKit
open D
theorem tN:FOk Tryz.prog 38 oQ:=fk [(100,nG),(101,qA)] ⟨se,yd,trivial⟩ Tryz.func38 .no
theorem nN:FOk Tryz.prog 40 jD:=fk [(41,dW)] ⟨fN,trivial⟩ Tryz.func40 .no
theorem kJ:FOk Tryz.prog 316 fg:=fk [] trivial Tryz.func316 (.t (.two (.t (.loop [.s 8] .no)) .no))
theorem As:FOk Tryz.prog 317 rJ:=fk [] trivial Tryz.func317 .no
theorem vI:FOk Tryz.prog 273 qd:=fk [(316,fg),(317,rJ)] ⟨kJ,As,trivial⟩ Tryz.func273 .no
theorem mj:FOk Tryz.prog 274 gB:=UP (n:=3) (z:=(⟨.int .i64 0,rfl⟩,⟨.int .i64 0,rfl⟩,⟨.int .i64 0,rfl⟩,⟨.int .i64 0,rfl⟩)) rfl rfl (fok (V:=⟨tt,[(318,⟨[],[],none,some (124,0)⟩)],[(12,.raw),(34,.raw),(43,.raw),(50,.raw),(53,.raw),(60,.str),(66,.raw),(73,.raw),(76,.raw),(80,.raw),(86,.raw),(91,.raw)],95,[]⟩) Km ⟨Wu (XV (fn:=Tryz.f318) (tS:=71) (tR:=4) (E:=124) Tryz.func318 (by kernel_rfl) (by kernel_rfl) (by kernel_rfl) (by kernel_rfl) Tryz.underlying71 (TTok.get Km rfl).ti),trivial⟩ mixed Tryz.func274 rfl rfl (enters_of Tryz.func274 (by kernel_rfl) rfl) rfl (bp rfl) rfl .no (fun d=>by kernel_rfl))
theorem Bl:FOk Tryz.prog 229 tn:=fk [(118,gA),(148,kD),(186,sP),(273,qd),(274,gB)] ⟨jx,mL,wN,vI,mj,trivial⟩ Tryz.func229 (.t (.t (.t (.t (.two (.loop [.s 7] .no) .no)))))
theorem mM:FOk Tryz.prog 275 gN:=fk [] trivial Tryz.func275 (.t (.two (.t (.loop [.s 8] .no)) .no))
theorem k7:FOk Tryz.prog 230 fM:=fk [(275,gN)] ⟨mM,trivial⟩ Tryz.func230 .no
theorem mn:FOk Tryz.prog 276 gC:=UM (n:=3) (z:=(⟨.int .i64 0,rfl⟩,⟨.int .i64 0,rfl⟩,⟨.int .i64 0,rfl⟩,⟨.int .i64 0,rfl⟩)) rfl rfl (fok (V:=⟨tt,[],[(13,.raw),(22,.raw),(25,.raw),(31,.raw)],33,[]⟩) Km trivial mixed Tryz.func276 rfl rfl (enters_of Tryz.func276 (by kernel_rfl) rfl) rfl (bp rfl) rfl .no (fun d=>by kernel_rfl))
theorem Bm:FOk Tryz.prog 231 tq:=fk [(118,gA),(148,kD),(273,qd),(276,gC)] ⟨jx,mL,vI,mn,trivial⟩ Tryz.func231 .no
theorem Bn:FOk Tryz.prog 165 tu:=fk [(118,gA),(148,kD),(229,tn),(230,fM),(231,tq)] ⟨jx,mL,Bl,k7,Bm,trivial⟩ Tryz.func165 (.t (.t (.t (.two (.t (.loop [.s 25,.box 6 [(.own 3 y3),(.own 124 uO)]] (.t (.t (.two (.t (.t (.join [.slot 9 .boo,.box 6 [(.own 3 y3),(.own 124 uO)]] .no .no))) .no))))) .no))))
theorem At:FOk Tryz.prog 102 rK:=fk [(41,dW),(100,nG),(165,tu)] ⟨fN,se,Bn,trivial⟩ Tryz.func102 (.t (.t (.t (.t (.t (.t (.t (.two (.t (.at [.box 6 [(.num .i64),(.own 73 y73)]] .no)) .no)))))))) (an:=[(49,.bool)])
theorem Au:FOk Tryz.prog 43 rL:=fk [(17,iP),(38,oQ),(41,dW),(102,rK),(103,me)] ⟨kZ,tN,fN,At,qN,trivial⟩ Tryz.func43 .no
theorem nO:FOk Tryz.prog 42 jE:=fk [(43,rL)] ⟨Au,trivial⟩ Tryz.func42 .no
theorem Kp:FOk Tryz.prog 39 Cd:=fk [(40,jD),(42,jE),(61,uo)] ⟨nN,nO,Ar,trivial⟩ Tryz.func39 (.t (.t (.t (.two (.t (.loop [.s 10,.s 21,.row 8 84 (.bag y84),.pbx 3 [(.num .i64),(.own 73 y73),(.own 141 kK),(.own 126 yH),(.own 93 y93),.str]] (.t (.t (.two (.atX [.s 10,.row 8 84 (.bag y84),.pbx 3 [(.num .i64),(.own 73 y73),(.own 141 kK),(.own 126 yH),(.own 93 y93),.str]] .no) .no))))) .no))))
theorem wS:FOk Tryz.prog 9 pg:=fk [(17,iP),(38,oQ),(39,Cd),(40,jD),(42,jE)] ⟨kZ,tN,Kp,nN,nO,trivial⟩ Tryz.func9 .no
end R
namespace R
open Go.RowKit
open D
theorem mN:FOk Tryz.prog 80 lP:=fk [] trivial Tryz.func80 .no
theorem Co:FOk Tryz.prog 88 wH:=fk [(80,lP)] ⟨mN,trivial⟩ Tryz.func88 .no
theorem jy:FOk Tryz.prog 33 gD:=fk [(80,lP),(88,wH)] ⟨mN,Co,trivial⟩ Tryz.func33 (.t (.two (.t (.loop [.s 3] .no)) (.two (.t (.loop [.s 4] .no)) .no)))
theorem Av:FOk Tryz.prog 113 vv:=fk [] trivial Tryz.func113 (.t (.two (.t (.loop [.s 5] .no)) .no))
theorem kE:FOk Tryz.prog 50 gO:=fk [(33,gD),(80,lP),(113,vv)] ⟨jy,mN,Av,trivial⟩ Tryz.func50 (.t (.two (.t (.loop [.s 3] .no)) .no))
theorem wT:FOk Tryz.prog 170 sR:=fk [] trivial Tryz.func170 .no
theorem xL:FOk Tryz.prog 323 rM:=fk [(80,lP)] ⟨mN,trivial⟩ Tryz.func323 .no
theorem Aw:FOk Tryz.prog 356 uq:=fk [(80,lP),(323,rM)] ⟨mN,xL,trivial⟩ Tryz.func356 (.t (.two (.t (.join [.slot 5 .boo] .no (.t (.t (.t (.join [.slot 37 .boo] .no .no)))))) .no))
theorem Kq:FOk Tryz.prog 312 Ce:=fk [(356,uq)] ⟨Aw,trivial⟩ Tryz.func312 (.t (.t (.two (.t (.loop [.s 3,.s 4] .no)) .no)))
theorem Ax:FOk Tryz.prog 270 rN:=fk [(312,Ce)] ⟨Kq,trivial⟩ Tryz.func270 .no
theorem uE:FOk Tryz.prog 326 qe:=fk [(356,uq)] ⟨Aw,trivial⟩ Tryz.func326 (.t (.t (.t (.two (.loop [.s 3,.s 4] .no) .no))))
theorem Ay: ∀n,FOk Tryz.prog 324 (qf n)
 | 0=>j8 (f:=qf 0) (enters_of Tryz.func324 (by kernel_rfl) rfl) rfl (fun d=>rfl)
 | n+1=>by
  have ih:=Ay n
  exact fk [(324,(qf n)),(326,qe)] ⟨ih,uE,trivial⟩ Tryz.func324 (.t (.t (.t (.two (.t (.two (.t (.at [.slot 15 .boo] .no)) .no)) .no))))
theorem Cp:FOk Tryz.prog 266 wI:=fk [(170,sR)] ⟨wT,trivial⟩ Tryz.func266 .no
theorem Kr:FOk Tryz.prog 264 Cf:=fk [] trivial Tryz.func264 .no
theorem xM: ∀n,FOk Tryz.prog 367 (oD n)
 | 0=>j8 (f:=oD 0) (enters_of Tryz.func367 (by kernel_rfl) rfl) rfl (fun d=>rfl)
 | n+1=>by
  have ih:=xM n
  exact fk [(264,Cf),(266,wI),(367,(oD n))] ⟨Kr,Cp,ih,trivial⟩ Tryz.func367 .no
theorem vJ: ∀n,FOk Tryz.prog 325 (mG n)
 | 0=>j8 (f:=mG 0) (enters_of Tryz.func325 (by kernel_rfl) rfl) rfl (fun d=>rfl)
 | n+1=>by
  have ih:=vJ n
  exact fk [(266,wI),(325,(mG n)),(326,qe),(367,(oD gr))] ⟨Cp,ih,uE,(xM gr),trivial⟩ Tryz.func325 (.t (.t (.t (.two (.t (.two (.t (.at [.slot 15 .boo] .no)) .no)) .no))))
theorem Bo:FOk Tryz.prog 283 tv:=fk [(270,rN),(324,(qf gr)),(325,(mG gr))] ⟨Ax,(Ay gr),(vJ gr),trivial⟩ Tryz.func283 .no
end R
namespace R
open Go.RowKit
open D
theorem Hj:FOk Tryz.prog 327 zS:=fk [] trivial Tryz.func327 (.t (.loop [.s 6,.par 4 [3] 3 y3] (.t (.two (.at [.par 4 [3] 3 y3] .no) .no))))
theorem xN: ∀n,FOk Tryz.prog 284 (oE n)
 | 0=>j8 (f:=oE 0) (enters_of Tryz.func284 (by kernel_rfl) rfl) rfl (fun d=>rfl)
 | n+1=>by
  have ih:=xN n
  exact fk [(284,(oE n)),(326,qe),(327,zS)] ⟨ih,uE,Hj,trivial⟩ Tryz.func284 (.t (.t (.t (.two (.t (.t (.t (.t (.t (.t (.two (.t (.t (.t (.t (.t (.two (.t (.at [.box 11 [.boo,(.num .i64),(.num .i64)]] .no)) (.two (.t (.at [.box 11 [.boo,(.num .i64),(.num .i64)]] .no)) .no))))))) .no))))))) .no))))
theorem vK:FOk Tryz.prog 238 oF:=fk [(283,tv),(284,(oE gr))] ⟨Bo,(xN gr),trivial⟩ Tryz.func238 (.t (.t (.t (.t (.two (.t (.loop [.s 6,.s 7] (.t (.two (.at [.s 6] .no) .no)))) .no)))))
theorem Fu:FOk Tryz.prog 285 xr:=fk [] trivial Tryz.func285 (.t (.t (.join [.s 7] .no (.two (.t (.loop [.s 7,.s 8] (.t (.join [.s 7] .no .no)))) (.t (.two (.t (.loop [.s 9,.s 10] (.t (.join [.s 9] .no .no)))) .no))))))
theorem Az:FOk Tryz.prog 286 ur:=fk [] trivial Tryz.func286 (.t (.two (.t (.loop [.s 5] .no)) .no))
theorem Bp:FOk Tryz.prog 287 tw:=fk [] trivial Tryz.func287 .no
theorem Bq:FOk Tryz.prog 239 tx:=fk [(285,xr),(286,ur),(287,tw)] ⟨Fu,Az,Bp,trivial⟩ Tryz.func239 (.t (.t (.t (.two (.t (.loop [.slot 7 (.own 3 y3),.s 8,.box 6 [(.num .i64),(.own 4 y4),(.own 70 y70)]] (.t (.two (.t (.two (.t (.loop [.slot 7 (.own 3 y3),.slot 9 (.own 3 y3),.s 10] (.t (.two (.t (.t (.join [.slot 7 (.own 3 y3),.s 12] .no .no))) .no)))) .no)) .no)))) .no))))
theorem Br:FOk Tryz.prog 328 tz:=fk [] trivial Tryz.func328 (.t (.t (.two (.t (.loop [.slot 1 (.own 3 y3),.s 2] .no)) .no)))
theorem Dw:FOk Tryz.prog 288 vx:=fk [(286,ur),(328,tz)] ⟨Az,Br,trivial⟩ Tryz.func288 (.t (.t (.t (.t (.t (.two (.t (.loop [.slot 8 (.own 3 y3),.slot 9 (.own 3 y3),.s 10,.box 7 [(.num .i64),(.own 4 y4),(.own 70 y70)]] (.t (.two (.t (.two (.t (.loop [.slot 8 (.own 3 y3),.slot 9 (.own 3 y3),.slot 11 (.own 3 y3),.s 12] (.t (.two (.t (.t (.join [.slot 8 (.own 3 y3),.slot 9 (.own 3 y3),.s 14] .no .no))) .no)))) .no)) .no)))) .no))))))
theorem AA:FOk Tryz.prog 290 uu:=fk [] trivial Tryz.func290 (.t (.t (.two (.t (.loop [.row 3 4 y4,.s 4] (.t (.two (.t (.loop [.row 3 4 y4,.s 5] (.t (.two (.t (.loop [.row 3 4 y4,.s 6] (.t (.join [.row 3 4 y4] .no .no)))) .no)))) .no)))) .no)))
theorem Ks:FOk Tryz.prog 329 Cg:=fk [] trivial Tryz.func329 (.t (.t (.two (.t (.loop [.slot 7 (.own 3 y3),.s 8] (.t (.join [.slot 7 (.own 3 y3)] .no .no)))) .no)))
theorem Bs:FOk Tryz.prog 289 tC:=fk [(113,vv),(290,uu),(329,Cg)] ⟨Av,AA,Ks,trivial⟩ Tryz.func289 (.t (.t (.t (.two (.t (.loop [.slot 4 (.own 3 y3),.s 5] (.t (.two (.t (.two (.t (.at [.s 6] .no)) (.two (.t (.at [.s 6] .no)) .no))) .no)))) (.two (.t (.loop [.slot 4 (.own 3 y3),.s 7] (.t (.two (.t (.t (.two (.t (.loop [.slot 8 (.own 70 y70),.slot 9 (.own 3 y3),.s 10] (.t (.two (.at [.slot 8 (.own 70 y70),.slot 9 (.own 3 y3)] (.t (.t (.t (.two (.t (.loop [.s 12,.s 13] (.t (.two (.at [.s 12] .no) .no)))) (.two (.t (.at [.slot 8 (.own 70 y70),.s 12,.gone 11] .no)) .no)))))) .no)))) .no))) .no)))) .no)))))
theorem AB:FOk Tryz.prog 240 rO:=fk [(288,vx),(289,tC),(290,uu)] ⟨Dw,Bs,AA,trivial⟩ Tryz.func240 .no
theorem AC:FOk Tryz.prog 182 rP:=fk [(238,oF),(239,tx),(240,rO)] ⟨vK,Bq,AB,trivial⟩ Tryz.func182 .no
theorem pC:FOk Tryz.prog 184 kY:=fk [(113,vv)] ⟨Av,trivial⟩ Tryz.func184 (.t (.t (.two (.t (.loop [.s 5] .no)) (.two (.t (.loop [.s 6] .no)) .no))))
theorem Fv:FOk Tryz.prog 183 xt:=fk [(184,kY)] ⟨pC,trivial⟩ Tryz.func183 (.t (.two (.t (.loop [.s 5] .no)) .no))
theorem Fw:FOk Tryz.prog 114 xu:=fk [(80,lP),(170,sR),(182,rP),(183,xt)] ⟨mN,wT,AC,Fv,trivial⟩ Tryz.func114 (.t (.t (.t (.two (.t (.loop [.s 5,.box 4 [(.own 141 kK),(.own 126 yH)]] (.t (.two (.t (.t (.t (.join [.s 8,.box 4 [(.own 141 kK),(.own 126 yH)],.gone 6] .no .no)))) .no)))) .no))))
end R
namespace R
open Go.RowKit
open D
theorem Bt:FOk Tryz.prog 185 tD:=fk [] trivial Tryz.func185 (.t (.t (.two (.t (.loop [.s 5] .no)) .no)))
theorem uF:FOk Tryz.prog 115 nH:=fk [(184,kY),(185,tD)] ⟨pC,Bt,trivial⟩ Tryz.func115 (.t (.t (.two (.t (.loop [.s 5] .no)) (.two (.t (.loop [.s 6] .no)) .no))))
theorem uG:FOk Tryz.prog 51 nI:=fk [(114,xu),(115,nH)] ⟨Fw,uF,trivial⟩ Tryz.func51 .no
theorem dX:FOk Tryz.prog 18 db:=fk [(50,gO)] ⟨kE,trivial⟩ Tryz.func18 .no
theorem Dx:FOk Tryz.prog 34 vy:=fk [] trivial Tryz.func34 (.t (.two (.t (.loop [.s 5] .no)) .no))
theorem Hk:FOk Tryz.prog 52 zT:=fk [(18,db),(34,vy),(80,lP)] ⟨dX,Dx,mN,trivial⟩ Tryz.func52 (.t (.two (.t (.loop [.s 3] .no)) .no))
theorem qg:FOk Tryz.prog 175 mH:=fk [] trivial Tryz.func175 (.t (.t (.t (.t (.two (.loop [.s 0,.slot 3 .str] (.t (.t (.two (.t (.at [.s 5] .no)) .no)))) .no)))))
theorem qO:FOk Tryz.prog 282 mf:=fk [(323,rM)] ⟨xL,trivial⟩ Tryz.func282 .no
theorem tO:FOk Tryz.prog 236 oR:=fk [(80,lP),(175,mH),(282,mf)] ⟨mN,qg,qO,trivial⟩ Tryz.func236 .no
theorem sf:FOk Tryz.prog 174 nJ:=fk [(236,oR)] ⟨tO,trivial⟩ Tryz.func174 (.t (.t (.t (.two (.t (.loop [.slot 3 .str,.s 4] (.t (.two (.atX [.slot 3 .str] (.t (.t (.two (.t (.at [.slot 3 .str] .no)) .no)))) .no)))) .no))))
theorem Fx:FOk Tryz.prog 176 xw:=fk [] trivial Tryz.func176 (.t (.t (.two (.t (.loop [.s 3,.s 4] .no)) .no)))
theorem qP:FOk Tryz.prog 106 mg:=fk [(80,lP),(174,nJ),(175,mH),(176,xw)] ⟨mN,sf,qg,Fx,trivial⟩ Tryz.func106 .no
theorem AD:FOk Tryz.prog 171 vz:=fk [] trivial Tryz.func171 (.t (.t (.t (.two (.t (.loop [.slot 5 (.own 9 y9),.s 6,.s 7] (.t (.two (.at [.slot 5 (.own 9 y9),.s 6] .no) .no)))) .no))))
theorem xO:FOk Tryz.prog 172 rQ:=fk [(175,mH)] ⟨qg,trivial⟩ Tryz.func172 (.t (.t (.t (.two (.t (.loop [.s 4,.s 5,.s 6] (.t (.two (.at [.s 4,.s 5] .no) .no)))) (.two (.t (.at [.s 4] .no)) .no)))))
theorem AE:FOk Tryz.prog 281 rR:=fk [(282,mf)] ⟨qO,trivial⟩ Tryz.func281 (.t (.two (.t (.loop [.s 4] .no)) .no))
theorem Dy:FOk Tryz.prog 235 vA:=fk [(171,vz),(172,rQ),(236,oR),(281,rR)] ⟨AD,xO,tO,AE,trivial⟩ Tryz.func235 .no
theorem Bu:FOk Tryz.prog 173 tE:=fk [(171,vz),(174,nJ),(235,vA)] ⟨AD,sf,Dy,trivial⟩ Tryz.func173 (.t (.t (.t (.t (.two (.t (.loop [.s 6,.box 4 [(.own 191 (.prod y4 uO))]] .no)) .no)))))
end R
namespace R
open Go.RowKit
open D
theorem ye:FOk Tryz.prog 105 qB:=fk [(106,mg),(171,vz),(172,rQ),(173,tE)] ⟨qP,AD,xO,Bu,trivial⟩ Tryz.func105 .no
theorem AF:FOk Tryz.prog 45 uv:=Ja (ps:=[.rd y9]) (A:=y70) (E:=84) (t:=y84) (B:=y3) (m:=m_s_ScanLog) (fk [(105,qB)] ⟨ye,trivial⟩ Tryz.func45 (.t (.t (.t (.t (.two (.t (.loop [.slot 5 (.own 3 y3),.slot 6 (.own 84 y84),.s 7,.s 8] (.t (.two (.atX [.slot 5 (.own 3 y3),.slot 6 (.own 84 y84),.s 7] .no) .no)))) .no))))))
theorem Kt:FOk Tryz.prog 53 Ci:=fk [(18,db),(45,uv)] ⟨dX,AF,trivial⟩ Tryz.func53 .no
theorem k8:FOk Tryz.prog 14 iQ:=fk [(50,gO),(51,nI),(52,zT),(53,Ci)] ⟨kE,uG,Hk,Kt,trivial⟩ Tryz.func14 .no
theorem pD:FOk Tryz.prog 116 mR:=fk [] trivial Tryz.func116 .no
theorem Cq:FOk Tryz.prog 54 wJ:=fk [(116,mR)] ⟨pD,trivial⟩ Tryz.func54 (.t (.t (.two (.t (.loop [.s 4,.box 3 [(.num .i64),(.own 73 y73)]] .no)) .no)))
theorem Hl:FOk Tryz.prog 169 zU:=fk [] trivial Tryz.func169 (.t (.t (.two (.t (.loop [.s 4,.box 3 [(.num .i64),(.own 4 y4),(.own 70 y70)]] .no)) .no)))
theorem Hm:FOk Tryz.prog 104 zV:=fk [(169,zU),(170,sR)] ⟨Hl,wT,trivial⟩ Tryz.func104 (.t (.t (.two (.t (.loop [.s 4,.box 3 [(.own 141 kK),(.own 126 yH)]] .no)) (.two (.t (.loop [.s 5,.box 3 [(.own 141 kK),(.own 126 yH)]] .no)) .no))))
theorem AG:FOk Tryz.prog 44 uw:=fk [(54,wJ),(104,zV)] ⟨Cq,Hm,trivial⟩ Tryz.func44 .no
theorem qi:FOk Tryz.prog 227 mI:=fk [] trivial Tryz.func227 (.t (.two (.t (.loop [.s 5] .no)) .no))
theorem Bv:FOk Tryz.prog 226 tF:=fk [(33,gD),(88,wH),(116,mR),(227,mI)] ⟨jy,Co,pD,qi,trivial⟩ Tryz.func226 (.t (.t (.t (.two (.loop [.s 6] .no) .no))))
theorem Bw:FOk Tryz.prog 228 tG:=fk [(33,gD),(116,mR),(227,mI)] ⟨jy,pD,qi,trivial⟩ Tryz.func228 .no
theorem Hn:FOk Tryz.prog 161 zW:=fk [(116,mR),(226,tF),(227,mI),(228,tG)] ⟨pD,Bv,qi,Bw,trivial⟩ Tryz.func161 (.t (.t (.two (.t (.loop [.s 7,.box 6 [(.own 3 y3),(.own 124 uO)]] (.t (.joinX [.box 6 [(.own 3 y3),(.own 124 uO)]] .no .no)))) .no)))
theorem Bx:FOk Tryz.prog 117 tH:=fk [(33,gD),(116,mR),(161,zW)] ⟨jy,pD,Hn,trivial⟩ Tryz.func117 .no
theorem AH:FOk Tryz.prog 55 rS:=fk [(18,db),(50,gO),(54,wJ),(117,tH)] ⟨dX,kE,Cq,Bx,trivial⟩ Tryz.func55 (.t (.t (.t (.t (.t (.t (.two (.t (.at [.box 6 [(.num .i64),(.own 73 y73)]] .no)) .no))))))) (an:=[(48,.bool)])
theorem AI:FOk Tryz.prog 46 rT:=fk [(14,iQ),(18,db),(44,uw),(55,rS),(106,mg)] ⟨k8,dX,AG,AH,qP,trivial⟩ Tryz.func46 .no
theorem wU:FOk Tryz.prog 10 ph:=fk [(14,iQ),(18,db),(44,uw),(45,uv),(46,rT)] ⟨k8,dX,AG,AF,AI,trivial⟩ Tryz.func10 (.t (.t (.t (.t (.t (.two (.t (.loop [.s 10,.s 11,.row 8 84 (.bag y84),.box 6 [(.num .i64),(.own 73 y73),(.own 141 kK),(.own 126 yH),(.own 93 y93),.str]] (.t (.two (.atX [.s 10,.row 8 84 (.bag y84),.box 6 [(.num .i64),(.own 73 y73),(.own 141 kK),(.own 126 yH),(.own 93 y93),.str]] .no) .no)))) .no))))))
end R
namespace R
open Go.RowKit
open D
theorem Cr:FOk Tryz.prog 248 wK:=fk [] trivial Tryz.func248 .no
theorem Ho:FOk Tryz.prog 249 zX:=fk [] trivial Tryz.func249 .no
theorem Hq:FOk Tryz.prog 194 zY:=fk [(248,wK),(249,zX)] ⟨Cr,Ho,trivial⟩ Tryz.func194 .no
theorem Fy:FOk Tryz.prog 125 xx:=fk [(194,zY)] ⟨Hq,trivial⟩ Tryz.func125 (.t (.t (.t (.two (.t (.loop [.s 1,.s 5] .no)) .no))))
theorem Dz:FOk Tryz.prog 62 vB:=fk [(125,xx)] ⟨Fy,trivial⟩ Tryz.func62 .no
theorem Hr:FOk Tryz.prog 250 zZ:=fk [] trivial Tryz.func250 .no
theorem Hs:FOk Tryz.prog 251 Aa:=fk [(248,wK)] ⟨Cr,trivial⟩ Tryz.func251 (.t (.t (.t (.two (.t (.loop [.s 1,.s 5] .no)) .no))))
theorem AJ:FOk Tryz.prog 195 rU:=fk [(250,zZ),(251,Aa)] ⟨Hr,Hs,trivial⟩ Tryz.func195 .no
theorem yf:FOk Tryz.prog 126 qC:=fk [(195,rU)] ⟨AJ,trivial⟩ Tryz.func126 (.t (.t (.t (.two (.t (.loop [.s 1,.s 5] .no)) .no))))
theorem Fz:FOk Tryz.prog 305 xy:=fk [] trivial Tryz.func305 .no
theorem Ku:FOk Tryz.prog 252 Cj:=fk [(305,xy)] ⟨Fz,trivial⟩ Tryz.func252 .no
theorem yg:FOk Tryz.prog 196 qD:=fk [(252,Cj)] ⟨Ku,trivial⟩ Tryz.func196 .no
theorem wV:FOk Tryz.prog 127 pj:=fk [(196,qD)] ⟨yg,trivial⟩ Tryz.func127 (.t (.t (.t (.two (.t (.loop [.s 1,.s 5] .no)) .no))))
theorem By:FOk Tryz.prog 63 tI:=fk [(126,qC),(127,pj)] ⟨yf,wV,trivial⟩ Tryz.func63 .no
theorem wW:FOk Tryz.prog 64 pn:=fk [] trivial Tryz.func64 .no
theorem FA:FOk Tryz.prog 19 xz:=fk [(62,vB),(63,tI),(64,pn)] ⟨Dz,By,wW,trivial⟩ Tryz.func19 .no
theorem Cs:FOk Tryz.prog 253 wL:=fk [] trivial Tryz.func253 (.t (.t (.two (.t (.loop [.row 3 3 y3,.s 4] .no)) .no)))
end R
namespace R
open Go.RowKit
open D
theorem Kv:FOk Tryz.prog 306 Ck:=fk [] trivial Tryz.func306 .no
theorem Ht:FOk Tryz.prog 254 Ab:=fk [(306,Ck)] ⟨Kv,trivial⟩ Tryz.func254 (.t (.t (.two (.t (.loop [.row 3 124 uO,.s 4] .no)) .no)))
theorem Hu:FOk Tryz.prog 197 Ac:=fk [(253,wL),(254,Ab)] ⟨Cs,Ht,trivial⟩ Tryz.func197 .no
theorem FC:FOk Tryz.prog 128 xA:=fk [(197,Ac)] ⟨Hu,trivial⟩ Tryz.func128 (.t (.t (.two (.t (.loop [.row 3 73 y73,.s 4] .no)) .no)))
theorem DA:FOk Tryz.prog 65 vC:=fk [(128,xA)] ⟨FC,trivial⟩ Tryz.func65 .no
theorem Hv:FOk Tryz.prog 255 Ad:=fk [] trivial Tryz.func255 (.t (.t (.two (.t (.loop [.row 3 4 y4,.s 4] .no)) .no)))
theorem Hw:FOk Tryz.prog 256 Ae:=fk [(253,wL)] ⟨Cs,trivial⟩ Tryz.func256 (.t (.t (.two (.t (.loop [.row 3 70 y70,.s 4] .no)) .no)))
theorem AK:FOk Tryz.prog 198 rV:=fk [(255,Ad),(256,Ae)] ⟨Hv,Hw,trivial⟩ Tryz.func198 .no
theorem yh:FOk Tryz.prog 129 qF:=fk [(198,rV)] ⟨AK,trivial⟩ Tryz.func129 (.t (.t (.two (.t (.loop [.row 3 141 kK,.s 4] .no)) .no)))
theorem Hx:FOk Tryz.prog 354 Af:=fk [] trivial Tryz.func354 .no
theorem FD:FOk Tryz.prog 307 xB:=fk [(354,Af)] ⟨Hx,trivial⟩ Tryz.func307 (.t (.t (.two (.t (.loop [.row 3 172 xX,.s 4] .no)) .no)))
theorem Kw:FOk Tryz.prog 257 Cl:=fk [(307,xB)] ⟨FD,trivial⟩ Tryz.func257 .no
theorem yi:FOk Tryz.prog 199 qG:=fk [(257,Cl)] ⟨Kw,trivial⟩ Tryz.func199 .no
theorem wX:FOk Tryz.prog 130 po:=fk [(199,qG)] ⟨yi,trivial⟩ Tryz.func130 (.t (.t (.two (.t (.loop [.row 3 126 yH,.s 4] .no)) .no)))
theorem Bz:FOk Tryz.prog 66 tJ:=fk [(129,qF),(130,po)] ⟨yh,wX,trivial⟩ Tryz.func66 .no
theorem yj:FOk Tryz.prog 131 qH:=fk [] trivial Tryz.func131 .no
theorem wY:FOk Tryz.prog 67 pq:=fk [(131,qH)] ⟨yj,trivial⟩ Tryz.func67 (.t (.t (.two (.t (.loop [.row 3 93 y93,.s 4] .no)) .no)))
end R
namespace R
open Go.RowKit
open D
theorem FE:FOk Tryz.prog 20 xC:=fk [(65,vC),(66,tJ),(67,pq)] ⟨DA,Bz,wY,trivial⟩ Tryz.func20 .no
theorem Ct:FOk Tryz.prog 258 wM:=fk [] trivial Tryz.func258 (.t (.t (.two (.t (.loop [.s 5] .no)) .no)))
theorem Kx:FOk Tryz.prog 308 Cm:=fk [] trivial Tryz.func308 .no
theorem Hy:FOk Tryz.prog 259 Ag:=fk [(308,Cm)] ⟨Kx,trivial⟩ Tryz.func259 (.t (.t (.two (.t (.loop [.s 5] .no)) .no)))
theorem Hz:FOk Tryz.prog 200 Ah:=fk [(258,wM),(259,Ag)] ⟨Ct,Hy,trivial⟩ Tryz.func200 .no
theorem FF:FOk Tryz.prog 132 xD:=fk [(200,Ah)] ⟨Hz,trivial⟩ Tryz.func132 (.t (.t (.two (.t (.loop [.s 5] .no)) .no)))
theorem DB:FOk Tryz.prog 68 vD:=fk [(132,xD)] ⟨FF,trivial⟩ Tryz.func68 .no
theorem HA:FOk Tryz.prog 260 Ai:=fk [] trivial Tryz.func260 (.t (.t (.two (.t (.loop [.s 5] .no)) .no)))
theorem HB:FOk Tryz.prog 261 Aj:=fk [(258,wM)] ⟨Ct,trivial⟩ Tryz.func261 (.t (.t (.two (.t (.loop [.s 5] .no)) .no)))
theorem AL:FOk Tryz.prog 201 rW:=fk [(260,Ai),(261,Aj)] ⟨HA,HB,trivial⟩ Tryz.func201 .no
theorem yk:FOk Tryz.prog 133 qI:=fk [(201,rW)] ⟨AL,trivial⟩ Tryz.func133 (.t (.t (.two (.t (.loop [.s 5] .no)) .no)))
theorem HC:FOk Tryz.prog 355 Ak:=fk [] trivial Tryz.func355 .no
theorem FG:FOk Tryz.prog 309 xE:=fk [(355,Ak)] ⟨HC,trivial⟩ Tryz.func309 (.t (.t (.two (.t (.loop [.s 5] .no)) .no)))
theorem Ky:FOk Tryz.prog 262 Cn:=fk [(309,xE)] ⟨FG,trivial⟩ Tryz.func262 .no
theorem ym:FOk Tryz.prog 202 qJ:=fk [(262,Cn)] ⟨Ky,trivial⟩ Tryz.func202 .no
theorem wZ:FOk Tryz.prog 134 pv:=fk [(202,qJ)] ⟨ym,trivial⟩ Tryz.func134 (.t (.t (.two (.t (.loop [.s 5] .no)) .no)))
theorem BA:FOk Tryz.prog 69 tK:=fk [(133,qI),(134,pv)] ⟨yk,wZ,trivial⟩ Tryz.func69 .no
end R
namespace R
open Go.RowKit
open D
theorem yn:FOk Tryz.prog 135 qK:=fk [] trivial Tryz.func135 .no
theorem w4:FOk Tryz.prog 70 pw:=fk [(135,qK)] ⟨yn,trivial⟩ Tryz.func70 (.t (.t (.two (.t (.loop [.s 5] .no)) .no)))
theorem FH:FOk Tryz.prog 21 xF:=fk [(68,vD),(69,tK),(70,pw)] ⟨DB,BA,w4,trivial⟩ Tryz.func21 .no
end R
namespace R
open Go.RowKit
open D
theorem tc:FOk Tryz.prog 12 mw:=fk [(9,pg),(17,iP),(41,dW)] ⟨wS,kZ,fN,trivial⟩ Tryz.func12 .no
theorem tf:FOk Tryz.prog 13 my:=fk [(10,ph),(14,iQ),(18,db)] ⟨wU,k8,dX,trivial⟩ Tryz.func13 .no
theorem nP:FOk Tryz.prog 4 nK:=fk [(12,mw),(13,my),(19,xz),(20,xC),(21,xF)] ⟨tc,tf,FA,FE,FH,trivial⟩ Tryz.func4 .no
end R
namespace D
open Go.RowKit
end D
namespace D
open Go.RowKit
theorem nQ (x0:yG×Yq8×Yq7×ByteArray) (x1:ByteArray) (r:Bool) (hm:cU x0 x1=some r) {I:Hp} {w0:World} (v0_0:Value) (v0_1:Value) (v0_2:Value) (v0_3:Value) (r0_0:(af 219 (aH (af 3 be) (af 316 (aH be (aH be (aH be be)))))).rd I [v0_0] x0.1.2) (r0_1:(af 221 (aH be (aH (af 4 nY) (af 70 (af 3 be))))).rd I [v0_1] x0.2.1.1) (r0_2:(af 227 (aH be (aH (af 353 (aH be (aH be (aH be be)))) be))).rd I [v0_2] x0.2.1.2) (r0_3:(af 161 (aH be (aH be be))).rd I [v0_3] x0.2.2.1) (hL:Lay Tryz.prog I):Con Tryz.prog 4 #[.agg #[.int .i64 x0.1.1,v0_0,v0_1,v0_2,v0_3,.string x0.2.2.2],.string x1] I w0 [] (fun v=>v= .bool r) (fun _=>[]):=fun w C hs =>
 ((R.nP).con rfl w0 I undef [.agg #[.int .i64 x0.1.1,v0_0,v0_1,v0_2,v0_3,.string x0.2.2.2],.string x1] (x0,(x1,())) r hL ⟨_,_,rfl,⟨[.int .i64 x0.1.1,v0_0,v0_1,v0_2,v0_3,.string x0.2.2.2],rfl,⟨_,_,rfl,⟨_,_,rfl,rfl,r0_0⟩,⟨_,_,rfl,⟨_,_,rfl,r0_1,r0_2⟩,⟨_,_,rfl,r0_3,rfl⟩⟩⟩⟩,⟨_,_,rfl,⟨[.string x1],rfl,rfl⟩,rfl⟩⟩ hm w C hs).mono fun e w' ⟨v,he,_,hst⟩=>by
  obtain ⟨h1,h2⟩:=R.vc (h1:=fun _=>rfl) (show St I w0 w' (Ch.own R.Ty.bool.rep [v] r::C) from hst)
  exact ⟨v,he,(List.cons.inj h1).1,h2⟩
end D
namespace D
open Go.RowKit
def I64 (n:Int):Prop:= -9223372036854775808<=n/\n<=9223372036854775807
class Data (α:Type) where
 lim:α->Prop
 sm:α->Prop
instance:Data Int:=⟨I64,fun _=>True⟩
instance:Data Bool:=⟨fun _=>True,fun _=>True⟩
instance:Data ByteArray:=⟨fun s=>s.size<=9223372036854775807,fun s=>s.size<=1048576⟩
instance {α β:Type} [Data α] [Data β] :Data (α×β):=⟨fun x=>Data.lim x.1/\Data.lim x.2,fun x=>Data.sm x.1/\Data.sm x.2⟩
instance {α:Type} [Data α] :Data (List α):=⟨fun xs=>xs.length<=9223372036854775807/\ ∀x,x∈xs->Data.lim x,fun xs=>xs.length<=1048576/\ ∀x,x∈xs->Data.sm x⟩
structure Opens (P:Program) (t:TypeId) {α:Type} [Data α] (R:Rep α):Prop where
 out: ∀ {H:Type} (enc:TypeId×Value->H) (w:World) (fuel:Nat) (cs:List Value) (x:DataW H×List MemPlace),DataW.trod enc P w 0 (fun _=>true) true fuel t cs=some x-> ∃a:α,R.rd (hp w) cs a/\Data.lim a
theorem NG {P:Program} {t:TypeId} (h:P.underlying t=some (.int .i64)):Opens P t be:=by
 constructor
 intro H enc w fuel cs x hx
 obtain ⟨n,rfl,-,hw⟩:=DataW.trod_int h hx
 refine ⟨n,rfl,show I64 n from ?_⟩
 simp[Lit.wf,IntKind.min,IntKind.max,IntKind.signed,IntKind.bits] at hw
 unfold I64
 omega
theorem Kz {P:Program} {t:TypeId} (h:P.underlying t=some .bool):Opens P t nY:=by
 constructor
 intro H enc w fuel cs x hx
 obtain ⟨n,rfl,-⟩:=DataW.trod_bool h hx
 exact ⟨n,rfl,trivial⟩
theorem FI {P:Program} {t:TypeId} (h:P.underlying t=some .string):Opens P t CB:=by
 constructor
 intro H enc w fuel cs x hx
 obtain ⟨n,rfl,-,hm⟩:=DataW.trod_string h hx
 exact ⟨n,rfl,show n.size<=_ by unfold maxLen at hm;omega⟩
theorem gq {P:Program} {t e:TypeId} {α:Type} [Data α] {R:Rep α} {E:TypeId} (h:P.underlying t=some (.slice e)) (hc:P.cellsOf e=R.size) (h0:0<R.size) (he:Opens P e R):Opens P t (af E R):=by
 constructor
 intro H enc w fuel cs x hx
 rcases Go.Deep.open_slice h hx with ⟨rfl,-⟩ | ⟨a,len,cap,m,n,D,Pl,rfl,-,hl,hm,hmm,-,hel⟩
 ·exact ⟨[],⟨none,0,rfl,by simp,.inl rfl⟩,Nat.zero_le _,fun x hx=>by cases hx⟩
 have hlm:m=cap:=by simpa using hmm
 subst hlm
 rw[hc] at hel
 by_cases hz:len=0
 ·subst hz
  exact ⟨[],⟨some a,m,rfl,by simp,.inl rfl⟩,Nat.zero_le _,fun x hx=>by cases hx⟩
 ·have hone: ∀i,i<len-> ∃c:List Value,∃y:α,c.length=R.size/\(∀j,j<R.size->w.cell? ((a.add (i*R.size)).add j)=c[j]?)/\R.rd (hp w) c y/\Data.lim y:=by
   intro i hi
   obtain ⟨c,h1,h2⟩:=hel i (by omega)
   obtain ⟨-,h3,h4⟩:=World.cells?_some h1
   obtain ⟨y,hy⟩:=he.out enc w _ _ _ h2
   exact ⟨c,y,h3,h4,hy⟩
  obtain ⟨c0,y0,hc0,hr0,-⟩:=hone 0 (by omega)
  have h00:=hr0 0 h0
  have hsome: ∃v,c0[0]? =some v:=⟨_,List.getElem?_eq_getElem (by omega)⟩
  obtain ⟨v,hv⟩:=hsome
  rw[hv] at h00
  have ha:(a.add (0*R.size)).add 0=a:=by simp[Addr.add]
  rw[ha] at h00
  obtain ⟨b,off,spot⟩:=a
  have hb: ∃ccs T fr,w.heap[b]? =some (.cells ccs T fr)/\spot=none:=by
   simp only[World.cell?] at h00
   split at h00
   ·rename_i ccs T fr heq
    cases spot with
    | none=>exact ⟨ccs,T,fr,heq,rfl⟩
    | some s=>simp at h00
   ·simp at h00
  obtain ⟨ccs,T,fr,hh,rfl⟩:=hb
  have hadd: ∀i j,(Addr.add ⟨b,off,none⟩ i).add j=⟨b,off+i+j,none⟩:=by
   intro i j
   by_cases h1:i=0 <;> by_cases h2:j=0 <;> simp[Addr.add,h1,h2,Nat.add_assoc]
  haveI:Inhabited α:=⟨y0⟩
  obtain ⟨X,hX⟩:=Go.Deep.choose_lt (α:=α) (n:=len) (p:=fun i y=> ∃c:List Value,c.length=R.size/\(∀j,j<R.size->ccs.toList[off+i*R.size+j]? =c[j]?)/\R.rd (hp w) c y/\Data.lim y) (fun i hi=>by
   obtain ⟨c,y,h1,h2,h3⟩:=hone i hi
   refine ⟨y,c,h1,fun j hj=>?_,h3⟩
   have:=h2 j hj
   rw[hadd] at this
   simp only[World.cell?,hh] at this
   simpa using this)
  have hlen:((List.range len).map X).length=len:=by simp
  have hel2: ∀i y,((List.range len).map X)[i]? =some y->i<len/\y=X i:=fun i y hy=>by
   have hi:i<len:=by have:=(List.getElem?_eq_some_iff.1 hy).1;omega
   exact ⟨hi,by simpa [hi] using hy.symm⟩
  refine ⟨(List.range len).map X,⟨some ⟨b,off,none⟩,m,by rw[hlen],by rw[hlen];unfold maxLen at hm;unfold lim;omega,.inr ⟨b,off,ccs,T,fr,rfl,hh,fun i y hy=>?_⟩⟩,by rw[hlen];unfold maxLen at hm;omega,fun y hy=>?_⟩
  ·obtain ⟨hi,rfl⟩:=hel2 i y hy
   obtain ⟨c,e1,e2,e3,-⟩:=hX i hi
   exact ⟨c,e1,e2,e3⟩
  ·obtain ⟨i,hi,he⟩:=List.mem_iff_getElem?.1 hy |>.imp fun i hi=>hel2 i y hi
   obtain ⟨-,-,-,-,e4⟩:=hX i hi
   rw[he];exact e4
structure OpensFs (P:Program) (fs:List Field) (o:Nat) {α:Type} [Data α] (R:Rep α):Prop where
 out: ∀ {H:Type} (enc:TypeId×Value->H) (w:World) (fuel:Nat) (cs:List Value),cs.length=o+R.size->
  (∀f∈fs,∃x,DataW.trod enc P w 0 (fun _=>true) true fuel f.type ((cs.drop f.offset).take (P.cellsOf f.type))=some x)-> ∃a:α,R.rd (hp w) (cs.drop o) a/\Data.lim a
theorem gH {P:Program} {f:Field} {o:Nat} {α:Type} [Data α] {R:Rep α} (ho:f.offset=o) (hc:P.cellsOf f.type=R.size) (h:Opens P f.type R):OpensFs P [f] o R:=by
 constructor
 intro H enc w fuel cs hl hx
 obtain ⟨x,hx⟩:=hx f (by simp)
 rw[ho,hc,List.take_of_length_le (by rw[aR];omega)] at hx
 exact h.out enc w _ _ _ hx
theorem cw {P:Program} {f:Field} {fs:List Field} {o:Nat} {α β:Type} [Data α] [Data β] {R:Rep α} {S:Rep β} (ho:f.offset=o) (hc:P.cellsOf f.type=R.size) (h:Opens P f.type R) (hs:OpensFs P fs (o+R.size) S):OpensFs P (f::fs) o (aH R S):=by
 constructor
 intro H enc w fuel cs hl hx
 have hl':cs.length=o+(R.size+S.size):=hl
 obtain ⟨b,hb,hlb⟩:=hs.out enc w fuel cs (by omega) (fun g hg=>hx g (by simp[hg]))
 obtain ⟨x,hx⟩:=hx f (by simp)
 rw[ho,hc] at hx
 obtain ⟨a,ha,hla⟩:=h.out enc w _ _ _ hx
 refine ⟨(a,b),⟨(cs.drop o).take R.size,cs.drop (o+R.size),?_,ha,hb⟩,hla,hlb⟩
 rw[<-List.drop_drop,List.take_append_drop]
theorem dP {P:Program} {t:TypeId} {fs:Array Field} {α:Type} [Data α] {R:Rep α} (h:P.underlying t=some (.struct fs)) (hc:P.cellsOf t=R.size) (hf:OpensFs P fs.toList 0 R):Opens P t R:=by
 constructor
 intro H enc w fuel cs x hx
 obtain ⟨xs,n,-,-,hl,hn,hel⟩:=DataW.trod_struct h hx
 have:=hf.out enc w n cs (by omega) (fun f hm=>by
  obtain ⟨i,hi,rfl⟩:=List.getElem_of_mem hm
  have h1:fs[i]? =some fs.toList[i]:=by simp
  exact ⟨_,(hel i _ h1).trans (List.getElem?_eq_getElem (by simp at hi;omega))⟩)
 simpa using this
theorem St.below {w0 w:World} {cs:List Ch} (h:St (hp w0) w0 w cs):Below w0.heap.size w0 w:=by
 obtain ⟨⟨h1,h2,h3,h4⟩,h5,-⟩:=h
 refine ⟨h1,h2,h3,h4,fun b hb=>?_⟩
 have e:w0.heap[b]? =some w0.heap[b]:=Array.getElem?_eq_getElem hb
 rw[e];exact h5 b _ e
end D
namespace D
open Go.RowKit
theorem fe {n:Int} (h1: -9223372036854775808<=n) (h2:n<=9223372036854775807):i64.wrap n=n:=by
 simp only[IntKind.wrap,IntKind.bits,IntKind.signed,Bool.true_and]
 split <;> rename_i h <;> simp at h <;> omega
theorem ah {i:Nat} (h:i<9223372036854775807):i64.wrap ((i:Int)+1)=((i+1:Nat):Int):=by
 rw[fe (by omega) (by omega)];rfl
theorem aB {α:Type} {xs:List α} {i:Nat} (h:i<xs.length):aT xs (i:Int)=some (xs[i]):=by
 unfold aT
 rw[if_pos (Int.natCast_nonneg _)]
 simp[h]
theorem bE {i n:Nat} (h:i<n):decide ((i:Int)<(n:Int))=true:=by simp[h]
theorem bg {n:Nat} :decide ((n:Int)<(n:Int))=false:=by simp
theorem dA (k:Nat) (h:k<=9223372036854775807):k<aW:=by unfold aW;omega
theorem vL {α:Type} {b n:Nat} {z:α} (h:n*b<=140737488355328):mkI b (n:Int) z=some (List.replicate n z):=by
 unfold mkI
 rw[if_pos ⟨Int.natCast_nonneg _,by simpa using h⟩];simp
theorem FJ {R S:Type} {f:S->Option (Out R S)} (inv:Nat->S) (N:Nat) (h: ∀i,i<N->f (inv i)=some (.nxt (inv (i+1)))): ∀(m i k:Nat),i+m=N->ay f (k+m) (inv i)=ay f k (inv N)
 | 0,i,k,e=>by rw[show i=N by omega];rfl
 | m+1,i,k,e=>by
  rw[<-Nat.add_assoc,ay,h i (by omega)]
  exact FJ inv N h m (i+1) k (by omega)
theorem FK {R S:Type} {f:S->Option (Out R S)} (inv:Nat->S) (N:Nat) {s:S} (h: ∀i,i<N->f (inv i)=some (.nxt (inv (i+1)))) (he:f (inv N)=some (.brk s)) (hN:N<aW):ay f aW (inv 0)=some (.brk s):=by
 have e:aW=(aW - N - 1)+1+N:=by omega
 rw[e,FJ inv N h N 0 _ (by omega),ay,he]
theorem toL {R α:Type} {f:List α×Int->Option (Out R (List α×Int))} {z:α} (xs:List α) (hN:xs.length<=9223372036854775807)
  (hstep: ∀ys i (h:i<xs.length),ys.length=xs.length->f (ys,(i:Int))=some (.nxt (ys.set i xs[i],((i+1:Nat):Int)))) (hend: ∀ys,ys.length=xs.length->f (ys,(xs.length:Int))=some (.brk (ys,(xs.length:Int)))) :
  ay f aW (List.replicate xs.length z,0)=some (.brk (xs,(xs.length:Int))):=by
 have h0:(List.replicate xs.length z,(0:Int))=(fun i:Nat=>(xs.take i++(List.replicate xs.length z).drop i,(i:Int))) 0:=by simp
 rw[h0]
 refine FK (fun i:Nat=>(xs.take i++(List.replicate xs.length z).drop i,(i:Int))) xs.length (fun i hi=>?_) ?_ (dA _ hN)
 ·have hl:(xs.take i++(List.replicate xs.length z).drop i).length=xs.length:=by
   rw[aw,aA,aR,List.length_replicate];omega
  rw[hstep _ i hi hl]
  congr 3
  have ht:(xs.take i).length=i:=by rw[aA];omega
  rw[List.set_append_right _ _ (by omega),ht,Nat.sub_self,List.drop_eq_getElem_cons (by rw[List.length_replicate];exact hi),List.set_cons_zero,List.take_succ_eq_append_getElem hi,ai]
  rfl
 ·have:=hend xs rfl
  rw[List.take_of_length_le (aE _),List.drop_of_length_le (by rw[List.length_replicate];exact aE _),List.append_nil]
  exact this
def F9 {α:Type} [Data α] (m:α->Int->Option Int):Prop:= ∀x l,Data.lim x->0<=l->l<=1048576-> ∃r,m x l=some r/\(r<0\/(0<=r/\r<=l/\Data.sm x))
def DC {α:Type} [Data α] (m:α->Option α):Prop:= ∀x,Data.sm x->m x=some x
def DD {α:Type} [Data α] [DecidableEq α] (m:α->α->Option Bool):Prop:= ∀x y,Data.sm x->Data.sm y->m x y=some (decide (x=y))
theorem Y3 {α:Type} [Data α] {f:Int×Int->Option Jd } (xs:List α)
  (hstep: ∀i (h:i<xs.length) l,0<=l->l<=1048576-> ∃r,f (l,(i:Int))=some (if r<0 then .ret (-1) else .nxt (r,((i+1:Nat):Int)))/\(r<0\/(0<=r/\r<=l/\Data.sm xs[i])))
  (hend: ∀l,f (l,(xs.length:Int))=some (.brk (l,(xs.length:Int)))): ∀(m i k:Nat) (l:Int),i+m=xs.length->m<k->0<=l->l<=1048576->
   ay f k (l,(i:Int))=some (.ret (-1))\/ ∃r,ay f k (l,(i:Int))=some (.brk (r,(xs.length:Int)))/\0<=r/\r<=l/\ ∀j (h:j<xs.length),i<=j->Data.sm xs[j]
 | 0,i,k,l,e,hk,h0,h1=>by
  obtain ⟨k,rfl⟩: ∃q,k=q+1:=⟨k - 1,by omega⟩
  obtain rfl:i=xs.length:=by omega
  exact .inr ⟨l,by rw[ay,hend],h0,Int.le_refl _,fun j hj hi=>by omega⟩
 | m+1,i,k,l,e,hk,h0,h1=>by
  obtain ⟨k,rfl⟩: ∃q,k=q+1:=⟨k - 1,by omega⟩
  obtain ⟨r,e1,e2⟩:=hstep i (by omega) l h0 h1
  rw[ay,e1]
  rcases e2 with e2 | ⟨e2,e3,e4⟩
  ·rw[if_pos e2];exact .inl rfl
  ·rw[if_neg (by omega)]
   rcases Y3 xs hstep hend m (i+1) k r (by omega) (by omega) e2 (by omega) with h | ⟨q,g1,g2,g3,g4⟩
   ·exact .inl h
   ·refine .inr ⟨q,g1,g2,by omega,fun j hj hi=>?_⟩
    by_cases hji:j=i
    ·subst hji;exact e4
    ·exact g4 j hj (by omega)
theorem szL {α:Type} [Data α] {f:Int×Int->Option Jd } (xs:List α) {l:Int} (hN:xs.length<=9223372036854775807)
  (hstep: ∀i (h:i<xs.length) l,0<=l->l<=1048576-> ∃r,f (l,(i:Int))=some (if r<0 then .ret (-1) else .nxt (r,((i+1:Nat):Int)))/\(r<0\/(0<=r/\r<=l/\Data.sm xs[i])))
  (hend: ∀l,f (l,(xs.length:Int))=some (.brk (l,(xs.length:Int)))) (h0:0<=l) (h1:l<=1048576) :
  ∃r,(if decide (i64.wrap (l - (xs.length:Int))<0) then (some (-1)) else (aP (ay f aW (i64.wrap (l - (xs.length:Int)),0)) (fun r=>some r) (fun s4=>some s4.1)))=some r/\(r<0\/(0<=r/\r<=l/\Data.sm xs)):=by
 rw[fe (by omega) (by omega)]
 by_cases h:l - (xs.length:Int)<0
 ·exact ⟨-1,by rw[if_pos (decide_eq_true h)],.inl (by decide)⟩
 ·rw[if_neg (by simpa using h)]
  rcases Y3 xs hstep hend xs.length 0 aW (l - xs.length) (by omega) (dA _ hN) (by omega) (by omega) with e | ⟨r,e,g1,g2,g3⟩
  ·exact ⟨-1,by rw[show ((0:Int))=((0:Nat):Int) from rfl,e];rfl,.inl (by decide)⟩
  ·refine ⟨r,by rw[show ((0:Int))=((0:Nat):Int) from rfl,e];rfl,.inr ⟨g1,by omega,by omega,fun x hx=>?_⟩⟩
   obtain ⟨j,hj,rfl⟩:=List.getElem_of_mem hx
   exact g3 j hj (Nat.zero_le _)
theorem szF {α:Type} [Data α] (xs:List α) {l:Int} (hN:xs.length<=9223372036854775807) (hf: ∀x:α,Data.sm x) (h0:0<=l) (h1:l<=1048576) :
  ∃r,(if decide (i64.wrap (l - (xs.length:Int))<0) then (some (-1)) else (some (i64.wrap (l - (xs.length:Int)))))=some r/\(r<0\/(0<=r/\r<=l/\Data.sm xs)):=by
 rw[fe (by omega) (by omega)]
 by_cases h:l - (xs.length:Int)<0
 ·exact ⟨-1,by rw[if_pos (decide_eq_true h)],.inl (by decide)⟩
 ·exact ⟨_,by rw[if_neg (by simpa using h)],.inr ⟨by omega,by omega,by omega,fun x _=>hf x⟩⟩
theorem Yf {α:Type} [DecidableEq α] {f:Int->Option (Out Bool Int)} (xs ys:List α) (hl:xs.length=ys.length)
  (hstep: ∀i (h:i<xs.length) (h':i<ys.length),f (i:Int)=some (if xs[i] =ys[i] then .nxt ((i+1:Nat):Int) else .ret false)) (hend:f (xs.length:Int)=some (.brk (xs.length:Int))): ∀(m i k:Nat),i+m=xs.length->m<k->
   ay f k (i:Int)=some (if xs.drop i=ys.drop i then .brk (xs.length:Int) else .ret false)
 | 0,i,k,e,hk=>by
  obtain ⟨k,rfl⟩: ∃q,k=q+1:=⟨k - 1,by omega⟩
  obtain rfl:i=xs.length:=by omega
  rw[ay,hend,List.drop_of_length_le (aE _),List.drop_of_length_le (by omega),if_pos rfl]
 | m+1,i,k,e,hk=>by
  obtain ⟨k,rfl⟩: ∃q,k=q+1:=⟨k - 1,by omega⟩
  have hi:i<xs.length:=by omega
  have hi':i<ys.length:=by omega
  have d1:=List.drop_eq_getElem_cons hi
  have d2:=List.drop_eq_getElem_cons hi'
  rw[ay,hstep i hi hi',d1,d2]
  by_cases h:xs[i] =ys[i]
  ·rw[if_pos h]
   simp only
   rw[Yf xs ys hl hstep hend m (i+1) k (by omega) (by omega)]
   simp only[List.cons.injEq,h,true_and]
  ·rw[if_neg h]
   simp only[List.cons.injEq,h,false_and,if_false]
theorem eqL {α:Type} [DecidableEq α] {f:Int->Option (Out Bool Int)} (xs ys:List α) (hN:xs.length<=9223372036854775807)
  (hstep: ∀i (h:i<xs.length) (h':i<ys.length),f (i:Int)=some (if xs[i] =ys[i] then .nxt ((i+1:Nat):Int) else .ret false)) (hend:f (xs.length:Int)=some (.brk (xs.length:Int))) :
  (if (xs.length:Int) !=(ys.length:Int) then (some false) else (aP (ay f aW 0) (fun r=>some r) (fun s4=>some true)))=some (decide (xs=ys)):=by
 by_cases hl:xs.length=ys.length
 ·rw[if_neg (by rw[hl];simp),show ((0:Int))=((0:Nat):Int) from rfl,Yf xs ys hl hstep hend xs.length 0 aW (by omega) (dA _ hN)]
  by_cases h:xs=ys
  ·subst h;simp[aP]
  ·simp[aP,h]
 ·have:xs≠ys:=fun e=>hl (by rw[e])
  rw[if_pos (by simp;omega)];simp[this]
theorem fO {α:Type} {c d:Prop} [Decidable c] [Decidable d] {a b:α} (h:c↔d):(if c then some a else some b)=some (if d then a else b):=by
 by_cases k:c
 ·rw[if_pos k,if_pos (h.1 k)]
 ·rw[if_neg k,if_neg (fun e=>k (h.2 e))]
theorem qj {α:Type} {c d:Prop} [Decidable c] [Decidable d] {a b:α} (h:c↔ ¬d):(if c then some b else some a)=some (if d then a else b):=by
 by_cases k:d
 ·rw[if_neg (fun e=>h.1 e k),if_pos k]
 ·rw[if_pos (h.2 k),if_neg k]
theorem eqB {α:Type} [DecidableEq α] {f:Int->Option (Out Bool Int)} {K:Option Bool} (xs ys:List α) (hN:xs.length<=9223372036854775807) (hl:xs.length=ys.length)
  (hstep: ∀i (h:i<xs.length) (h':i<ys.length),f (i:Int)=some (if xs[i] =ys[i] then .nxt ((i+1:Nat):Int) else .ret false)) (hend:f (xs.length:Int)=some (.brk (xs.length:Int))) :
  aP (ay f aW 0) (fun r=>some r) (fun s4=>K)=(if xs=ys then K else some false):=by
 rw[show ((0:Int))=((0:Nat):Int) from rfl,Yf xs ys hl hstep hend xs.length 0 aW (by omega) (dA _ hN)]
 by_cases h:xs=ys
 ·subst h;simp[aP]
 ·simp[aP,h]
theorem WB {f:Int->Option (Out Int Int)} (xs ys:List Int)
  (hstep: ∀i (h:i<xs.length) (h':i<ys.length),f (i:Int)=some (if xs[i] < ys[i] then .ret (-1) else if xs[i] > ys[i] then .ret 1 else .nxt ((i+1:Nat):Int))) (hend: ∀i,xs.length<=i\/ys.length<=i->f (i:Int)=some (.brk (i:Int))): ∀(m i k:Nat),i+m=xs.length->m<k->
   (∃r,ay f k (i:Int)=some (.ret r)/\r≠0/\xs≠ys)\/ ∃s,ay f k (i:Int)=some (.brk s)/\(xs.length=ys.length->xs.drop i=ys.drop i)
 | 0,i,k,e,hk=>by
  obtain ⟨k,rfl⟩: ∃q,k=q+1:=⟨k - 1,by omega⟩
  exact .inr ⟨_,by rw[ay,hend i (.inl (by omega))],fun h=>by rw[List.drop_of_length_le (by omega),List.drop_of_length_le (by omega)]⟩
 | m+1,i,k,e,hk=>by
  obtain ⟨k,rfl⟩: ∃q,k=q+1:=⟨k - 1,by omega⟩
  have hi:i<xs.length:=by omega
  by_cases hi':i<ys.length
  ·have hne: ∀h:xs[i] ≠ys[i],xs≠ys:=fun h e=>h (by subst e;rfl)
   rw[ay,hstep i hi hi']
   by_cases h1:xs[i] < ys[i]
   ·rw[if_pos h1];exact .inl ⟨-1,rfl,by decide,hne (by omega)⟩
   ·rw[if_neg h1]
    by_cases h2:xs[i] > ys[i]
    ·rw[if_pos h2];exact .inl ⟨1,rfl,by decide,hne (by omega)⟩
    ·rw[if_neg h2]
     rcases WB xs ys hstep hend m (i+1) k (by omega) (by omega) with h | ⟨s,g1,g2⟩
     ·exact .inl h
     ·refine .inr ⟨s,g1,fun hl=>?_⟩
      have h3:xs[i] =ys[i]:=by omega
      rw[List.drop_eq_getElem_cons hi,List.drop_eq_getElem_cons hi',g2 hl,h3]
  ·exact .inr ⟨_,by rw[ay,hend i (.inr (by omega))],fun h=>by omega⟩
instance:LawfulBEq ByteArray where
 eq_of_beq {a b} h:=ByteArray.ext (eq_of_beq (show (a.data==b.data)=true from h))
 rfl {a}:=beq_self_eq_true a.data
theorem Y4 {α β γ δ:Type} {a b:α×β×γ×δ} :(a.1=b.1/\a.2.1=b.2.1/\a.2.2.1=b.2.2.1/\a.2.2.2=b.2.2.2)↔a=b:=by rw[Prod.ext_iff,Prod.ext_iff,Prod.ext_iff]
theorem dQ {α β:Type} (p:α×β):(p.1,p.2)=p:=rfl
theorem aN {α:Type} [Data α] {xs:List α} (h:Data.sm xs):xs.length<=1048576/\ ∀x,x∈xs->Data.sm x:=h
theorem eZ {α:Type} [Data α] {xs:List α} (h:Data.lim xs):xs.length<=9223372036854775807/\ ∀x,x∈xs->Data.lim x:=h
end D
set_option synthInstance.maxSize 20000
set_option synthInstance.maxHeartbeats 2000000
namespace D
open Go.RowKit
theorem Jg:F9 sI:=fun xs l hl h0 h1=>szF xs (eZ hl).1 (fun _=>trivial) h0 h1
theorem NH:F9 ug:=fun xs l hl h0 h1=>szF xs (eZ hl).1 (fun _=>⟨trivial,trivial,trivial,trivial⟩) h0 h1
theorem NI:F9 pX:=by
 intro x l hl h0 h1
 unfold pX
 try simp only[dQ]
 obtain ⟨r1,e1,k1⟩:=Jg x.1 l hl.1 (by omega) (by omega)
 rw[e1];simp only[aa]
 rcases k1 with k1 | ⟨k1,j1,s1⟩
 ·exact ⟨-1,by rw[if_pos (decide_eq_true k1)],.inl (by decide)⟩
 rw[if_neg (by simpa using k1)]
 obtain ⟨r2,e2,k2⟩:=NH x.2 r1 hl.2 (by omega) (by omega)
 rw[e2];simp only[aa]
 rcases k2 with k2 | ⟨k2,j2,s2⟩
 ·exact ⟨-1,by rw[if_pos (decide_eq_true k2)],.inl (by decide)⟩
 rw[if_neg (by simpa using k2)]
 exact ⟨_,rfl,.inr ⟨by omega,by omega,⟨s1,s2⟩⟩⟩
theorem KB:F9 ru:=fun xs l hl h0 h1=>szL (f:=ko xs) xs (eZ hl).1 (fun i h l k0 k1=>by
 obtain ⟨r,e,hr⟩:=NI xs[i] l ((eZ hl).2 _ (List.getElem_mem h)) k0 k1
 refine ⟨r,?_,hr⟩
 simp only[ko,bE h,if_true,aB h,aa,dQ,e,ah (show i<9223372036854775807 by have:=(eZ hl).1;omega)]
 exact fO (by simp)) (fun l=>by simp only[ko,bg];rfl) h0 h1
theorem HD:F9 mB:=by
 intro x l hl h0 h1
 unfold mB
 try simp only[dQ]
 obtain ⟨r1,e1,k1⟩:=KB x.2 l hl.2 (by omega) (by omega)
 rw[e1];simp only[aa]
 rcases k1 with k1 | ⟨k1,j1,s1⟩
 ·exact ⟨-1,by rw[if_pos (decide_eq_true k1)],.inl (by decide)⟩
 rw[if_neg (by simpa using k1)]
 exact ⟨_,rfl,.inr ⟨by omega,by omega,⟨trivial,s1⟩⟩⟩
theorem NJ:F9 uh:=fun xs l hl h0 h1=>szF xs (eZ hl).1 (fun _=>trivial) h0 h1
theorem NK:F9 ui:=fun xs l hl h0 h1=>szL (f:=lE xs) xs (eZ hl).1 (fun i h l k0 k1=>by
 obtain ⟨r,e,hr⟩:=Jg xs[i] l ((eZ hl).2 _ (List.getElem_mem h)) k0 k1
 refine ⟨r,?_,hr⟩
 simp only[lE,bE h,if_true,aB h,aa,dQ,e,ah (show i<9223372036854775807 by have:=(eZ hl).1;omega)]
 exact fO (by simp)) (fun l=>by simp only[lE,bg];rfl) h0 h1
theorem DE:F9 kp:=by
 intro x l hl h0 h1
 unfold kp
 try simp only[dQ]
 obtain ⟨r1,e1,k1⟩:=NJ x.2.1 l hl.2.1 (by omega) (by omega)
 rw[e1];simp only[aa]
 rcases k1 with k1 | ⟨k1,j1,s1⟩
 ·exact ⟨-1,by rw[if_pos (decide_eq_true k1)],.inl (by decide)⟩
 rw[if_neg (by simpa using k1)]
 obtain ⟨r2,e2,k2⟩:=NK x.2.2 r1 hl.2.2 (by omega) (by omega)
 rw[e2];simp only[aa]
 rcases k2 with k2 | ⟨k2,j2,s2⟩
 ·exact ⟨-1,by rw[if_pos (decide_eq_true k2)],.inl (by decide)⟩
 rw[if_neg (by simpa using k2)]
 exact ⟨_,rfl,.inr ⟨by omega,by omega,⟨trivial,s1,s2⟩⟩⟩
theorem BB:F9 ma:=fun xs l hl h0 h1=>szL (f:=gk xs) xs (eZ hl).1 (fun i h l k0 k1=>by
 obtain ⟨r,e,hr⟩:=DE xs[i] l ((eZ hl).2 _ (List.getElem_mem h)) k0 k1
 refine ⟨r,?_,hr⟩
 simp only[gk,bE h,if_true,aB h,aa,dQ,e,ah (show i<9223372036854775807 by have:=(eZ hl).1;omega)]
 exact fO (by simp)) (fun l=>by simp only[gk,bg];rfl) h0 h1
theorem KD:F9 rv:=fun xs l hl h0 h1=>szF xs (eZ hl).1 (fun _=>⟨trivial,trivial,trivial,trivial⟩) h0 h1
theorem QQ:F9 sJ:=by
 intro x l hl h0 h1
 unfold sJ
 try simp only[dQ]
 obtain ⟨r1,e1,k1⟩:=KD x l hl (by omega) (by omega)
 rw[e1];simp only[aa]
 rcases k1 with k1 | ⟨k1,j1,s1⟩
 ·exact ⟨-1,by rw[if_pos (decide_eq_true k1)],.inl (by decide)⟩
 rw[if_neg (by simpa using k1)]
 exact ⟨_,rfl,.inr ⟨by omega,by omega,s1⟩⟩
theorem BC:F9 jo:=by
 intro x l hl h0 h1
 unfold jo
 try simp only[dQ]
 obtain ⟨r1,e1,k1⟩:=QQ x.2.1 l hl.2.1 (by omega) (by omega)
 rw[e1];simp only[aa]
 rcases k1 with k1 | ⟨k1,j1,s1⟩
 ·exact ⟨-1,by rw[if_pos (decide_eq_true k1)],.inl (by decide)⟩
 rw[if_neg (by simpa using k1)]
 exact ⟨_,rfl,.inr ⟨by omega,by omega,⟨trivial,s1,trivial⟩⟩⟩
theorem AM:F9 kS:=fun xs l hl h0 h1=>szL (f:=fo xs) xs (eZ hl).1 (fun i h l k0 k1=>by
 obtain ⟨r,e,hr⟩:=BC xs[i] l ((eZ hl).2 _ (List.getElem_mem h)) k0 k1
 refine ⟨r,?_,hr⟩
 simp only[fo,bE h,if_true,aB h,aa,dQ,e,ah (show i<9223372036854775807 by have:=(eZ hl).1;omega)]
 exact fO (by simp)) (fun l=>by simp only[fo,bg];rfl) h0 h1
theorem FL:F9 lF:=by
 intro x l hl h0 h1
 unfold lF
 try simp only[dQ]
 obtain ⟨r1,e1,k1⟩:=BB x.1 l hl.1 (by omega) (by omega)
 rw[e1];simp only[aa]
 rcases k1 with k1 | ⟨k1,j1,s1⟩
 ·exact ⟨-1,by rw[if_pos (decide_eq_true k1)],.inl (by decide)⟩
 rw[if_neg (by simpa using k1)]
 obtain ⟨r2,e2,k2⟩:=AM x.2 r1 hl.2 (by omega) (by omega)
 rw[e2];simp only[aa]
 rcases k2 with k2 | ⟨k2,j2,s2⟩
 ·exact ⟨-1,by rw[if_pos (decide_eq_true k2)],.inl (by decide)⟩
 rw[if_neg (by simpa using k2)]
 exact ⟨_,rfl,.inr ⟨by omega,by omega,⟨s1,s2⟩⟩⟩
theorem AN:F9 kT:=fun xs l hl h0 h1=>szF xs (eZ hl).1 (fun _=>⟨trivial,trivial,trivial⟩) h0 h1
theorem KE:F9 ot:=by
 intro x l hl h0 h1
 unfold ot
 try simp only[dQ]
 obtain ⟨r1,e1,k1⟩:=HD x.1 l hl.1 (by omega) (by omega)
 rw[e1];simp only[aa]
 rcases k1 with k1 | ⟨k1,j1,s1⟩
 ·exact ⟨-1,by rw[if_pos (decide_eq_true k1)],.inl (by decide)⟩
 rw[if_neg (by simpa using k1)]
 obtain ⟨r2,e2,k2⟩:=FL x.2.1 r1 hl.2.1 (by omega) (by omega)
 rw[e2];simp only[aa]
 rcases k2 with k2 | ⟨k2,j2,s2⟩
 ·exact ⟨-1,by rw[if_pos (decide_eq_true k2)],.inl (by decide)⟩
 rw[if_neg (by simpa using k2)]
 obtain ⟨r3,e3,k3⟩:=AN x.2.2.1 r2 hl.2.2.1 (by omega) (by omega)
 rw[e3];simp only[aa]
 rcases k3 with k3 | ⟨k3,j3,s3⟩
 ·exact ⟨-1,by rw[if_pos (decide_eq_true k3)],.inl (by decide)⟩
 rw[if_neg (by simpa using k3)]
 rw[fe (by have:x.2.2.2.size<=9223372036854775807:=hl.2.2.2;omega) (by omega)]
 by_cases k4:r3 - (x.2.2.2.size:Int)<0
 ·exact ⟨-1,by rw[if_pos (decide_eq_true k4)],.inl (by decide)⟩
 rw[if_neg (by simpa using k4)]
 have s4:x.2.2.2.size<=1048576:=by omega
 exact ⟨_,rfl,.inr ⟨by omega,by omega,⟨s1,s2,s3,s4⟩⟩⟩
theorem Jh:DC pc:=by
 intro xs hx
 have hn:=(aN hx).1
 unfold pc
 rw[vL (by omega)];simp only[aa]
 rw[toL (f:=mC xs) xs (by omega) (fun ys i h hy=>by simp only[mC,bE h,if_true,aB h,aB (show i<ys.length by omega),aa,dQ,ah (show i<9223372036854775807 by omega),Int.toNat_natCast]) (fun ys hy=>by simp only[mC,bg];rfl)]
 rfl
theorem QR:DC sK:=by
 intro x hx
 unfold sK
 simp only[dQ,aa]
theorem NL:DC pY:=by
 intro xs hx
 have hn:=(aN hx).1
 unfold pY
 rw[vL (by omega)];simp only[aa]
 rw[toL (f:=lG xs) xs (by omega) (fun ys i h hy=>by simp only[lG,bE h,if_true,aB h,aB (show i<ys.length by omega),aa,dQ,QR xs[i] ((aN hx).2 _ (List.getElem_mem h)),ah (show i<9223372036854775807 by omega),Int.toNat_natCast]) (fun ys hy=>by simp only[lG,bg];rfl)]
 rfl
theorem NM:DC pZ:=by
 intro x hx
 unfold pZ
 simp only[dQ,aa,Jh x.1 hx.1,NL x.2 hx.2]
theorem KF:DC ou:=by
 intro xs hx
 have hn:=(aN hx).1
 unfold ou
 rw[vL (by omega)];simp only[aa]
 rw[toL (f:=kq xs) xs (by omega) (fun ys i h hy=>by simp only[kq,bE h,if_true,aB h,aB (show i<ys.length by omega),aa,dQ,NM xs[i] ((aN hx).2 _ (List.getElem_mem h)),ah (show i<9223372036854775807 by omega),Int.toNat_natCast]) (fun ys hy=>by simp only[kq,bg];rfl)]
 rfl
theorem HE:DC mD:=by
 intro x hx
 unfold mD
 simp only[dQ,aa,KF x.2 hx.2]
theorem NN:DC p7:=by
 intro xs hx
 have hn:=(aN hx).1
 unfold p7
 rw[vL (by omega)];simp only[aa]
 rw[toL (f:=lH xs) xs (by omega) (fun ys i h hy=>by simp only[lH,bE h,if_true,aB h,aB (show i<ys.length by omega),aa,dQ,ah (show i<9223372036854775807 by omega),Int.toNat_natCast]) (fun ys hy=>by simp only[lH,bg];rfl)]
 rfl
theorem NO:DC p8:=by
 intro xs hx
 have hn:=(aN hx).1
 unfold p8
 rw[vL (by omega)];simp only[aa]
 rw[toL (f:=lI xs) xs (by omega) (fun ys i h hy=>by simp only[lI,bE h,if_true,aB h,aB (show i<ys.length by omega),aa,dQ,Jh xs[i] ((aN hx).2 _ (List.getElem_mem h)),ah (show i<9223372036854775807 by omega),Int.toNat_natCast]) (fun ys hy=>by simp only[lI,bg];rfl)]
 rfl
theorem DF:DC kt:=by
 intro x hx
 unfold kt
 simp only[dQ,aa,NN x.2.1 hx.2.1,NO x.2.2 hx.2.2]
theorem BD:DC jq:=by
 intro xs hx
 have hn:=(aN hx).1
 unfold jq
 rw[vL (by omega)];simp only[aa]
 rw[toL (f:=gl xs) xs (by omega) (fun ys i h hy=>by simp only[gl,bE h,if_true,aB h,aB (show i<ys.length by omega),aa,dQ,DF xs[i] ((aN hx).2 _ (List.getElem_mem h)),ah (show i<9223372036854775807 by omega),Int.toNat_natCast]) (fun ys hy=>by simp only[gl,bg];rfl)]
 rfl
theorem NP:DC p9:=by
 intro x hx
 unfold p9
 simp only[dQ,aa]
theorem KG:DC ox:=by
 intro xs hx
 have hn:=(aN hx).1
 unfold ox
 rw[vL (by omega)];simp only[aa]
 rw[toL (f:=ku xs) xs (by omega) (fun ys i h hy=>by simp only[ku,bE h,if_true,aB h,aB (show i<ys.length by omega),aa,dQ,NP xs[i] ((aN hx).2 _ (List.getElem_mem h)),ah (show i<9223372036854775807 by omega),Int.toNat_natCast]) (fun ys hy=>by simp only[ku,bg];rfl)]
 rfl
theorem QS:DC sL:=by
 intro x hx
 unfold sL
 simp only[dQ,aa,KG x hx]
theorem BE:DC jr:=by
 intro x hx
 unfold jr
 simp only[dQ,aa,QS x.2.1 hx.2.1]
theorem AO:DC iM:=by
 intro xs hx
 have hn:=(aN hx).1
 unfold iM
 rw[vL (by omega)];simp only[aa]
 rw[toL (f:=fp xs) xs (by omega) (fun ys i h hy=>by simp only[fp,bE h,if_true,aB h,aB (show i<ys.length by omega),aa,dQ,BE xs[i] ((aN hx).2 _ (List.getElem_mem h)),ah (show i<9223372036854775807 by omega),Int.toNat_natCast]) (fun ys hy=>by simp only[fp,bg];rfl)]
 rfl
theorem FM:DC lJ:=by
 intro x hx
 unfold lJ
 simp only[dQ,aa,BD x.1 hx.1,AO x.2 hx.2]
theorem BF:DC jt:=by
 intro x hx
 unfold jt
 simp only[dQ,aa]
theorem AP:DC iN:=by
 intro xs hx
 have hn:=(aN hx).1
 unfold iN
 rw[vL (by omega)];simp only[aa]
 rw[toL (f:=fq xs) xs (by omega) (fun ys i h hy=>by simp only[fq,bE h,if_true,aB h,aB (show i<ys.length by omega),aa,dQ,BF xs[i] ((aN hx).2 _ (List.getElem_mem h)),ah (show i<9223372036854775807 by omega),Int.toNat_natCast]) (fun ys hy=>by simp only[fq,bg];rfl)]
 rfl
theorem KH:DC jL:=by
 intro x hx
 unfold jL
 simp only[dQ,aa,HE x.1 hx.1,FM x.2.1 hx.2.1,AP x.2.2.1 hx.2.2.1]
theorem Ji:DD sM:=fun xs ys hx hy=>eqL (f:=mE xs ys) xs ys (by have:=(aN hx).1;omega) (fun i h h'=>by
 simp only[mE,bE h,if_true,aB h,aB h',aa,dQ,ah (show i<9223372036854775807 by have:=(aN hx).1;omega)]
 first | exact fO (by simp) | exact qj (by simp) | exact fO (by simp[Prod.ext_iff])) (by simp only[mE,bg];rfl)
theorem QU:DD sN:=by
 intro x y hx hy
 unfold sN
 try simp only[dQ,aa]
 repeat' split
 all_goals simp_all[Prod.ext_iff]
theorem NQ:DD uj:=fun xs ys hx hy=>eqL (f:=lK xs ys) xs ys (by have:=(aN hx).1;omega) (fun i h h'=>by
 simp only[lK,bE h,if_true,aB h,aB h',aa,dQ,QU xs[i] ys[i] ((aN hx).2 _ (List.getElem_mem h)) ((aN hy).2 _ (List.getElem_mem h')),ah (show i<9223372036854775807 by have:=(aN hx).1;omega)]
 first | exact fO (by simp) | exact qj (by simp) | exact fO (by simp[Prod.ext_iff])) (by simp only[lK,bg];rfl)
theorem NR:DD qa:=by
 intro x y hx hy
 unfold qa
 try simp only[dQ,aa,Ji x.1 y.1 hx.1 hy.1,NQ x.2 y.2 hx.2 hy.2]
 repeat' split
 all_goals simp_all[Prod.ext_iff]
theorem KI:DD ry:=fun xs ys hx hy=>eqL (f:=ky xs ys) xs ys (by have:=(aN hx).1;omega) (fun i h h'=>by
 simp only[ky,bE h,if_true,aB h,aB h',aa,dQ,NR xs[i] ys[i] ((aN hx).2 _ (List.getElem_mem h)) ((aN hy).2 _ (List.getElem_mem h')),ah (show i<9223372036854775807 by have:=(aN hx).1;omega)]
 first | exact fO (by simp) | exact qj (by simp) | exact fO (by simp[Prod.ext_iff])) (by simp only[ky,bg];rfl)
theorem HF:DD mF:=by
 intro x y hx hy
 unfold mF
 try simp only[dQ,aa,KI x.2 y.2 hx.2 hy.2]
 repeat' split
 all_goals simp_all[Prod.ext_iff]
theorem NS:DD uk:=fun xs ys hx hy=>eqL (f:=lL xs ys) xs ys (by have:=(aN hx).1;omega) (fun i h h'=>by
 simp only[lL,bE h,if_true,aB h,aB h',aa,dQ,ah (show i<9223372036854775807 by have:=(aN hx).1;omega)]
 first | exact fO (by simp) | exact qj (by simp) | exact fO (by simp[Prod.ext_iff])) (by simp only[lL,bg];rfl)
theorem NT:DD um:=fun xs ys hx hy=>eqL (f:=lM xs ys) xs ys (by have:=(aN hx).1;omega) (fun i h h'=>by
 simp only[lM,bE h,if_true,aB h,aB h',aa,dQ,Ji xs[i] ys[i] ((aN hx).2 _ (List.getElem_mem h)) ((aN hy).2 _ (List.getElem_mem h')),ah (show i<9223372036854775807 by have:=(aN hx).1;omega)]
 first | exact fO (by simp) | exact qj (by simp) | exact fO (by simp[Prod.ext_iff])) (by simp only[lM,bg];rfl)
theorem DG:DD kz:=by
 intro x y hx hy
 unfold kz
 try simp only[dQ,aa,NS x.2.1 y.2.1 hx.2.1 hy.2.1,NT x.2.2 y.2.2 hx.2.2 hy.2.2]
 repeat' split
 all_goals simp_all[Prod.ext_iff]
theorem BG:DD mb:=fun xs ys hx hy=>eqL (f:=gm xs ys) xs ys (by have:=(aN hx).1;omega) (fun i h h'=>by
 simp only[gm,bE h,if_true,aB h,aB h',aa,dQ,DG xs[i] ys[i] ((aN hx).2 _ (List.getElem_mem h)) ((aN hy).2 _ (List.getElem_mem h')),ah (show i<9223372036854775807 by have:=(aN hx).1;omega)]
 first | exact fO (by simp) | exact qj (by simp) | exact fO (by simp[Prod.ext_iff])) (by simp only[gm,bg];rfl)
theorem NU:DD qb:=by
 intro x y hx hy
 unfold qb
 try simp only[dQ,aa]
 repeat' split
 all_goals simp_all[Prod.ext_iff]
theorem KJ:DD rz:=fun xs ys hx hy=>eqL (f:=kA xs ys) xs ys (by have:=(aN hx).1;omega) (fun i h h'=>by
 simp only[kA,bE h,if_true,aB h,aB h',aa,dQ,NU xs[i] ys[i] ((aN hx).2 _ (List.getElem_mem h)) ((aN hy).2 _ (List.getElem_mem h')),ah (show i<9223372036854775807 by have:=(aN hx).1;omega)]
 first | exact fO (by simp) | exact qj (by simp) | exact fO (by simp[Prod.ext_iff])) (by simp only[kA,bg];rfl)
theorem QV:DD sO:=by
 intro x y hx hy
 unfold sO
 try simp only[dQ,aa,KJ x y hx hy]
 repeat' split
 all_goals simp_all[Prod.ext_iff]
theorem BH:DD ju:=by
 intro x y hx hy
 unfold ju
 try simp only[dQ,aa,QV x.2.1 y.2.1 hx.2.1 hy.2.1]
 repeat' split
 all_goals simp_all[Prod.ext_iff]
theorem AQ:DD kU:=fun xs ys hx hy=>eqL (f:=fu xs ys) xs ys (by have:=(aN hx).1;omega) (fun i h h'=>by
 simp only[fu,bE h,if_true,aB h,aB h',aa,dQ,BH xs[i] ys[i] ((aN hx).2 _ (List.getElem_mem h)) ((aN hy).2 _ (List.getElem_mem h')),ah (show i<9223372036854775807 by have:=(aN hx).1;omega)]
 first | exact fO (by simp) | exact qj (by simp) | exact fO (by simp[Prod.ext_iff])) (by simp only[fu,bg];rfl)
theorem FN:DD lN:=by
 intro x y hx hy
 unfold lN
 try simp only[dQ,aa,BG x.1 y.1 hx.1 hy.1,AQ x.2 y.2 hx.2 hy.2]
 repeat' split
 all_goals simp_all[Prod.ext_iff]
theorem BI:DD jv:=by
 intro x y hx hy
 unfold jv
 try simp only[dQ,aa]
 repeat' split
 all_goals simp_all[Prod.ext_iff]
theorem AR:DD kV:=fun xs ys hx hy=>eqL (f:=fv xs ys) xs ys (by have:=(aN hx).1;omega) (fun i h h'=>by
 simp only[fv,bE h,if_true,aB h,aB h',aa,dQ,BI xs[i] ys[i] ((aN hx).2 _ (List.getElem_mem h)) ((aN hy).2 _ (List.getElem_mem h')),ah (show i<9223372036854775807 by have:=(aN hx).1;omega)]
 first | exact fO (by simp) | exact qj (by simp) | exact fO (by simp[Prod.ext_iff])) (by simp only[fv,bg];rfl)
theorem KK:DD oy:=by
 intro x y hx hy
 unfold oy
 try simp only[dQ,aa,HF x.1 y.1 hx.1 hy.1,FN x.2.1 y.2.1 hx.2.1 hy.2.1,AR x.2.2.1 y.2.2.1 hx.2.2.1 hy.2.2.1]
 repeat' split
 all_goals simp_all[Prod.ext_iff]
end D
namespace D
open Go.RowKit
theorem cK {R S:Type} {f:S->Option (Out R S)} (Inv:Nat->S->Prop) (Q:Out R S->Prop) (N:Nat)
  (h: ∀i s,i<=N->Inv i s->(i<N/\ ∃s',f s=some (.nxt s')/\Inv (i+1) s')\/ ∃o,f s=some o/\(∀s',o≠ .nxt s')/\Q o) {s:S} (h0:Inv 0 s) (hN:N<aW): ∃o,ay f aW s=some o/\Q o:=by
 have key: ∀(k i:Nat) (s:S),i<=N->N<i+k->Inv i s-> ∃o,ay f k s=some o/\Q o:=by
  intro k
  induction k with
  | zero=>intro i s h1 h2;omega
  | succ k ih =>
   intro i s h1 h2 hI
   rcases h i s h1 hI with ⟨hi,s',e,hI'⟩ | ⟨o,e,hn,hq⟩
   ·obtain ⟨o,e',hq⟩:=ih (i+1) s' (by omega) (by omega) hI'
    exact ⟨o,by rw[ay,e];exact e',hq⟩
   ·refine ⟨o,?_,hq⟩
    rw[ay,e]
    cases o with
    | nxt s'=>exact absurd rfl (hn s')
    | brk s'=>rfl
    | ret r=>rfl
 exact key aW 0 s (by omega) (by omega) h0
theorem nR {R S:Type} {f:S->Option (Out R S)} (Inv:Nat->S->Prop) (N:Nat) (h: ∀i s,i<N->Inv i s-> ∃s',f s=some (.nxt s')/\Inv (i+1) s') (he: ∀s,Inv N s->f s=some (.brk s)) {s:S} (h0:Inv 0 s) (hN:N<aW): ∃s',ay f aW s=some (.brk s')/\Inv N s':=by
 obtain ⟨o,e,s',rfl,h⟩:=cK (f:=f) Inv (fun o=> ∃s',o= .brk s'/\Inv N s') N (fun i s hi hI=>by
  by_cases h1:i<N
  ·exact .inl ⟨h1,h i s h1 hI⟩
  ·obtain rfl:i=N:=by omega
   exact .inr ⟨_,he s hI,(fun s' e=>by cases e),s,rfl,hI⟩) h0 hN
 exact ⟨s',e,h⟩
theorem br {R S:Type} {f:S->Option (Out R S)} (st:Nat->S) (N:Nat) (h: ∀i,i<N->f (st i)=some (.nxt (st (i+1)))) (he:f (st N)=some (.brk (st N))) (hN:N<aW):ay f aW (st 0)=some (.brk (st N)):=FK st N h he hN
theorem uP {k:Nat} (h:k<=9223372036854775807):k<aW:=dA k h
theorem nS {i:Nat} (h:i<=9223372036854775807):i64.wrap ((i:Int) - 1)=(i:Int) - 1:=fe (by omega) (by omega)
theorem aI {α:Type} {b:Nat} {xs ys:List α} (h:(xs.length+ys.length)*b<=140737488355328):cd b xs ys=some (xs++ys):=by unfold cd;rw[if_pos h]
theorem cg {R S T:Type} {x:Option (Out R S)} {r:R} {kr:R->Option T} {k:S->Option T} (h:x=some (.ret r)):aP x kr k=kr r:=by rw[h];rfl
theorem aG {R S T:Type} {x:Option (Out R S)} {s:S} {kr:R->Option T} {k:S->Option T} (h:x=some (.brk s)):aP x kr k=k s:=by rw[h];rfl
def nth {α:Type} [Inhabited α] (xs:List α) (i:Int):α:=xs.getD i.toNat default
section
variable {α:Type} [Inhabited α] {xs ys:List α}
theorem aK {i:Int} (h0:0<=i) (h1:i<xs.length):aT xs i=some (nth xs i):=by
 unfold aT nth
 rw[if_pos h0]
 have:i.toNat<xs.length:=by omega
 simp[List.getD_eq_getElem?_getD,this]
theorem bN {i:Nat} (h:i<xs.length):nth xs (i:Int)=xs[i]:=by simp[nth,List.getD_eq_getElem?_getD,h]
theorem iy {i:Int} (h0:0<=i) (h1:i<xs.length):nth xs i∈xs:=by
 have:i.toNat<xs.length:=by omega
 have e:nth xs i=xs[i.toNat]:=by simp[nth,List.getD_eq_getElem?_getD,this]
 rw[e];exact List.getElem_mem this
theorem iz {i:Int} (h0:0<=i) (h1:i<xs.length):nth (xs++ys) i=nth xs i:=by
 have:i.toNat<xs.length:=by omega
 simp[nth,List.getD_eq_getElem?_getD,List.getElem?_append_left this]
theorem DH {x:α} (h:x∈xs): ∃i:Nat,i<xs.length/\nth xs (i:Int)=x:=by
 obtain ⟨i,hi,rfl⟩:=List.getElem_of_mem h
 exact ⟨i,hi,bN hi⟩
theorem FO {i:Int} {x:α} (h0:0<=i) (h1:i<xs.length):nth (xs.set i.toNat x) i=x:=by
 have:i.toNat<xs.length:=by omega
 simp[nth,List.getD_eq_getElem?_getD,this]
theorem UU (h:xs.length=ys.length) (k: ∀i:Nat,i<xs.length->nth xs (i:Int)=nth ys (i:Int)):xs=ys:=by
 refine List.ext_getElem h fun i h1 h2=>?_
 have:=k i h1
 rwa [bN h1,bN h2] at this
end
section
variable {κ:Type} [DecidableEq κ]
def nbL (l:List κ):Option κ->List κ
 | none=>l
 | some x=>if x∈l then l else l++ [x]
def nbI (l:List κ):Option κ->Int
 | none=> -1
 | some x=>(l.idxOf x:Int)
def nbS (l:List κ) (os:List (Option κ)):List κ:=os.foldl nbL l
def nbR (l:List κ):List (Option κ)->List Int
 | [] =>[]
 | o::os=>nbI l o::nbR (nbL l o) os
theorem vM (l:List κ) (os:List (Option κ)) (o:Option κ):nbS l (os++ [o])=nbL (nbS l os) o:=by simp[nbS]
theorem sS: ∀(l:List κ) (os:List (Option κ)) (o:Option κ),nbR l (os++ [o])=nbR l os++ [nbI (nbS l os) o]
 | l,[],o=>rfl
 | l,p::os,o=>by
  show nbI l p::nbR (nbL l p) (os++ [o])=nbI l p::nbR (nbL l p) os++ [nbI (nbS (nbL l p) os) o]
  rw[sS (nbL l p) os o];rfl
theorem eP: ∀(l:List κ) (os:List (Option κ)),(nbR l os).length=os.length
 | l,[] =>rfl
 | l,o::os=>by show (nbR (nbL l o) os).length+1=_;rw[eP];rfl
theorem KL (l : List κ) (o : Option κ) : l <+: nbL l o := by
  cases o with
  | none => exact List.prefix_refl l
  | some x => unfold nbL; simp only; split
              · exact List.prefix_refl l
              · exact List.prefix_append l [x]
theorem k9: ∀(l:List κ) (os:List (Option κ)),l <+:nbS l os
 | l,[] =>List.prefix_refl l
 | l,o::os=>(KL l o).trans (k9 (nbL l o) os)
theorem NV {l : List κ} {o : Option κ} (h : l.Nodup) : (nbL l o).Nodup := by
  cases o with
  | none => exact h
  | some x => unfold nbL; simp only; split
              · exact h
              · rename_i hx; exact List.nodup_append.2 ⟨h, by simp, by rintro a ha b hb rfl; simp at hb; exact hx (hb ▸ ha)⟩
theorem sg: ∀ {l:List κ} {os:List (Option κ)},l.Nodup->(nbS l os).Nodup
 | l,[],h=>h
 | l,o::os,h=>sg (l:=nbL l o) (os:=os) (NV h)
theorem NW {l : List κ} {o : Option κ} {x : κ} : x ∈ nbL l o ↔ x ∈ l \/ o = some x := by
  cases o with
  | none => simp [nbL]
  | some y => unfold nbL; simp only; split
              · rename_i h; constructor
                · exact .inl
                · rintro (h' | h')
                  · exact h'
                  · simp at h'; exact h' ▸ h
              · simp; exact or_congr Iff.rfl eq_comm
theorem w5: ∀ {l:List κ} {os:List (Option κ)} {x:κ},x∈nbS l os↔x∈l\/some x∈os
 | l,[],x=>by simp[nbS]
 | l,o::os,x=>by
  show x∈nbS (nbL l o) os↔_
  rw[w5,NW,List.mem_cons,or_assoc]
  exact or_congr Iff.rfl (or_congr eq_comm Iff.rfl)
theorem mo {l:List κ} {x:κ} (h:x∈l):nbL l (some x)=l:=by simp[nbL,h]
theorem ld {l:List κ} {x:κ} (h:x∉l):nbL l (some x)=l++ [x]:=by simp[nbL,h]
theorem pE {l:List κ} {x:κ} (h:x∉l):l.idxOf x=l.length:=List.idxOf_eq_length h
def bfS (nx:κ->List (Option κ)) (first:κ):Nat->List κ
 | 0=>[first]
 | i+1=>match (bfS nx first i)[i]? with
  | some x=>nbS (bfS nx first i) (nx x)
  | none=>bfS nx first i
def bfR (nx:κ->List (Option κ)) (first:κ):Nat->List (List Int)
 | 0=>[]
 | i+1=>bfR nx first i++(match (bfS nx first i)[i]? with
  | some x=>[nbR (bfS nx first i) (nx x)]
  | none=>[])
variable {nx:κ->List (Option κ)} {first:κ}
theorem DI {i:Nat} (h:i<(bfS nx first i).length):bfS nx first (i+1)=nbS (bfS nx first i) (nx ((bfS nx first i)[i])):=by
 rw[bfS,List.getElem?_eq_getElem h]
theorem vN {i:Nat} (h:i<(bfS nx first i).length):bfR nx first (i+1)=bfR nx first i++ [nbR (bfS nx first i) (nx ((bfS nx first i)[i]))]:=by
 rw[bfR,List.getElem?_eq_getElem h]
theorem bQ (i:Nat):bfS nx first i <+:bfS nx first (i+1):=by
 rw[bfS]
 split
 ·exact k9 _ _
 ·exact List.prefix_refl _
theorem w6 {i j:Nat} (h:i<=j):bfS nx first i <+:bfS nx first j:=by
 induction h with
 | refl=>exact List.prefix_refl _
 | step _ ih=>exact ih.trans (bQ _)
theorem nT: ∀i,(bfS nx first i).Nodup
 | 0=>by simp[bfS]
 | i+1=>by
  rw[bfS]
  split
  ·exact sg (nT i)
  ·exact nT i
theorem kF {G:κ->Prop} (h0:G first) (h: ∀x,G x-> ∀y,some y∈nx x->G y): ∀i,∀x∈bfS nx first i,G x
 | 0=>by simp[bfS];exact h0
 | i+1=>by
  rw[bfS]
  split
  ·rename_i y hy
   intro x hx
   rcases w5.1 hx with hx | hx
   ·exact kF h0 h i x hx
   ·exact h y (kF h0 h i y (List.mem_of_getElem? hy)) x hx
  ·exact kF h0 h i
theorem FP (i:Nat):(bfS nx first i)[0]? =some first:=by
 obtain ⟨t,ht⟩:=w6 (nx:=nx) (first:=first) (Nat.zero_le i)
 rw[<-ht];rfl
theorem jQ: ∀ {i:Nat},(∀j,j<i->j<(bfS nx first j).length)->(bfR nx first i).length=i
 | 0,_=>rfl
 | i+1,h=>by rw[vN (h i (by omega)),aw,jQ fun j hj=>h j (by omega)];rfl
def bfE (nx:κ->List (Option κ)) (first:κ) (N:Nat):Prop:=N=(bfS nx first N).length/\ ∀i,i<N->i<(bfS nx first i).length
theorem Sj {B:Nat} (hB: ∀i,(bfS nx first i).length<=B): ∃N,N<=B/\bfE nx first N:=by
 have key: ∀m i,i+m=B->(∀j,j<i->j<(bfS nx first j).length)-> ∃N,N<=B/\bfE nx first N:=by
  intro m
  induction m with
  | zero =>
   intro i hi hj
   have h1:=hB i
   have h2:i<=(bfS nx first i).length:=by
    cases i with
    | zero=>omega
    | succ i =>
     have:=hj i (by omega)
     have hp:=(bQ (nx:=nx) (first:=first) i).length_le
     omega
   exact ⟨i,by omega,by omega,hj⟩
  | succ m ih =>
   intro i hi hj
   by_cases h:i<(bfS nx first i).length
   ·exact ih (i+1) (by omega) fun j hj'=>by
     by_cases e:j=i
     ·subst e;exact h
     ·exact hj j (by omega)
   ·have h2:i<=(bfS nx first i).length:=by
     cases i with
     | zero=>omega
     | succ i =>
      have:=hj i (by omega)
      have hp:=(bQ (nx:=nx) (first:=first) i).length_le
      omega
    exact ⟨i,by omega,by omega,hj⟩
 exact key B 0 (by omega) (by omega)
theorem QW {N M:Nat} (h:bfE nx first N) (k:bfE nx first M):N=M:=by
 rcases Nat.lt_trichotomy N M with e | e | e
 ·have:=k.2 N e;have:=h.1;omega
 ·exact e
 ·have:=h.2 M e;have:=k.1;omega
end
end D
namespace D
open Go.RowKit
section
variable {α:Type} [Inhabited α]
end
end D
set_option synthInstance.maxSize 20000
set_option synthInstance.maxHeartbeats 2000000
namespace D
open Go.RowKit
end D
namespace D
abbrev Pr:=Int×Int
def ltP (a b:Pr):Prop:=a.1<b.1\/a.1=b.1/\a.2<b.2
instance (a b:Pr):Decidable (ltP a b):=inferInstanceAs (Decidable (_\/_))
end D
namespace D
open Go.RowKit
theorem NX {α R:Type} {f:Int->Option (Out R Int)} (l:List α) (b:α->Bool) (r:Nat->R) (hN:l.length<=9223372036854775807) (h: ∀i (hi:i<l.length),f (i:Int)=some (if b l[i] then .ret (r i) else .nxt ((i+1:Nat):Int))) (he:f (l.length:Int)=some (.brk (l.length:Int))) :
  (∃(i:Nat) (hi:i<l.length),b l[i] =true/\(∀j (hj:j<i),b (l[j]'(by omega))=false)/\ay f aW 0=some (.ret (r i)))\/((∀x,x∈l->b x=false)/\ay f aW 0=some (.brk (l.length:Int))):=by
 obtain ⟨o,e,hQ⟩:=cK (f:=f) (fun i s=>s=(i:Int)/\ ∀j (hj:j<l.length),j<i->b l[j] =false) (fun o=>(∃(i:Nat) (hi:i<l.length),b l[i] =true/\(∀j (hj:j<i),b (l[j]'(by omega))=false)/\o= .ret (r i))\/((∀x,x∈l->b x=false)/\o= .brk (l.length:Int))) l.length (fun i s hi hI=>by
  obtain ⟨rfl,hI⟩:=hI
  by_cases h1:i<l.length
  ·cases hb:b l[i] with
   | true=>exact .inr ⟨_,by rw[h i h1,hb,if_pos rfl],fun s' hh=>by simp at hh,.inl ⟨i,h1,hb,fun j hj=>hI j (by omega) hj,by simp⟩⟩
   | false=>exact .inl ⟨h1,_,by rw[h i h1,hb,if_neg (by simp)],rfl,fun j hj hji=>by
     by_cases c:j=i
     ·subst c;exact hb
     ·exact hI j hj (by omega)⟩
  ·obtain rfl:i=l.length:=by omega
   exact .inr ⟨_,he,fun s' hh=>by simp at hh,.inr ⟨fun x hx=>by
    obtain ⟨j,hj,rfl⟩:=List.getElem_of_mem hx
    exact hI j hj hj,rfl⟩⟩) (s:=0) ⟨rfl,fun j hj h0=>by omega⟩ (dA _ hN)
 rcases hQ with ⟨i,hi,h1,h2,rfl⟩ | ⟨h1,rfl⟩
 ·exact .inl ⟨i,hi,h1,h2,e⟩
 ·exact .inr ⟨h1,e⟩
section
variable {l m:List Pr} {p:Pr}
end
end D
namespace D
open Go.RowKit
end D
set_option synthInstance.maxSize 20000
set_option synthInstance.maxHeartbeats 2000000
namespace D
open Go.RowKit
end D
set_option synthInstance.maxSize 20000
set_option synthInstance.maxHeartbeats 2000000
namespace D
open Go.RowKit
def mkB (l:List UInt8):ByteArray:=⟨l.toArray⟩
theorem UV (a b:List UInt8):mkB a++mkB b=mkB (a++b):=ByteArray.ext (by simp[mkB])
theorem bB (a:List UInt8):(mkB a).size=a.length:=by simp[mkB,ByteArray.size]
theorem e7 (a:List UInt8):(mkB a).data.toList=a:=by simp[mkB]
theorem Cu (a b:List UInt8) (h:a.length+b.length<=9223372036854775807):lh (mkB a) (mkB b)=some (mkB (a++b)):=by
 unfold lh chk
 rw[bB,bB,if_pos h,aa,UV]
theorem Zi: ∀d:Fin 10,IntKind.u8.wrap (i64.wrap (48+(d.val:Int)))=48+(d.val:Int):=by decide
theorem Zj {d:Nat} (h:d<10):xj [IntKind.u8.wrap (i64.wrap (48+(d:Int)))] =mkB [UInt8.ofNat (48+d)]:=by
 rw[Zi ⟨d,h⟩]
 show ByteArray.empty.push (UInt8.ofNat (48+(d:Int)).toNat)=_
 rw[show (48+(d:Int)).toNat=48+d by omega];rfl
theorem Zk (m:Int):(if decide ((Int.tmod m 10)<0) then (some (i64.wrap (-(Int.tmod m 10)))) else (some (Int.tmod m 10)):Option Int)=some ((m.natAbs % 10:Nat):Int):=by
 by_cases h:m<0
 ·obtain ⟨k,rfl⟩: ∃k:Nat,m= -(k:Int):=⟨m.natAbs,by omega⟩
  have e:Int.tmod (-(k:Int)) 10= -((k % 10:Nat):Int):=by rw[Int.neg_tmod];rfl
  rw[e,Int.natAbs_neg,Int.natAbs_natCast]
  by_cases h0:k % 10=0
  ·rw[h0];rfl
  ·rw[if_pos (decide_eq_true (by omega)),Int.neg_neg,fe (by omega) (by omega)]
 ·obtain ⟨k,rfl⟩: ∃k:Nat,m=(k:Int):=⟨m.natAbs,by omega⟩
  have e:Int.tmod (k:Int) 10=((k % 10:Nat):Int):=rfl
  rw[e,if_neg (by simp;omega),Int.natAbs_natCast]
theorem Y5 {m:Int} (h:I64 m):O0 m 10=m.tdiv 10/\(m.tdiv 10).natAbs=m.natAbs / 10:=by
 have k:(m.tdiv 10).natAbs=m.natAbs / 10:=Int.natAbs_tdiv m 10
 unfold I64 at h
 refine ⟨?_,k⟩
 unfold O0
 exact fe (by omega) (by omega)
theorem UW {m:Int} {out:List UInt8} (h0:m≠0) (h:I64 m) (hl:out.length<=1000):dD (m,mkB out)=some (.nxt (m.tdiv 10,mkB (UInt8.ofNat (48+m.natAbs % 10)::out))):=by
 unfold dD
 simp only[]
 rw[if_pos (by simpa using h0),Zk,aa,Zj (Nat.mod_lt _ (by omega)),Cu _ _ (by simp;omega),aa,(Y5 h).1];rfl
theorem Sk (u:Nat):1<=Lib.nDigits u:=by
 by_cases h:u<10
 ·rw[Lib.nDigits_small h];omega
 ·rw[Lib.nDigits_big h];omega
theorem NY: ∀(k:Nat) (m:Int) (out:List UInt8),m≠0->I64 m->Lib.nDigits m.natAbs<=k->out.length+Lib.nDigits m.natAbs<=100->ay dD (k+1) (m,mkB out)=some (.brk (0,mkB (Lib.decDigits m.natAbs++out)))
 | 0,m,out,_,_,h,_=>by have:=Sk m.natAbs;omega
 | k+1,m,out,h0,hm,h,hl=>by
  rw[ay,UW h0 hm (by omega)]
  show ay dD (k+1) (m.tdiv 10,_)=_
  have hq:=(Y5 hm).2
  by_cases h1:m.natAbs<10
  ·have hz:m.tdiv 10=0:=by
    have:(m.tdiv 10).natAbs=0:=by rw[hq];omega
    omega
   rw[hz,ay]
   have:dD (0,mkB (UInt8.ofNat (48+m.natAbs % 10)::out))=some (.brk (0,mkB (UInt8.ofNat (48+m.natAbs % 10)::out))):=rfl
   rw[this,Lib.decDigits_one h1,Nat.mod_eq_of_lt h1];rfl
  ·have hz:m.tdiv 10≠0:=by
    intro e
    rw[e] at hq
    have:m.natAbs / 10=0:=by simpa using hq.symm
    omega
   have hn:=Lib.nDigits_big h1
   have hi:I64 (m.tdiv 10):=by unfold I64 at hm⊢;omega
   rw[NY k _ _ hz hi (by rw[hq];omega) (by rw[hq,al];omega),hq]
   have:Lib.decDigits m.natAbs=Lib.decDigits (m.natAbs / 10)++ [UInt8.ofNat (48+m.natAbs % 10)]:=by rw[Lib.decDigits,dif_neg h1]
   rw[this,ai];rfl
theorem qQ {n:Int} (h:I64 n):(Lib.itoa n).length<=21:=Lib.itoa_length_le n h.1 h.2
theorem Yg {n:Int} (h:I64 n):Lib.nDigits n.natAbs<=21:=by
 have:=qQ h
 unfold Lib.itoa at this
 split at this
 ·rw[al,Lib.decDigits_length] at this;omega
 ·rw[Lib.decDigits_length] at this
  rw[show n.natAbs=n.toNat by omega];exact this
theorem sU {n:Int} (h:I64 n):b9 n=some (mkB (Lib.itoa n)):=by
 unfold b9
 by_cases h0:n=0
 ·subst h0
  rw[if_pos (by rfl:((0:Int)==0)=true)]
  have:Lib.itoa 0= [48]:=by unfold Lib.itoa;rw[if_neg (by decide)];exact Lib.decDigits_one (by decide)
  rw[this];rfl
 rw[if_neg (by simpa using h0)]
 have hn:=Yg h
 have hf:=dA 100 (by omega)
 obtain ⟨k,hk⟩: ∃k,aW=k+1:=⟨aW - 1,by omega⟩
 have hL:ay dD aW (n,(⟨#[]⟩:ByteArray))=some (.brk (0,mkB (Lib.decDigits n.natAbs++ []))):=by
  rw[hk];exact NY k n [] h0 h (by omega) (by simp;omega)
 rw[aG hL,List.append_nil]
 have hd:(Lib.decDigits n.natAbs).length<=21:=by rw[Lib.decDigits_length];exact hn
 unfold Lib.itoa
 by_cases h1:n<0
 ·rw[if_pos (decide_eq_true h1),if_pos h1]
  show (lh (mkB [45]) _).bind _=_
  rw[Cu _ _ (by simp;omega)];rfl
 ·rw[if_neg (by simpa using h1),if_neg h1,show n.natAbs=n.toNat by omega]
theorem vO {n:Int} (h:I64 n):df n=some (mkB (Lib.itoa n)):=by
 unfold df l9 R.QL chk
 rw[if_pos (show -9223372036854775808<=n/\n<=9223372036854775807 from h)];rfl
theorem NZ (xs:List (List UInt8)) (y sep:List UInt8):Lib.join (xs++ [y]) sep=if xs= [] then y else Lib.join xs sep++sep++y:=by
 cases xs with
 | nil=>rw[if_pos rfl];exact Lib.join_one _ _
 | cons x r =>
  rw[if_neg (by simp),List.cons_append,Lib.join_cons,Lib.join_cons]
  simp[Lib.joinTail,ai]
end D
namespace D
open Go.RowKit
theorem AS: ∀(a:List UInt8) (acc:Nat) (b:List UInt8),Lib.decFrom acc (a++b)=(Lib.decFrom acc a).bind fun m=>Lib.decFrom m b
 | [],acc,b=>rfl
 | x::a,acc,b=>by
  rw[List.cons_append,Lib.decFrom,Lib.decFrom]
  cases Lib.digitVal x with
  | none=>rfl
  | some d=>exact AS a _ b
theorem N1 {d:Nat} (h:d<10):Lib.digitVal (UInt8.ofNat (48+d))=some d:=by
 have e:(UInt8.ofNat (48+d)).toNat=48+d:=by simp;omega
 unfold Lib.digitVal
 rw[e,if_pos ⟨by omega,by omega⟩]
 congr 1;omega
theorem yI {u:Nat} (h: ¬u<10):Lib.decDigits u=Lib.decDigits (u / 10)++ [UInt8.ofNat (48+u % 10)]:=by rw[Lib.decDigits,dif_neg h]
theorem HG (u:Nat):Lib.decFrom 0 (Lib.decDigits u)=some u:=by
 induction u using Nat.strongRecOn with
 | _ u ih =>
  by_cases h:u<10
  ·rw[Lib.decDigits_one h,Lib.decFrom,N1 h]
   simp[Lib.decFrom]
  ·rw[yI h,AS,ih (u / 10) (by omega),aa,Lib.decFrom,N1 (Nat.mod_lt _ (by omega))]
   simp only[Lib.decFrom]
   congr 1;omega
theorem WC (u:Nat):Lib.decDigits u≠ []:=fun h=>by
 have:=Lib.decDigits_length u
 rw[h] at this
 have:=Sk u
 simp at *;omega
theorem Cv (u:Nat):Lib.decNat (Lib.decDigits u)=some u:=by
 unfold Lib.decNat
 rw[if_neg (by simpa using WC u),HG]
theorem Jj (u:Nat): ∃d r,d<10/\Lib.decDigits u=UInt8.ofNat (48+d)::r:=by
 induction u using Nat.strongRecOn with
 | _ u ih =>
  by_cases h:u<10
  ·exact ⟨u,[],h,Lib.decDigits_one h⟩
  ·obtain ⟨d,r,hd,e⟩:=ih (u / 10) (by omega)
   exact ⟨d,_,hd,by rw[yI h,e];rfl⟩
theorem HH {d:Nat} (h:d<10):(UInt8.ofNat (48+d)==45)=false/\(UInt8.ofNat (48+d)==43)=false:=by
 have: ∀d:Fin 10,(UInt8.ofNat (48+d.val)==45)=false/\(UInt8.ofNat (48+d.val)==43)=false:=by decide
 exact this ⟨d,h⟩
theorem N2 (n:Int):Lib.atoi (Lib.itoa n)=some n:=by
 unfold Lib.itoa
 by_cases h:n<0
 ·rw[if_pos h]
  show (Lib.decNat (Lib.decDigits n.natAbs)).map (fun (m:Nat)=> -(m:Int))=_
  rw[Cv]
  simp;omega
 ·rw[if_neg h]
  obtain ⟨d,r,hd,e⟩:=Jj n.toNat
  have k:=Cv n.toNat
  rw[e] at k⊢
  show (if (UInt8.ofNat (48+d)==45)=true then _ else if (UInt8.ofNat (48+d)==43)=true then _ else _)=_
  rw[if_neg (by rw[(HH hd).1];decide),if_neg (by rw[(HH hd).2];decide),k]
  simp;omega
def dst (p:Nat×Nat) (b:UInt8):Nat×Nat:=if 48<=b.toNat/\b.toNat<=57 then (p.1*10+(b.toNat - 48),p.2+1) else p
theorem N3 {d:Nat} (h:d<10) (p:Nat×Nat):dst p (UInt8.ofNat (48+d))=(p.1*10+d,p.2+1):=by
 have e:(UInt8.ofNat (48+d)).toNat=48+d:=by simp;omega
 unfold dst
 rw[e,if_pos ⟨by omega,by omega⟩,show 48+d - 48=d by omega]
theorem N4 (u:Nat):(Lib.decDigits u).foldl dst (0,0)=(u,Lib.nDigits u):=by
 induction u using Nat.strongRecOn with
 | _ u ih =>
  by_cases h:u<10
  ·rw[Lib.decDigits_one h,List.foldl_cons,List.foldl_nil,N3 h,Lib.nDigits_small h];simp
  ·rw[yI h,List.foldl_append,ih (u / 10) (by omega),List.foldl_cons,List.foldl_nil,N3 (Nat.mod_lt _ (by omega)),Lib.nDigits_big h]
   congr 1
   show u / 10*10+u % 10=u
   omega
theorem QX (n:Int):(Lib.itoa n).foldl dst (0,0)=(n.natAbs,Lib.nDigits n.natAbs):=by
 unfold Lib.itoa
 split
 ·rw[List.foldl_cons,show dst (0,0) 45=(0,0) from rfl,N4]
 ·rw[N4,show n.toNat=n.natAbs by omega]
theorem Sl: ∀(l:List UInt8) (p:Nat×Nat),p.1<10 ^ p.2->(l.foldl dst p).1<10 ^ (l.foldl dst p).2
 | [],p,h=>h
 | b::l,p,h=>by
  rw[List.foldl_cons]
  refine Sl l _ ?_
  unfold dst
  split
  ·rename_i k
   show p.1*10+(b.toNat - 48)<10 ^ (p.2+1)
   rw[Nat.pow_succ];omega
  ·exact h
theorem Sn: ∀(l:List UInt8) (p:Nat×Nat),(l.foldl dst p).2<=p.2+l.length
 | [],p=>by simp
 | b::l,p=>by
  rw[List.foldl_cons]
  have:=Sn l (dst p b)
  have h:(dst p b).2<=p.2+1:=by unfold dst;split <;> simp
  rw[al];omega
end D
namespace D
open Go.RowKit
theorem WD: ∀(k u:Nat),1<=k->u<10 ^ k->Lib.nDigits u<=k
 | 0,u,h,_=>by omega
 | k+1,u,_,h=>by
  by_cases h1:u<10
  ·rw[Lib.nDigits_small h1];omega
  ·rw[Lib.nDigits_big h1]
   rw[Nat.pow_succ] at h
   have hk:1<=k:=by
    rcases k with _ | k
    ·simp at h;omega
    ·omega
   have:=WD k (u / 10) hk (by omega)
   omega
theorem u8W: ∀d:Fin 10,i64.wrap (IntKind.u8.wrap (d.val:Int))=(d.val:Int):=by decide
theorem yJ {s:ByteArray} {i:Nat} (h:i<s.size):jB s (i:Int)=some (((s.data.toList[i]'(by simpa using h)).toNat:Nat):Int):=by
 unfold jB chk
 rw[if_pos ⟨by omega,by omega⟩]
 simp only[aa]
 rw[show (i:Int).toNat=i by omega,List.getD_eq_getElem?_getD,List.getElem?_eq_getElem (by simpa using h)]
 rfl
def dtk (s:ByteArray) (i:Nat):Nat×Nat:=(s.data.toList.take i).foldl dst (0,0)
theorem N5 (s:ByteArray) (i:Nat):(dtk s i).1<10 ^ (dtk s i).2/\(dtk s i).2<=i:=by
 refine ⟨Sl _ _ (by decide),?_⟩
 have:=Sn (s.data.toList.take i) (0,0)
 rw[aA] at this
 unfold dtk
 omega
theorem UX (s:ByteArray):ay (ir s) aW (0,0,0)=some (.brk (((dtk s (min s.size 11)).1:Int),((dtk s (min s.size 11)).2:Int),((min s.size 11:Nat):Int))):=by
 refine br (f:=ir s) (fun i=>(((dtk s i).1:Int),((dtk s i).2:Int),(i:Int))) (min s.size 11) (fun i hi=>?_) ?_ (dA _ (by omega))
 ·have h1:i<s.size:=by omega
  have hl:i<s.data.toList.length:=by simpa using h1
  have hd:dtk s (i+1)=dst (dtk s i) (s.data.toList[i]):=by
   unfold dtk
   rw[List.take_succ_eq_append_getElem hl,List.foldl_append];rfl
  obtain ⟨b1,b2⟩:=N5 s i
  have b3:10 ^ (dtk s i).2<=10 ^ 10:=Nat.pow_le_pow_right (by omega) (by omega)
  unfold ir
  simp only[]
  rw[if_pos (decide_eq_true (by omega)),if_pos (decide_eq_true (by omega)),yJ h1,hd]
  generalize s.data.toList[i] =b
  generalize dtk s i=p at *
  simp only[aa]
  unfold dst
  by_cases c1:48<=b.toNat
  ·rw[if_pos (decide_eq_true (by omega))]
   by_cases c2:b.toNat<=57
   ·rw[if_pos (decide_eq_true (by omega)),if_pos ⟨c1,c2⟩]
    obtain ⟨d,hd,e⟩: ∃d,d<10/\b.toNat=48+d:=⟨b.toNat - 48,by omega,by omega⟩
    rw[e,show ((48+d:Nat):Int) - 48=(d:Int) by omega,u8W ⟨d,hd⟩]
    simp only[aa]
    rw[fe (n:=(p.1:Int)*10) (by omega) (by omega),fe (by show _<=_+(d:Int);omega) (by show _+(d:Int)<=_;omega),ah (by omega),ah (by omega)]
    congr 4
    show (p.1:Int)*10+(d:Int)=((p.1*10+(48+d - 48):Nat):Int)
    omega
   ·rw[if_neg (by simp;omega),if_neg (by omega)]
    simp only[aa]
    rw[ah (by omega)]
  ·rw[if_neg (by simp;omega),if_neg (by omega)]
   simp only[aa]
   rw[ah (by omega)]
 ·unfold ir
  simp only[]
  by_cases h:s.size<=11
  ·rw[Nat.min_eq_left h,if_neg (by simp)]
  ·rw[Nat.min_eq_right (by omega),if_pos (decide_eq_true (by omega)),if_neg (by simp)]
def sgn (s:ByteArray):Int:=if s.data.toList.head? =some 45 then -((dtk s (min s.size 11)).1:Int) else ((dtk s (min s.size 11)).1:Int)
theorem So (s:ByteArray):(sgn s).natAbs<10 ^ (dtk s (min s.size 11)).2/\(sgn s).natAbs<10 ^ 11:=by
 obtain ⟨b1,b2⟩:=N5 s (min s.size 11)
 have b3:10 ^ (dtk s (min s.size 11)).2<=10 ^ 11:=Nat.pow_le_pow_right (by omega) (by omega)
 have:(sgn s).natAbs=(dtk s (min s.size 11)).1:=by unfold sgn;split <;> omega
 omega
theorem Sp (s:ByteArray):fT s=if 9<(dtk s (min s.size 11)).2\/10<s.size then some (0,false) else if mkB (Lib.itoa (sgn s))=s then some (sgn s,true) else some (0,false):=by
 have hs:=(So s).2
 have hi:I64 (sgn s):=by unfold I64;omega
 obtain ⟨b1,b2⟩:=N5 s (min s.size 11)
 have b3:10 ^ (dtk s (min s.size 11)).2<=10 ^ 11:=Nat.pow_le_pow_right (by omega) (by omega)
 have fin: ∀z:Int,z=sgn s->(if decide (((dtk s (min s.size 11)).2:Int)>9) then (some (0,false)) else (if decide (((s.size:Nat):Int)>10) then (some (0,false)) else ((b9 z).bind fun r10=>if r10 !=s then (some (0,false)) else (some (z,true)))):Option (Int×Bool))=if 9<(dtk s (min s.size 11)).2\/10<s.size then some (0,false) else if mkB (Lib.itoa (sgn s))=s then some (sgn s,true) else some (0,false):=by
  rintro z rfl
  by_cases c1:9<(dtk s (min s.size 11)).2
  ·rw[if_pos (decide_eq_true (by omega)),if_pos (Or.inl c1)]
  ·rw[if_neg (by simp;omega)]
   by_cases c2:10<s.size
   ·rw[if_pos (decide_eq_true (by omega)),if_pos (Or.inr c2)]
   ·rw[if_neg (by simp;omega),if_neg (by omega),sU hi,aa]
    by_cases c3:mkB (Lib.itoa (sgn s))=s
    ·rw[if_pos c3,if_neg (by simp[c3])]
    ·rw[if_neg c3,if_pos (by simpa using c3)]
 unfold fT
 rw[aG (UX s)]
 simp only[]
 by_cases h0:0<s.size
 ·rw[if_pos (decide_eq_true (by omega))]
  have hl:0<s.data.toList.length:=by simpa using h0
  have e0:jB s 0=some (((s.data.toList[0]).toNat:Nat):Int):=yJ (i:=0) h0
  have eh:s.data.toList.head? =some s.data.toList[0]:=by rw[List.head?_eq_getElem?,List.getElem?_eq_getElem hl]
  rw[e0,aa]
  by_cases c:s.data.toList[0] =45
  ·rw[if_pos (by rw[c];rfl),aa,fe (by omega) (by omega)]
   exact fin _ (by unfold sgn;rw[eh,if_pos (by rw[c])])
  ·have hn:(s.data.toList[0]).toNat≠45:=fun e=>c (UInt8.toNat_inj.1 e)
   rw[if_neg (fun e=>hn (by have:=eq_of_beq e;omega)),aa]
   exact fin _ (by unfold sgn;rw[eh,if_neg (by simpa using c)])
 ·rw[if_neg (by rw[decide_eq_true_eq];omega)]
  have he:s.data.toList.head? =none:=by
   have:s.data.toList= []:=List.eq_nil_of_length_eq_zero (by
    have:s.data.toList.length=s.size:=by simp
    omega)
   rw[this];rfl
  exact fin _ (by unfold sgn;rw[he,if_neg (by simp)])
theorem QY {n:Int} (h: -999999999<=n/\n<=999999999):Lib.nDigits n.natAbs<=9/\(Lib.itoa n).length<=10:=by
 have k:Lib.nDigits n.natAbs<=9:=WD 9 _ (by omega) (by omega)
 refine ⟨k,?_⟩
 unfold Lib.itoa
 split
 ·rw[al,Lib.decDigits_length];omega
 ·rw[Lib.decDigits_length,show n.toNat=n.natAbs by omega];omega
theorem N6 (n:Int):((Lib.itoa n).head? =some 45)↔n<0:=by
 unfold Lib.itoa
 split
 ·rename_i h;simp[h]
 ·rename_i h
  obtain ⟨d,r,hd,e⟩:=Jj n.toNat
  rw[e]
  have:=(HH hd).1
  simp only[List.head?_cons,Option.some.injEq]
  constructor
  ·intro k;rw[k] at this;simp at this
  ·intro k;omega
theorem DJ {n:Int} (h: -999999999<=n/\n<=999999999):fT (mkB (Lib.itoa n))=some (n,true)/\fR (mkB (Lib.itoa n))=some (n,true):=by
 obtain ⟨h9,h10⟩:=QY h
 constructor
 ·have ed:dtk (mkB (Lib.itoa n)) (min (mkB (Lib.itoa n)).size 11)=(n.natAbs,Lib.nDigits n.natAbs):=by
   unfold dtk
   rw[e7,bB,Nat.min_eq_left (by omega),List.take_length,QX]
  have es:sgn (mkB (Lib.itoa n))=n:=by
   unfold sgn
   rw[ed,e7]
   by_cases c:n<0
   ·rw[if_pos ((N6 n).2 c)];show -(n.natAbs:Int)=n;omega
   ·rw[if_neg fun k=>c ((N6 n).1 k)];show (n.natAbs:Int)=n;omega
  rw[Sp,ed,es,bB,if_neg (by show¬(9<Lib.nDigits n.natAbs\/_);omega),if_pos rfl]
 ·unfold fR R.rr
  rw[bB,e7,if_neg (by omega),N2]
  show (if _ then _ else _)=_
  rw[if_pos ⟨rfl,h.1,h.2⟩]
theorem Jk {s:ByteArray} (h: ¬ ∃n:Int,(-999999999<=n/\n<=999999999)/\s=mkB (Lib.itoa n)):fT s=some (0,false)/\fR s=some (0,false):=by
 constructor
 ·rw[Sp]
  by_cases c:9<(dtk s (min s.size 11)).2\/10<s.size
  ·rw[if_pos c]
  ·rw[if_neg c,if_neg]
   intro e
   have b1:=(So s).1
   have b3:10 ^ (dtk s (min s.size 11)).2<=10 ^ 9:=Nat.pow_le_pow_right (by omega) (by omega)
   exact h ⟨sgn s,by omega,e.symm⟩
 ·unfold fR R.rr
  by_cases c:10<s.size
  ·rw[if_pos c]
  ·rw[if_neg c]
   cases ha:Lib.atoi s.data.toList with
   | none=>rfl
   | some n =>
    show (if _ then _ else _)=_
    rw[if_neg fun k=>h ⟨n,k.2,k.1.symm⟩]
theorem qk (s:ByteArray): ∃r:Int×Bool,fT s=some r/\fR s=some r/\((r.2=true/\(-999999999<=r.1/\r.1<=999999999)/\s=mkB (Lib.itoa r.1))\/r=(0,false)):=by
 by_cases h: ∃n:Int,(-999999999<=n/\n<=999999999)/\s=mkB (Lib.itoa n)
 ·obtain ⟨n,hn,rfl⟩:=h
  exact ⟨_,(DJ hn).1,(DJ hn).2,.inl ⟨rfl,hn,rfl⟩⟩
 ·exact ⟨_,(Jk h).1,(Jk h).2,.inr rfl⟩
end D
namespace D
open Go.RowKit
abbrev AutT:=Int×(List Bool)×(List (List Int))
structure VA (a:AutT) (n:Nat):Prop where
 len:a.2.1.length=n
 start:0<=a.1/\a.1<n
 nlen:a.2.2.length=n
 row: ∀r∈a.2.2,r.length=9
 ent: ∀r∈a.2.2,∀t∈r,-1<=t/\t<n
def mv (a:AutT) (s:Int) (k:Nat):Int:=nth (nth a.2.2 s) k
theorem La (x l h:Int):cR x l h=some (decide (l<=x/\x<=h)):=by
 unfold cR
 by_cases c:l<=x
 ·simp[c]
 ·have: ¬l<=x/\True:=⟨c,trivial⟩
  simp[c]
theorem Gc (x l h:Int):bY x l h=some (decide (l<=x/\x<=h)):=by
 unfold bY
 by_cases c:l<=x
 ·simp[c]
 ·simp[c]
theorem scan {α R:Type} [Inhabited α] {f:Int->Option (Out R Int)} (xs:List α) (p:α->Prop) [DecidablePred p] (r:R) (hN:xs.length<=9223372036854775807)
  (h: ∀i:Nat,i<xs.length->f (i:Int)=some (if p (nth xs i) then .nxt ((i+1:Nat):Int) else .ret r)) (he:f (xs.length:Int)=some (.brk (xs.length:Int))) :
  (ay f aW 0=some (.brk (xs.length:Int))/\ ∀x∈xs,p x)\/(ay f aW 0=some (.ret r)/\ ¬ ∀x∈xs,p x):=by
 obtain ⟨o,e,hq⟩:=cK (f:=f) (fun i s=>s=(i:Int)/\ ∀j:Nat,j<i->p (nth xs j)) (fun o=>(o= .brk (xs.length:Int)/\ ∀x∈xs,p x)\/(o= .ret r/\ ¬ ∀x∈xs,p x)) xs.length (s:=0) (by
  rintro i s hi ⟨rfl,hp⟩
  by_cases hl:i<xs.length
  ·by_cases c:p (nth xs i)
   ·refine .inl ⟨hl,_,by rw[h i hl,if_pos c],rfl,fun j hj=>?_⟩
    by_cases e:j=i
    ·subst e;exact c
    ·exact hp j (by omega)
   ·refine .inr ⟨_,by rw[h i hl,if_neg c],(fun s' e=>by cases e),.inr ⟨rfl,fun hx=>c (hx _ (iy (by omega) (by omega)))⟩⟩
  ·obtain rfl:i=xs.length:=by omega
   refine .inr ⟨_,he,(fun s' e=>by cases e),.inl ⟨rfl,fun x hx=>?_⟩⟩
   obtain ⟨j,hj,rfl⟩:=DH hx
   exact hp j hj) ⟨rfl,by omega⟩ (uP hN)
 rcases hq with ⟨rfl,hq⟩ | ⟨rfl,hq⟩
 ·exact .inl ⟨e,hq⟩
 ·exact .inr ⟨e,hq⟩
section
variable {a:AutT} {n:Nat} (V:VA a n)
include V
theorem VA.pos:0<n:=by have:=V.start;omega
theorem VA.rowAt {s:Int} (h0:0<=s) (h1:s<n):(nth a.2.2 s).length=9:=V.row _ (iy h0 (by rw[V.nlen];exact h1))
theorem VA.mv {s:Int} {k:Nat} (h0:0<=s) (h1:s<n) (hk:k<9): -1<=mv a s k/\mv a s k<n:=
 V.ent _ (iy h0 (by rw[V.nlen];exact h1)) _ (iy (by omega) (by rw[V.rowAt h0 h1];omega))
theorem VA.get {s:Int} (h0:0<=s) (h1:s<n):aT a.2.2 s=some (nth a.2.2 s):=aK h0 (by rw[V.nlen];exact h1)
theorem VA.get2 {s:Int} {k:Nat} (h0:0<=s) (h1:s<n) (hk:k<9):aT (nth a.2.2 s) (k:Int)=some (D.mv a s k):=aK (by omega) (by rw[V.rowAt h0 h1];omega)
theorem VA.acc {s:Int} (h0:0<=s) (h1:s<n):aT a.2.1 s=some (nth a.2.1 s):=aK h0 (by rw[V.len];exact h1)
theorem WE {s:Int} {k:Nat} (h0:0<=s) (h1:s<n) (hk:k<9):eS a s (k:Int)=some (mv a s k):=by
 unfold eS jH
 rw[if_neg (by simp;omega),Gc];simp only[aa]
 rw[if_pos (by simp;omega),V.get h0 h1];simp only[aa]
 rw[V.get2 h0 h1 hk];rfl
end
end D
namespace D
open Go.RowKit
theorem DK (s:ByteArray):fS s=jJ s:=by
 have e:fK s=nj s:=by
  funext p
  unfold fK nj
  rw[Int.mul_comm p.1 257]
 unfold fS jJ
 rw[e]
theorem FQ (s:ByteArray) (h:s.size<=9223372036854775806): ∃r:Int,fS s=some r/\jJ s=some r/\0<=r/\r<=9972:=by
 obtain ⟨p,e,h1,h2,h3⟩:=nR (f:=fK s) (fun i p=>p.2=(i:Int)/\0<=p.1/\p.1<=9972) s.size (fun i p hi hI=>by
  obtain ⟨n,j⟩:=p
  obtain ⟨h1,h2,h3⟩:=hI
  simp only at h1 h2 h3
  subst h1
  unfold fK
  simp only[]
  rw[if_pos (decide_eq_true (by omega)),yJ hi]
  simp only[aa]
  generalize s.data.toList[i] =b
  have hb:b.toNat<256:=b.toNat_lt
  rw[fe (n:=((b.toNat:Nat):Int)) (by omega) (by omega),fe (n:=n*257) (by omega) (by omega),fe (n:=n*257+(b.toNat:Int)) (by omega) (by omega),fe (n:=n*257+(b.toNat:Int)+1) (by omega) (by omega),ah (by omega)]
  refine ⟨_,rfl,rfl,?_,?_⟩
  ·exact Int.tmod_nonneg _ (by omega)
  ·have:Int.tmod (n*257+(b.toNat:Int)+1) 9973<9973:=Int.tmod_lt_of_pos _ (by decide)
   show Int.tmod (n*257+(b.toNat:Int)+1) 9973<=9972
   omega) (fun p hI=>by
  obtain ⟨n,j⟩:=p
  obtain ⟨h1,-⟩:=hI
  simp only at h1
  subst h1
  unfold fK
  simp only[]
  rw[if_neg (by simp)]) (s:=(1,0)) ⟨rfl,by decide,by decide⟩ (dA _ (by omega))
 have k:fS s=some p.1:=by
  unfold fS
  rw[aG e]
 exact ⟨p.1,k,by rw[<-DK];exact k,h2,h3⟩
def edOk (e:Int×Int×Int×Int):Prop:=(1<=e.1/\e.1<=99)/\(0<=e.2.1/\e.2.1<=4)/\(0<=e.2.2.1/\e.2.2.1<=4)/\(0<=e.2.2.2/\e.2.2.2<=2)
instance (e:Int×Int×Int×Int):Decidable (edOk e):=inferInstanceAs (Decidable (_/\_))
def si (e:Int×Int×Int×Int):List UInt8:=Lib.itoa e.1++ [58] ++Lib.itoa e.2.1++ [UInt8.ofNat (97+e.2.2.2.toNat)] ++Lib.itoa e.2.2.1
theorem QZ: ∀k:Fin 3,eO (i64.wrap (2*(k.val:Int)))=some (mkB [UInt8.ofNat (97+k.val)]):=by
 intro k
 match k with
 | ⟨0,_⟩=>rfl
 | ⟨1,_⟩=>rfl
 | ⟨2,_⟩=>rfl
theorem Q0: ∀k:Fin 3,qT (⟨#[97,98,99]⟩) (k.val:Int) (i64.wrap ((k.val:Int)+1))=some (mkB [UInt8.ofNat (97+k.val)]):=by
 intro k
 match k with
 | ⟨0,_⟩=>rfl
 | ⟨1,_⟩=>rfl
 | ⟨2,_⟩=>rfl
theorem N7 (e:Int×Int×Int×Int):je e=some (if edOk e then mkB (si e) else mkB []):=by
 unfold je
 rw[La,La,La,La]
 simp only[aa]
 by_cases h:edOk e
 ·obtain ⟨h1,h2,h3,h4⟩:=h
  rw[if_pos (decide_eq_true h1),if_pos (decide_eq_true h2),if_pos (decide_eq_true h3),if_pos (decide_eq_true h4),if_pos ⟨h1,h2,h3,h4⟩]
  have i1:I64 e.1:=by unfold I64;omega
  have i2:I64 e.2.1:=by unfold I64;omega
  have i3:I64 e.2.2.1:=by unfold I64;omega
  have n1:=qQ i1
  have n2:=qQ i2
  have n3:=qQ i3
  obtain ⟨k,hk,ek⟩: ∃k:Nat,k<3/\e.2.2.2=(k:Int):=⟨e.2.2.2.toNat,by omega,by omega⟩
  rw[sU i1,sU i2,sU i3,ek,QZ ⟨k,hk⟩]
  simp only[aa]
  have c1:lh (mkB (Lib.itoa e.1)) (⟨#[58]⟩)=some (mkB (Lib.itoa e.1++ [58])):=Cu _ [58] (by simp;omega)
  rw[c1]
  simp only[aa]
  rw[Cu _ _ (by simp;omega)]
  simp only[aa]
  rw[Cu _ _ (by simp;omega)]
  simp only[aa]
  rw[Cu _ _ (by simp;omega)]
  simp only[aa]
  unfold si
  rw[ek];rfl
 ·rw[if_neg h]
  split
  ·split
   ·split
    ·split
     ·rename_i a b c d
      exact absurd ⟨of_decide_eq_true a,of_decide_eq_true b,of_decide_eq_true c,of_decide_eq_true d⟩ h
     ·rfl
    ·rfl
   ·rfl
  ·rfl
theorem N8 (e:Int×Int×Int×Int):iW e=some (if edOk e then mkB (si e) else mkB []):=by
 have h5:i64.wrap (5 - 1)=4:=by decide
 have hok:fB (e.1,e.2.1,e.2.2.1,e.2.2.2) 5=some (decide (edOk e)):=by
  unfold fB
  rw[h5,Gc,Gc,Gc,Gc]
  simp only[aa]
  by_cases h1:1<=e.1/\e.1<=99
  ·rw[if_pos (decide_eq_true h1)]
   by_cases h2:0<=e.2.1/\e.2.1<=4
   ·rw[if_pos (decide_eq_true h2)]
    by_cases h3:0<=e.2.2.1/\e.2.2.1<=4
    ·rw[if_pos (decide_eq_true h3)]
     congr 1
     exact decide_eq_decide.2 ⟨fun h4=>⟨h1,h2,h3,h4⟩,fun h=>h.2.2.2⟩
    ·rw[if_neg (by simpa using h3),decide_eq_false (fun h:edOk e=>h3 h.2.2.1)]
   ·rw[if_neg (by simpa using h2),decide_eq_false (fun h:edOk e=>h2 h.2.1)]
  ·rw[if_neg (by simpa using h1),decide_eq_false (fun h:edOk e=>h1 h.1)]
 unfold iW
 rw[hok]
 simp only[aa]
 by_cases h:edOk e
 ·rw[if_pos (decide_eq_true h),if_pos h]
  obtain ⟨h1,h2,h3,h4⟩:=h
  have i1:I64 e.1:=by unfold I64;omega
  have i2:I64 e.2.1:=by unfold I64;omega
  have i3:I64 e.2.2.1:=by unfold I64;omega
  have n1:=qQ i1
  have n2:=qQ i2
  have n3:=qQ i3
  obtain ⟨k,hk,ek⟩: ∃k:Nat,k<3/\e.2.2.2=(k:Int):=⟨e.2.2.2.toNat,by omega,by omega⟩
  rw[vO i1,vO i2,vO i3,ek,Q0 ⟨k,hk⟩]
  simp only[aa]
  have c1:lh (mkB (Lib.itoa e.1)) (⟨#[58]⟩)=some (mkB (Lib.itoa e.1++ [58])):=Cu _ [58] (by simp;omega)
  rw[c1]
  simp only[aa]
  rw[Cu _ _ (by simp;omega)]
  simp only[aa]
  rw[Cu _ _ (by simp;omega)]
  simp only[aa]
  rw[Cu _ _ (by simp;omega)]
  simp only[aa]
  unfold si
  rw[ek];rfl
 ·rw[if_neg (by simpa using h),if_neg h];rfl
end D
namespace D
open Go.RowKit
abbrev ChT:Type:=Bool×Int×Int×Int×Int
def oT (c:ChT):List UInt8:=(if c.1 then 43 else 45)::si c.2
def btx (l:List ChT):List UInt8:=Lib.join (l.map oT) [32]
def yK (l:List ChT):Prop:= ∀c,c∈l->edOk c.2
theorem sV {e:Int×Int×Int×Int} (h:edOk e):(si e).length<=70:=by
 obtain ⟨h1,h2,h3,h4⟩:=h
 have n1:=qQ (n:=e.1) (by unfold I64;omega)
 have n2:=qQ (n:=e.2.1) (by unfold I64;omega)
 have n3:=qQ (n:=e.2.2.1) (by unfold I64;omega)
 unfold si
 simp only[aw,al,aC];omega
theorem N9 (e:Int×Int×Int×Int):(mkB (si e)==(⟨#[]⟩:ByteArray))=false:=by
 rw[beq_eq_false_iff_ne]
 intro k
 have:=congrArg ByteArray.size k
 rw[bB] at this
 unfold si at this
 simp only[aw,al,aC] at this
 have e0:(⟨#[]⟩:ByteArray).size=0:=rfl
 omega
theorem Oa: ∀(r:List ChT),yK r->(Lib.joinTail [32] (r.map oT)).length<=72*r.length
 | [],_=>by simp[Lib.joinTail]
 | c::r,h=>by
  have h1:=Oa r fun q hq=>h q (bh _ hq)
  have h2:=sV (h c (by simp))
  have e:Lib.joinTail [32] ((c::r).map oT)=([32] ++oT c)++Lib.joinTail [32] (r.map oT):=by simp[Lib.joinTail]
  rw[e,aw,aw,al]
  unfold oT
  simp only[al,aC]
  unfold oT at h1
  omega
theorem DL {l:List ChT} (h:yK l):(btx l).length<=72*l.length:=by
 cases l with
 | nil=>simp[btx,Lib.join_nil]
 | cons c r =>
  have h1:=Oa r fun q hq=>h q (bh _ hq)
  have h2:=sV (h c (by simp))
  unfold btx
  rw[List.map_cons,Lib.join_cons,aw,al]
  have:(oT c).length=(si c.2).length+1:=by unfold oT;rw[al]
  omega
theorem Q1 {l:List ChT} {i:Nat} (hi:i<l.length):btx (l.take (i+1))=if i=0 then oT l[i] else btx (l.take i)++ [32] ++oT l[i]:=by
 unfold btx
 rw[List.take_succ_eq_append_getElem hi,aM,List.map_cons,List.map_nil,NZ]
 by_cases h:i=0
 ·subst h;rw[if_pos (by simp),if_pos rfl]
 ·rw[if_neg (by
   intro e
   have:=congrArg List.length e
   rw[List.length_map,aA,aC] at this
   omega),if_neg h]
theorem FR {l:List ChT} {i:Nat} (hi:i<l.length) (h:yK (l.take i)) (k:edOk l[i].2):yK (l.take (i+1)):=by
 rw[List.take_succ_eq_append_getElem hi]
 intro c hc
 rcases aD hc with hc | hc
 ·exact h c hc
 ·obtain rfl:=aq hc;exact k
theorem UY {l:List ChT} (hl:l.length<=6):(yK l/\ay (eU l) aW (([] :List ByteArray),0)=some (.brk (l.map (fun c=>mkB (oT c)),(l.length:Int))))\/(¬yK l/\ay (eU l) aW (([] :List ByteArray),0)=some (.ret (mkB []))):=by
 obtain ⟨o,e,hQ⟩:=cK (f:=eU l) (fun i s=>s=((l.take i).map (fun c=>mkB (oT c)),(i:Int))/\yK (l.take i)) (fun o=>(yK l/\o= .brk (l.map (fun c=>mkB (oT c)),(l.length:Int)))\/(¬yK l/\o= .ret (mkB []))) l.length (fun i s hi hI=>by
  obtain ⟨rfl,hb⟩:=hI
  unfold eU
  simp only[]
  by_cases h1:i<l.length
  ·rw[bE h1,if_pos rfl,aB h1]
   simp only[aa]
   rw[N8]
   simp only[aa]
   by_cases k:edOk l[i].2
   ·have n1:=sV k
    have c1:lh (⟨#[43]⟩) (mkB (si l[i].2))=some (mkB (43::si l[i].2)):=Cu [43] _ (by simp;omega)
    have c2:lh (⟨#[45]⟩) (mkB (si l[i].2))=some (mkB (45::si l[i].2)):=Cu [45] _ (by simp;omega)
    have hx: ∀z:ByteArray,cd 16 ((l.take i).map (fun c=>mkB (oT c))) [z] =some ((l.take i).map (fun c=>mkB (oT c))++ [z]):=fun z=>aI (by rw[List.length_map,aA];simp only[al,aC];omega)
    refine .inl ⟨h1,((l.take (i+1)).map (fun c=>mkB (oT c)),((i+1:Nat):Int)),?_,rfl,FR h1 hb k⟩
    rw[if_pos k,if_neg (by rw[N9];decide),c1,c2]
    simp only[aa]
    rw[hx,hx,List.take_succ_eq_append_getElem h1,aM,List.map_cons,List.map_nil,<-ah (show i<9223372036854775807 by omega)]
    have ec:oT l[i] =(if l[i].1=true then 43 else 45)::si l[i].2:=rfl
    rw[ec]
    generalize l[i].1=t
    cases t <;> rfl
   ·refine .inr ⟨.ret (mkB []),?_,fun s' h=>(by simp at h),.inr ⟨fun h=>k (h _ (List.getElem_mem h1)),rfl⟩⟩
    rw[if_neg k];rfl
  ·obtain rfl:i=l.length:=by omega
   rw[List.take_length] at hb
   refine .inr ⟨_,by rw[bg];rfl,fun s' h=>(by simp at h),.inl ⟨hb,by rw[List.take_length]⟩⟩) (s:=([],0)) ⟨rfl,fun c hc=>by simp at hc⟩ (dA _ (by omega))
 rcases hQ with ⟨h,rfl⟩ | ⟨h,rfl⟩
 ·exact .inl ⟨h,e⟩
 ·exact .inr ⟨h,e⟩
theorem UZ {l:List ChT} (hl:l.length<=6):(yK l/\ay (eX l) aW ((⟨#[]⟩:ByteArray),0)=some (.brk (mkB (btx l),(l.length:Int))))\/(¬yK l/\ay (eX l) aW ((⟨#[]⟩:ByteArray),0)=some (.ret (mkB []))):=by
 obtain ⟨o,e,hQ⟩:=cK (f:=eX l) (fun i s=>s=(mkB (btx (l.take i)),(i:Int))/\yK (l.take i)) (fun o=>(yK l/\o= .brk (mkB (btx l),(l.length:Int)))\/(¬yK l/\o= .ret (mkB []))) l.length (fun i s hi hI=>by
  obtain ⟨rfl,hb⟩:=hI
  have hn:=DL hb
  rw[aA] at hn
  unfold eX
  simp only[]
  by_cases h1:i<l.length
  ·rw[bE h1,if_pos rfl,aB h1]
   simp only[aa]
   rw[N7]
   simp only[aa]
   by_cases k:edOk l[i].2
   ·have n1:=sV k
    refine .inl ⟨h1,(mkB (btx (l.take (i+1))),((i+1:Nat):Int)),?_,rfl,FR h1 hb k⟩
    rw[if_pos k,if_neg (by rw[N9];decide),Q1 h1,<-ah (show i<9223372036854775807 by omega)]
    have ec:oT l[i] =(if l[i].1=true then 43 else 45)::si l[i].2:=rfl
    rw[ec]
    generalize l[i].1=t
    have g1: ∀(a:List UInt8) (b:UInt8),a.length<=1000->lh (mkB a) (mkB [b])=some (mkB (a++ [b])):=fun a b ha=>Cu _ _ (by simp;omega)
    have g2: ∀(a:List UInt8) (b:UInt8),a.length<=1000->lh (mkB (a++ [b])) (mkB (si l[i].2))=some (mkB (a++b::si l[i].2)):=fun a b ha=>by
     rw[Cu _ _ (by simp;omega),ai];rfl
    by_cases h0:i=0
    ·subst h0
     have eb:btx (l.take 0)= []:=rfl
     have q1:=g1 [] 43 (by simp)
     have q2:=g1 [] 45 (by simp)
     have q3:=g2 [] 43 (by simp)
     have q4:=g2 [] 45 (by simp)
     have l1:(⟨#[43]⟩:ByteArray)=mkB [43]:=rfl
     have l2:(⟨#[45]⟩:ByteArray)=mkB [45]:=rfl
     rw[eb,if_pos rfl,if_neg (by simp)]
     simp only[aa]
     rw[l1,l2,q1,q2]
     simp only[aa]
     rw[q3,q4]
     cases t <;> rfl
    ·have hs:=g1 (btx (l.take i)) 32 (by omega)
     have q1:=g1 (btx (l.take i)++ [32]) 43 (by simp;omega)
     have q2:=g1 (btx (l.take i)++ [32]) 45 (by simp;omega)
     have q3:=g2 (btx (l.take i)++ [32]) 43 (by simp;omega)
     have q4:=g2 (btx (l.take i)++ [32]) 45 (by simp;omega)
     have l1:(⟨#[43]⟩:ByteArray)=mkB [43]:=rfl
     have l2:(⟨#[45]⟩:ByteArray)=mkB [45]:=rfl
     have l3:(⟨#[32]⟩:ByteArray)=mkB [32]:=rfl
     rw[if_neg h0,if_pos (decide_eq_true (by omega)),l1,l2,l3,hs]
     simp only[aa]
     rw[q1,q2]
     simp only[aa]
     rw[q3,q4]
     cases t <;> rfl
   ·refine .inr ⟨.ret (mkB []),?_,fun s' h=>(by simp at h),.inr ⟨fun h=>k (h _ (List.getElem_mem h1)),rfl⟩⟩
    rw[if_neg k];rfl
  ·obtain rfl:i=l.length:=by omega
   rw[List.take_length] at hb
   refine .inr ⟨_,by rw[bg];rfl,fun s' h=>(by simp at h),.inl ⟨hb,by rw[List.take_length]⟩⟩) (s:=((⟨#[]⟩:ByteArray),0)) ⟨rfl,fun c hc=>by simp at hc⟩ (dA _ (by omega))
 rcases hQ with ⟨h,rfl⟩ | ⟨h,rfl⟩
 ·exact .inl ⟨h,e⟩
 ·exact .inr ⟨h,e⟩
open Classical in
theorem sW (l:List ChT):cT l=some (if l.length<=6/\yK l then mkB (btx l) else mkB [])/\eu l=some (if l.length<=6/\yK l then mkB (btx l) else mkB []):=by
 unfold cT eu
 by_cases h6:l.length<=6
 ·have hd: ¬decide ((l.length:Int)>6)=true:=by rw[decide_eq_true_eq];omega
  constructor
  ·rw[if_neg hd]
   rcases UZ h6 with ⟨h,e⟩ | ⟨h,e⟩
   ·rw[aG e,if_pos ⟨h6,h⟩]
   ·rw[cg e,if_neg fun k=>h k.2]
  ·rw[if_neg hd]
   rcases UY h6 with ⟨h,e⟩ | ⟨h,e⟩
   ·have hn:=DL h
    rw[aG e,if_pos ⟨h6,h⟩]
    show (jj (l.map fun p=>mkB (oT p)) (mkB [32])).bind _=_
    unfold jj R.QK chk
    have e:(l.map fun p=>mkB (oT p)).map (·.data.toList)=l.map oT:=by
     rw[List.map_map]
     exact List.map_congr_left fun p _=>e7 _
    rw[e,e7,List.length_map,if_pos ⟨by omega,by show (btx l).length<=_;omega⟩];rfl
   ·rw[cg e,if_neg fun k=>h k.2]
 ·have hd:decide ((l.length:Int)>6)=true:=decide_eq_true (by omega)
  constructor
  ·rw[if_pos hd,if_neg fun k=>h6 k.1];rfl
  ·rw[if_pos hd,if_neg fun k=>h6 k.1];rfl
end D
namespace D
open Go.RowKit
theorem AT (v:Int) (l:List ChT): ∃r:ByteArray,dE v l=some r/\eM v l=some r/\r.size<=1000:=by
 obtain ⟨es,ei⟩:=sW l
 obtain ⟨t,et,hn⟩: ∃t:List UInt8,(cT l=some (mkB t)/\eu l=some (mkB t))/\t.length<=432:=by
  by_cases h:l.length<=6/\yK l
  ·have:=DL h.2
   refine ⟨btx l,⟨?_,?_⟩,by omega⟩
   ·rw[es,if_pos h]
   ·rw[ei,if_pos h]
  ·refine ⟨[],⟨?_,?_⟩,by simp⟩
   ·rw[es,if_neg h]
   ·rw[ei,if_neg h]
 obtain ⟨e1,e2⟩:=et
 unfold dE eM
 rw[e1,e2,La,Gc]
 simp only[aa]
 by_cases hv:1<=v/\v<=999
 ·have iv:I64 v:=by unfold I64;omega
  have nv:=qQ iv
  have c1:lh (mkB (Lib.itoa v)) (⟨#[59]⟩)=some (mkB (Lib.itoa v++ [59])):=Cu _ [59] (by simp;omega)
  have c2:lh (mkB (Lib.itoa v++ [59])) (mkB t)=some (mkB (Lib.itoa v++ [59] ++t)):=Cu _ _ (by simp;omega)
  have c3:lh (mkB (Lib.itoa v++ [59] ++t)) (⟨#[59]⟩)=some (mkB (Lib.itoa v++ [59] ++t++ [59])):=Cu _ [59] (by simp;omega)
  obtain ⟨q,k1,k2,q1,q2⟩:=FQ (mkB (Lib.itoa v++ [59] ++t++ [59])) (by rw[bB];simp;omega)
  have iq:I64 q:=by unfold I64;omega
  have nq:=qQ iq
  have c4:lh (mkB (Lib.itoa v++ [59] ++t++ [59])) (mkB (Lib.itoa q))=some (mkB (Lib.itoa v++ [59] ++t++ [59] ++Lib.itoa q)):=Cu _ _ (by simp;omega)
  have c5:lh (mkB (Lib.itoa v++ [59] ++t++ [59] ++Lib.itoa q)) (⟨#[10]⟩)=some (mkB (Lib.itoa v++ [59] ++t++ [59] ++Lib.itoa q++ [10])):=Cu _ [10] (by simp;omega)
  have hs:(mkB (Lib.itoa v++ [59] ++t++ [59] ++Lib.itoa q++ [10])).size<=1000:=by rw[bB];simp;omega
  have h0:((⟨#[]⟩:ByteArray)).size<=1000:=by decide
  rw[decide_eq_true hv]
  simp only[if_true,sU iv,vO iv,sU iq,vO iq,c1,c2,c3,k1,k2,c4,c5,aa]
  by_cases a:decide ((l.length:Int)>0)=true
  ·by_cases b:(mkB t==(⟨#[]⟩:ByteArray))=true
   ·simp only[if_pos a,if_pos b];exact ⟨_,rfl,rfl,h0⟩
   ·simp only[if_pos a,if_neg b];exact ⟨_,rfl,rfl,hs⟩
  ·by_cases b:(mkB t==(⟨#[]⟩:ByteArray))=true
   ·simp only[if_neg a,if_pos b];exact ⟨_,rfl,rfl,hs⟩
   ·simp only[if_neg a,if_neg b];exact ⟨_,rfl,rfl,hs⟩
 ·rw[decide_eq_false hv]
  exact ⟨_,rfl,rfl,by decide⟩
end D
namespace D
open Go.RowKit
def oU (c:UInt8) (cur:List UInt8):List UInt8->List (List UInt8)
 | [] =>[cur]
 | b::l=>if b=c then cur::oU c [] l else oU c (cur++ [b]) l
theorem nU {c:UInt8} : ∀ {l cur:List UInt8},c∉l->oU c cur l= [cur++l]
 | [],cur,_=>by simp[oU]
 | b::l,cur,h=>by
  have hb:b≠c:=fun e=>h (by simp[e])
  rw[oU,if_neg hb,nU fun k=>h (bh _ k)]
  simp
theorem ql {c:UInt8} : ∀ {a cur r:List UInt8},c∉a->oU c cur (a++c::r)=(cur++a)::oU c [] r
 | [],cur,r,_=>by simp[oU]
 | b::a,cur,r,h=>by
  have hb:b≠c:=fun e=>h (by simp[e])
  rw[List.cons_append,oU,if_neg hb,ql fun k=>h (bh _ k)]
  simp
theorem DM (c:UInt8): ∀(l cur:List UInt8),(oU c cur l).length<=l.length+1
 | [],cur=>by simp[oU]
 | b::l,cur=>by
  rw[oU]
  split
  ·have:=DM c l [];simp only[al];omega
  ·have:=DM c l (cur++ [b]);simp only[al];omega
theorem sj (c:UInt8): ∀(l cur:List UInt8),∀x∈oU c cur l,x.length<=cur.length+l.length
 | [],cur,x,h=>by simp[oU] at h;subst h;simp
 | b::l,cur,x,h=>by
  rw[oU] at h
  split at h
  ·rcases az h with rfl | h
   ·simp
   ·have:=sj c l [] x h;simp at this;simp;omega
  ·have:=sj c l _ x h;simp at this;simp;omega
theorem sX (c:UInt8) (l:List UInt8):c∉l\/ ∃a r,l=a++c::r/\c∉a:=by
 by_cases h:c∈l
 ·obtain ⟨a,r,e,k⟩:=List.eq_append_cons_of_mem h
  exact .inr ⟨a,r,e,k⟩
 ·exact .inl h
theorem DN (s:ByteArray):mkB s.data.toList=s:=by simp[mkB]
theorem Ob (s:ByteArray): ∃l:List UInt8,s=mkB l:=⟨_,(DN s).symm⟩
theorem w7 {a b:List UInt8} (h:mkB a=mkB b):a=b:=by rw[<-e7 a,h,e7]
theorem slB {l:List UInt8} {a b:Nat} (h1:a<=b) (h2:b<=l.length):qT (mkB l) (a:Int) (b:Int)=some (mkB ((l.take b).drop a)):=by
 unfold qT chk
 rw[bB,if_pos ⟨by omega,by omega,by omega⟩,aa]
 congr 1
 refine ByteArray.ext ?_
 simp[mkB,List.drop_take]
theorem atB {l:List UInt8} {i:Nat} (h:i<l.length):jB (mkB l) (i:Int)=some ((l[i].toNat:Nat):Int):=by
 rw[yJ (by rw[bB];exact h)]
 simp[mkB]
theorem vP (l:List UInt8) (c:UInt8) (hl:l.length<=1000000):im (mkB l) ((c.toNat:Nat):Int)=some ((oU c [] l).map mkB):=by
 obtain ⟨s,e,fr,done,rfl,h1,h2,h3⟩:=nR (f:=oq (mkB l) ((c.toNat:Nat):Int)) (fun i s=> ∃(fr:Nat) (done:List (List UInt8)),s=(done.map mkB,(fr:Int),(i:Int))/\fr<=i/\done.length<=i/\done++oU c ((l.take i).drop fr) (l.drop i)=oU c [] l) l.length (fun i s hi hI=>by
  obtain ⟨fr,done,rfl,h1,h2,h3⟩:=hI
  unfold oq
  simp only[]
  rw[if_pos (decide_eq_true (by rw[bB];omega)),atB hi]
  simp only[aa]
  rw[List.drop_eq_getElem_cons hi,oU] at h3
  by_cases k:l[i] =c
  ·rw[if_pos k] at h3
   rw[if_pos (by rw[k];simp),slB h1 (by omega)]
   simp only[aa]
   have hx:cd 16 (done.map mkB) [mkB ((l.take i).drop fr)] =some (done.map mkB++ [mkB ((l.take i).drop fr)]):=aI (by rw[List.length_map];simp only[al,aC];omega)
   rw[hx]
   simp only[aa]
   refine ⟨_,rfl,i+1,done++ [(l.take i).drop fr],?_,aE _,by simp;omega,?_⟩
   ·rw[aM,List.map_cons,List.map_nil,ah (by omega)]
   ·rw[<-h3,ai,List.drop_of_length_le (l:=l.take (i+1)) (by rw[aA];omega)];rfl
  ·rw[if_neg k] at h3
   rw[if_neg (fun e=>k (UInt8.toNat_inj.1 (by have:=eq_of_beq e;omega)))]
   simp only[aa]
   refine ⟨_,rfl,fr,done,?_,by omega,by omega,?_⟩
   ·rw[ah (by omega)]
   ·rw[<-h3,List.take_succ_eq_append_getElem hi,List.drop_append_of_le_length (by rw[aA];omega)]) (fun s hI=>by
  obtain ⟨fr,done,rfl,h1,h2,h3⟩:=hI
  unfold oq
  simp only[]
  rw[if_neg (by rw[bB];simp)]) (s:=(([] :List ByteArray),0,0)) ⟨0,[],rfl,aE _,aE _,by simp⟩ (dA _ (by omega))
 unfold im
 rw[aG e,bB]
 simp only[]
 rw[slB h1 (aE _)]
 simp only[aa]
 have hx:cd 16 (done.map mkB) [mkB ((l.take l.length).drop fr)] =some (done.map mkB++ [mkB ((l.take l.length).drop fr)]):=aI (by rw[List.length_map];simp only[al,aC];omega)
 rw[hx,<-h3,List.drop_length,oU]
 simp
theorem DO {c:UInt8} : ∀ {l:List UInt8},c∉l->Lib.index l [c] = -1
 | [],_=>rfl
 | b::l,h=>by
  have hb:c≠b:=fun e=>h (by simp[e])
  have k:([c] :List UInt8).isPrefixOf (b::l)=false:=by simp[List.isPrefixOf,hb]
  rw[Lib.index,k,DO fun k=>h (bh _ k)];rfl
theorem DP {c:UInt8} : ∀ {a r:List UInt8},c∉a->Lib.index (a++c::r) [c] =(a.length:Int)
 | [],r,_=>by simp[Lib.index,List.isPrefixOf]
 | b::a,r,h=>by
  have hb:c≠b:=fun e=>h (by simp[e])
  have k:([c] :List UInt8).isPrefixOf (b::(a++c::r))=false:=by simp[List.isPrefixOf,hb]
  rw[List.cons_append,Lib.index,k,DP fun k=>h (bh _ k)]
  rw[if_neg (by decide),if_neg (by rw[beq_iff_eq];omega),al];omega
theorem FU (c:UInt8): ∀(n:Nat) (l:List UInt8),l.length<=n->Lib.splitK [c] 0 (Lib.count l [c]) l=oU c [] l
 | n,l,h=>by
  rcases sX c l with k | ⟨a,r,rfl,k⟩
  ·have e:=DO k
   rw[Lib.count_miss e,nU k];rfl
  ·have e:=DP (r:=r) k
   have hd:(a++c::r).drop (a.length+1)=r:=by
    rw[<-List.drop_drop,List.drop_left];rfl
   rw[Lib.count_hit (by simp) e,ql k,Nat.add_comm 1,Lib.splitK,e,if_neg (by rw[beq_iff_eq];omega)]
   show List.take (a.length+0) _::Lib.splitK [c] 0 (Lib.count ((a++c::r).drop (a.length+1)) [c]) ((a++c::r).drop (a.length+1))=_
   rw[hd,Nat.add_zero,List.take_left]
   cases n with
   | zero=>simp at h
   | succ n=>rw[FU c n r (by simp at h;omega)];rfl
theorem DQ (l:List UInt8) (c:UInt8) (hl:l.length<=1000000):cG (mkB l) (mkB [c])=some ((oU c [] l).map mkB):=by
 unfold cG R.I9 chk
 rw[bB,bB,if_pos ⟨by omega,by simp⟩,aa]
 congr 1
 have e:=Lib.splitB_data (mkB [c]) 0 (Lib.countB (mkB l) (mkB [c])) (mkB l)
 rw[e7,e7] at e
 have e2:Lib.countB (mkB l) (mkB [c])=Lib.count l [c]:=by unfold Lib.countB;rw[e7,e7]
 rw[e2,FU c l.length l (aE _)] at e
 rw[e2,<-e,List.map_map]
 conv=>lhs;rw[<-List.map_id (Lib.splitB _ _ _ _)]
 exact List.map_congr_left fun x _=>(DN x).symm
theorem Q2 {l:List UInt8} {c:UInt8} (hl:l.length<=1000000) (h:c∉l):cQ (mkB l) (mkB [c])=some (mkB l,mkB [],false):=by
 unfold cQ R.Wv chk
 rw[bB,if_pos (by omega),aa,e7,e7]
 have:Lib.cut l [c] =(l,[],false):=by unfold Lib.cut;rw[DO h,if_neg (by decide)]
 rw[this];rfl
theorem Sq {a r:List UInt8} {c:UInt8} (hl:(a++c::r).length<=1000000) (h:c∉a):cQ (mkB (a++c::r)) (mkB [c])=some (mkB a,mkB r,true):=by
 unfold cQ R.Wv chk
 rw[bB,if_pos (by omega),aa,e7,e7]
 have:Lib.cut (a++c::r) [c] =(a,r,true):=by
  unfold Lib.cut
  rw[DP h,if_pos (by omega)]
  have hd:(a++c::r).drop (a.length+1)=r:=by
   rw[<-List.drop_drop,List.drop_left];rfl
  show (List.take a.length _,List.drop (a.length+1) _,true)=_
  rw[List.take_left,hd]
 rw[this];rfl
theorem Jl {c:UInt8} : ∀ {l:List UInt8},c∉l->Lib.indexByte l c= -1
 | [],_=>rfl
 | b::l,h=>by
  have hb:b≠c:=fun e=>h (by simp[e])
  rw[Lib.indexByte,if_neg (by simpa using hb),Jl fun k=>h (bh _ k)];rfl
theorem Sr {c:UInt8} : ∀ {a r:List UInt8},c∉a->Lib.indexByte (a++c::r) c=(a.length:Int)
 | [],r,_=>by simp[Lib.indexByte]
 | b::a,r,h=>by
  have hb:b≠c:=fun e=>h (by simp[e])
  rw[List.cons_append,Lib.indexByte,if_neg (by simpa using hb),Sr fun k=>h (bh _ k),if_neg (by rw[beq_iff_eq];omega),al];omega
end D
namespace D
open Go.RowKit
theorem Yh {α:Type} {l:List α} (h:l.length=3): ∃a b c,l= [a,b,c]:=by
 match l,h with
 | [a,b,c],_=>exact ⟨a,b,c,rfl⟩
abbrev EgT:Type:=Int×Int×Int×Int
theorem Q3 (c:UInt8) (cur l:List UInt8):1<=(oU c cur l).length:=by
 rcases sX c l with k | ⟨a,r,rfl,k⟩
 ·rw[nU k];simp
 ·rw[ql k];simp
theorem FV (u:Nat): ∀b∈Lib.decDigits u,48<=b.toNat/\b.toNat<=57:=by
 induction u using Nat.strongRecOn with
 | _ u ih =>
  intro b hb
  have k: ∀d,d<10->48<=(UInt8.ofNat (48+d)).toNat/\(UInt8.ofNat (48+d)).toNat<=57:=fun d hd=>by
   have e:(UInt8.ofNat (48+d)).toNat=48+d:=by simp;omega
   omega
  by_cases h:u<10
  ·rw[Lib.decDigits_one h] at hb
   obtain rfl:=aq hb
   exact k u h
  ·rw[yI h] at hb
   rcases aD hb with hb | hb
   ·exact ih (u / 10) (by omega) b hb
   ·obtain rfl:=aq hb
    exact k _ (Nat.mod_lt _ (by omega))
theorem Q4 (n:Int): ∀b∈Lib.itoa n,b.toNat=45\/48<=b.toNat/\b.toNat<=57:=by
 intro b hb
 unfold Lib.itoa at hb
 split at hb
 ·rcases az hb with rfl | hb
  ·exact .inl rfl
  ·exact .inr (FV _ b hb)
 ·exact .inr (FV _ b hb)
theorem Ss {n:Int} {c:UInt8} (h1:c.toNat≠45) (h2:c.toNat<48\/57<c.toNat):c∉Lib.itoa n:=fun h=>by
 rcases Q4 n c h with k | k <;> omega
theorem Su {n:Int} (h:0<=n/\n<=9):Lib.itoa n= [UInt8.ofNat (48+n.toNat)]:=by
 unfold Lib.itoa
 rw[if_neg (by omega),Lib.decDigits_one (by omega)]
theorem HI {e:EgT} (h:edOk e):si e=Lib.itoa e.1++58:: [UInt8.ofNat (48+e.2.1.toNat),UInt8.ofNat (97+e.2.2.2.toNat),UInt8.ofNat (48+e.2.2.1.toNat)]:=by
 obtain ⟨-,h2,h3,-⟩:=h
 unfold si
 rw[Su (n:=e.2.1) (by omega),Su (n:=e.2.2.1) (by omega)]
 simp
theorem WG: ∀k:Fin 9,∃x,eO (k.val:Int)=some x:=by
 intro k
 match k with
 | ⟨0,_⟩=>exact ⟨_,rfl⟩
 | ⟨1,_⟩=>exact ⟨_,rfl⟩
 | ⟨2,_⟩=>exact ⟨_,rfl⟩
 | ⟨3,_⟩=>exact ⟨_,rfl⟩
 | ⟨4,_⟩=>exact ⟨_,rfl⟩
 | ⟨5,_⟩=>exact ⟨_,rfl⟩
 | ⟨6,_⟩=>exact ⟨_,rfl⟩
 | ⟨7,_⟩=>exact ⟨_,rfl⟩
 | ⟨8,_⟩=>exact ⟨_,rfl⟩
theorem KM (z:ByteArray): ∃r,fL z=some r:=by
 obtain ⟨o,e,h⟩:=cK (f:=kl z) (fun i s=>s=(i:Int)) (fun o=> ∀s,o≠ .nxt s) 9 (fun i s hi hI=>by
  subst hI
  unfold kl
  by_cases h1:i<9
  ·obtain ⟨x,ex⟩:=WG ⟨i,h1⟩
   have ex:eO (i:Int)=some x:=ex
   rw[if_pos (decide_eq_true (by omega)),ex]
   simp only[aa]
   by_cases c:(x==z)=true
   ·rw[if_pos c];exact .inr ⟨_,rfl,fun s' h=>(by simp at h),fun s' h=>(by simp at h)⟩
   ·rw[if_neg c];exact .inl ⟨h1,_,rfl,ah (by omega)⟩
  ·obtain rfl:i=9:=by omega
   rw[if_neg (by decide)];exact .inr ⟨_,rfl,fun s' h=>(by simp at h),fun s' h=>(by simp at h)⟩) (s:=(0:Int)) rfl (dA _ (by omega))
 unfold fL
 rw[e]
 cases o with
 | nxt s=>exact absurd rfl (h s)
 | brk s=>exact ⟨_,rfl⟩
 | ret r=>exact ⟨_,rfl⟩
theorem Oc: ∀k:Fin 3,fL (mkB [UInt8.ofNat (97+k.val)])=some (2*(k.val:Int),true):=by
 intro k
 have hf:=dA 100 (by omega)
 obtain ⟨n,hn⟩: ∃n,aW=n+6:=⟨aW - 6,by omega⟩
 unfold fL
 rw[hn]
 match k with
 | ⟨0,_⟩=>rfl
 | ⟨1,_⟩=>rfl
 | ⟨2,_⟩=>rfl
theorem Y6: ∀d:Fin 5,i64.wrap ((i64.wrap (((UInt8.ofNat (48+d.val)).toNat:Nat):Int)) - 48)=(d.val:Int):=by decide
theorem Zl: ∀d:Fin 3,i64.wrap ((i64.wrap (((UInt8.ofNat (97+d.val)).toNat:Nat):Int)) - 97)=(d.val:Int):=by decide
theorem Zm: ∀d:Fin 3,O0 (2*(d.val:Int)) 2=(d.val:Int):=by decide
def XC (s:List UInt8) (r:EgT×Bool):Prop:=r=((0,0,0,0),false)\/r.2=true/\edOk r.1/\s=si r.1
theorem Sv {e:EgT} {s:List UInt8} (h:s≠ []): ∃r:EgT×Bool,(if (if edOk e then mkB (si e) else mkB []) !=mkB s then (some ((0,0,0,0),false)) else (some (e,true)):Option (EgT×Bool))=some r/\XC s r:=by
 by_cases k:edOk e
 ·rw[if_pos k]
  by_cases c:mkB (si e)=mkB s
  ·rw[if_neg (by simp[c])];exact ⟨_,rfl,.inr ⟨rfl,k,(w7 c).symm⟩⟩
  ·rw[if_pos (by simpa using c)];exact ⟨_,rfl,.inl rfl⟩
 ·rw[if_neg k,if_pos (by
   rw[bne_iff_ne]
   exact fun c=>h (w7 c).symm)]
  exact ⟨_,rfl,.inl rfl⟩
theorem Zn (l:List UInt8) (hl:l.length<=1000000): ∃r,gj (mkB l)=some r/\XC l r:=by
 unfold gj
 have ec:im (mkB l) 58=some ((oU 58 [] l).map mkB):=vP l 58 hl
 rw[ec];simp only[aa]
 rcases sX 58 l with k | ⟨a,r,rfl,k⟩
 ·rw[nU k];exact ⟨_,rfl,.inl rfl⟩
 ·rw[ql k]
  rcases sX 58 r with k2 | ⟨b,q,rfl,k2⟩
  ·rw[nU k2]
   simp only[List.nil_append,List.map_cons,List.map_nil]
   have g0:aT [mkB a,mkB r] 0=some (mkB a):=rfl
   have g1:aT [mkB a,mkB r] 1=some (mkB r):=rfl
   rw[if_neg (by simp)]
   simp only[g0,g1,aa,bB]
   by_cases h3:r.length=3
   ·obtain ⟨x,y,z,rfl⟩:=Yh h3
    obtain ⟨n,en,-,-⟩:=qk (mkB a)
    obtain ⟨t,et⟩:=KM (mkB [y])
    have s1:qT (mkB [x,y,z]) 1 2=some (mkB [y]):=slB (l:=[x,y,z]) (a:=1) (b:=2) (by decide) (by simp)
    have a0:jB (mkB [x,y,z]) 0=some ((x.toNat:Nat):Int):=atB (l:=[x,y,z]) (i:=0) (by simp)
    have a2:jB (mkB [x,y,z]) 2=some ((z.toNat:Nat):Int):=atB (l:=[x,y,z]) (i:=2) (by simp)
    rw[if_neg (by simp),en,s1]
    simp only[aa]
    rw[et,a0,a2]
    simp only[aa]
    rw[N7]
    simp only[aa]
    exact Sv (by simp)
   ·rw[if_pos (by rw[bne_iff_ne];omega)];exact ⟨_,rfl,.inl rfl⟩
  ·rw[ql k2]
   have:=Q3 58 [] q
   rw[if_pos (by rw[bne_iff_ne];simp only[List.length_map,al];omega)]
   exact ⟨_,rfl,.inl rfl⟩
theorem Zo (l:List UInt8) (hl:l.length<=1000000): ∃r,gb (mkB l)=some r/\XC l r:=by
 unfold gb
 rcases sX 58 l with k | ⟨a,r,rfl,k⟩
 ·have ec:cQ (mkB l) (⟨#[58]⟩)=some (mkB l,mkB [],false):=Q2 hl k
  rw[ec];exact ⟨_,rfl,.inl rfl⟩
 ·have ec:cQ (mkB (a++58::r)) (⟨#[58]⟩)=some (mkB a,mkB r,true):=Sq hl k
  rw[ec]
  simp only[aa,bB]
  by_cases h3:r.length=3
  ·obtain ⟨x,y,z,rfl⟩:=Yh h3
   obtain ⟨n,-,en,-⟩:=qk (mkB a)
   have a0:jB (mkB [x,y,z]) 0=some ((x.toNat:Nat):Int):=atB (l:=[x,y,z]) (i:=0) (by simp)
   have a1:jB (mkB [x,y,z]) 1=some ((y.toNat:Nat):Int):=atB (l:=[x,y,z]) (i:=1) (by simp)
   have a2:jB (mkB [x,y,z]) 2=some ((z.toNat:Nat):Int):=atB (l:=[x,y,z]) (i:=2) (by simp)
   rw[if_neg (by simp),en,a0,a1,a2]
   simp only[aa]
   rw[N8]
   simp only[aa]
   exact Sv (by simp)
  ·rw[if_pos (by rw[bne_iff_ne];omega)];exact ⟨_,rfl,.inl rfl⟩
theorem U0 {e:EgT} (h:edOk e):gj (mkB (si e))=some (e,true)/\gb (mkB (si e))=some (e,true):=by
 have hn:=sV h
 have he:=HI h
 have hl:(si e).length<=1000000:=by omega
 obtain ⟨h1,h2,h3,h4⟩:=id h
 obtain ⟨p1,p2⟩:=DJ (n:=e.1) (by omega)
 have k:(58:UInt8)∉Lib.itoa e.1:=Ss (by decide) (by decide)
 obtain ⟨f,hf,ef⟩: ∃k:Nat,k<5/\e.2.1=(k:Int):=⟨e.2.1.toNat,by omega,by omega⟩
 obtain ⟨t,ht,et⟩: ∃k:Nat,k<5/\e.2.2.1=(k:Int):=⟨e.2.2.1.toNat,by omega,by omega⟩
 obtain ⟨q,hq,eq⟩: ∃k:Nat,k<3/\e.2.2.2=(k:Int):=⟨e.2.2.2.toNat,by omega,by omega⟩
 have hx:si e=Lib.itoa e.1++58:: [UInt8.ofNat (48+f),UInt8.ofNat (97+q),UInt8.ofNat (48+t)]:=by
  rw[he,ef,et,eq];rfl
 have k2:(58:UInt8) ∉ [UInt8.ofNat (48+f),UInt8.ofNat (97+q),UInt8.ofNat (48+t)]:=by
  have e1:(UInt8.ofNat (48+f)).toNat=48+f:=by simp;omega
  have e2:(UInt8.ofNat (97+q)).toNat=97+q:=by simp;omega
  have e3:(UInt8.ofNat (48+t)).toNat=48+t:=by simp;omega
  have e4:(58:UInt8).toNat=58:=rfl
  intro hm
  simp only[List.mem_cons,List.not_mem_nil,or_false] at hm
  rcases hm with hm | hm | hm <;> (have:=congrArg UInt8.toNat hm;omega)
 have a0:jB (mkB [UInt8.ofNat (48+f),UInt8.ofNat (97+q),UInt8.ofNat (48+t)]) 0=some (((UInt8.ofNat (48+f)).toNat:Nat):Int):=atB (l:=[UInt8.ofNat (48+f),UInt8.ofNat (97+q),UInt8.ofNat (48+t)]) (i:=0) (by simp)
 have a1:jB (mkB [UInt8.ofNat (48+f),UInt8.ofNat (97+q),UInt8.ofNat (48+t)]) 1=some (((UInt8.ofNat (97+q)).toNat:Nat):Int):=atB (l:=[UInt8.ofNat (48+f),UInt8.ofNat (97+q),UInt8.ofNat (48+t)]) (i:=1) (by simp)
 have a2:jB (mkB [UInt8.ofNat (48+f),UInt8.ofNat (97+q),UInt8.ofNat (48+t)]) 2=some (((UInt8.ofNat (48+t)).toNat:Nat):Int):=atB (l:=[UInt8.ofNat (48+f),UInt8.ofNat (97+q),UInt8.ofNat (48+t)]) (i:=2) (by simp)
 have s1:qT (mkB [UInt8.ofNat (48+f),UInt8.ofNat (97+q),UInt8.ofNat (48+t)]) 1 2=some (mkB [UInt8.ofNat (97+q)]):=slB (l:=[UInt8.ofNat (48+f),UInt8.ofNat (97+q),UInt8.ofNat (48+t)]) (a:=1) (b:=2) (by decide) (by simp)
 have v1:=Y6 ⟨f,hf⟩
 have v2:=Y6 ⟨t,ht⟩
 have v3:=Zl ⟨q,hq⟩
 have v4:=Zm ⟨q,hq⟩
 have v5:=Oc ⟨q,hq⟩
 simp only at v1 v2 v3 v4 v5
 have ee:(e.1,(f:Int),(t:Int),(q:Int))=e:=by rw[<-ef,<-et,<-eq]
 constructor
 ·unfold gj
  have ec:im (mkB (si e)) 58=some ((oU 58 [] (si e)).map mkB):=vP _ 58 hl
  rw[ec];simp only[aa]
  rw[hx,ql k,nU k2]
  simp only[List.nil_append,List.map_cons,List.map_nil]
  rw[if_neg (by simp)]
  have g0: ∀a b:ByteArray,aT [a,b] 0=some a:=fun a b=>rfl
  have g1: ∀a b:ByteArray,aT [a,b] 1=some b:=fun a b=>rfl
  simp only[g0,g1,aa,bB]
  rw[if_neg (by simp),p1,s1]
  simp only[aa]
  rw[v5,a0,a2]
  simp only[aa]
  rw[v1,v2,v4,ee,N7,if_pos h,<-hx]
  simp
 ·unfold gb
  have ec:cQ (mkB (si e)) (⟨#[58]⟩)=some (mkB (Lib.itoa e.1),mkB [UInt8.ofNat (48+f),UInt8.ofNat (97+q),UInt8.ofNat (48+t)],true):=by
   rw[hx] at hl⊢
   exact Sq hl k
  rw[ec]
  simp only[aa,bB]
  rw[if_neg (by simp),p2,a0,a1,a2]
  simp only[aa]
  rw[v1,v2,v3,ee,N8,if_pos h]
  simp
theorem Od (l:List UInt8) (hl:l.length<=1000000): ∃r,gj (mkB l)=some r/\gb (mkB l)=some r/\XC l r:=by
 by_cases h: ∃e:EgT,edOk e/\l=si e
 ·obtain ⟨e,he,rfl⟩:=h
  exact ⟨_,(U0 he).1,(U0 he).2,.inr ⟨rfl,he,rfl⟩⟩
 ·obtain ⟨r1,e1,k1⟩:=Zn l hl
  obtain ⟨r2,e2,k2⟩:=Zo l hl
  rcases k1 with rfl | ⟨-,a,b⟩
  ·rcases k2 with rfl | ⟨-,a,b⟩
   ·exact ⟨_,e1,e2,.inl rfl⟩
   ·exact absurd ⟨_,a,b⟩ h
  ·exact absurd ⟨_,a,b⟩ h
end D
namespace D
open Go.RowKit
theorem Q5 {e:EgT} (h:edOk e) {c:UInt8} (h1:c.toNat≠45) (h2:c.toNat<48):c∉si e:=by
 obtain ⟨-,-,-,h4⟩:=id h
 rw[HI h]
 intro hm
 rcases aD hm with hm | hm
 ·exact Ss h1 (.inl h2) hm
 ·have e1:(UInt8.ofNat (48+e.2.1.toNat)).toNat=48+e.2.1.toNat:=by have:=h.2.1;simp;omega
  have e2:(UInt8.ofNat (97+e.2.2.2.toNat)).toNat=97+e.2.2.2.toNat:=by simp;omega
  have e3:(UInt8.ofNat (48+e.2.2.1.toNat)).toNat=48+e.2.2.1.toNat:=by have:=h.2.2.1;simp;omega
  have e4:(58:UInt8).toNat=58:=rfl
  simp only[List.mem_cons,List.not_mem_nil,or_false] at hm
  rcases hm with hm | hm | hm | hm <;> (have:=congrArg UInt8.toNat hm;omega)
theorem Jm {c:ChT} (h:edOk c.2) {b:UInt8} (h1:b.toNat≠45) (h2:b.toNat<48) (h3:b.toNat≠43):b∉oT c:=by
 unfold oT
 intro hm
 rcases az hm with hm | hm
 ·have:=congrArg UInt8.toNat hm
  split at this
  ·exact h3 this
  ·exact h1 this
 ·exact Q5 h h1 h2 hm
theorem xP {c:UInt8} : ∀ {r:List (List UInt8)} {x:List UInt8},c∉x->(∀y∈r,c∉y)->oU c [] (x++Lib.joinTail [c] r)=x::r
 | [],x,hx,_=>by
  have:Lib.joinTail [c] [] = []:=by simp[Lib.joinTail]
  rw[this,List.append_nil,nU hx];rfl
 | y::r,x,hx,hr=>by
  have:Lib.joinTail [c] (y::r)=c::(y++Lib.joinTail [c] r):=by simp[Lib.joinTail]
  rw[this,ql hx,xP (hr y (by simp)) fun z hz=>hr z (bh _ hz)];rfl
theorem Oe {l:List ChT} (h:yK l) (h0:l≠ []):oU 32 [] (btx l)=l.map oT:=by
 cases l with
 | nil=>exact absurd rfl h0
 | cons c r =>
  unfold btx
  rw[List.map_cons,Lib.join_cons]
  refine xP (Jm (h c (by simp)) (by decide) (by decide) (by decide)) fun y hy=>?_
  obtain ⟨d,hd,rfl⟩:=List.mem_map.1 hy
  exact Jm (h d (bh _ hd)) (by decide) (by decide) (by decide)
theorem Of:btx [] = []:=by simp[btx,Lib.join_nil]
theorem Sw {l:List ChT} (h0:l≠ []):btx l≠ []:=by
 cases l with
 | nil=>exact absurd rfl h0
 | cons c r=>unfold btx;rw[List.map_cons,Lib.join_cons];simp[oT]
def XD (s:List UInt8) (r:(List ChT)×Bool):Prop:=r=([],false)\/r.2=true/\r.1.length<=6/\yK r.1/\s=btx r.1
theorem Og {p:List UInt8} (h:1<=p.length):qT (mkB p) 1 (p.length:Int)=some (mkB (p.drop 1)):=by
 have:=slB (l:=p) (a:=1) (b:=p.length) h (aE _)
 rw[List.take_length] at this
 exact this
theorem sk (p:List UInt8):(mkB p==(⟨#[]⟩:ByteArray))=decide (p= []):=by
 by_cases h:p= []
 ·subst h;rfl
 ·rw[decide_eq_false h,beq_eq_false_iff_ne]
  intro k
  exact h (w7 (b:=[]) k)
open Classical in
theorem Sx {f:List ChT->Option ByteArray} (hf: ∀l,f l=some (if l.length<=6/\yK l then mkB (btx l) else mkB [])) {b:List ChT} {s:List UInt8} (h:s≠ []): ∃r:(List ChT)×Bool,((f b).bind fun r16=>if r16 !=mkB s then (some (([] :List ChT),false)) else (some (b,true)):Option ((List ChT)×Bool))=some r/\XD s r:=by
 rw[hf]
 simp only[aa]
 by_cases k:b.length<=6/\yK b
 ·rw[if_pos k]
  by_cases c:mkB (btx b)=mkB s
  ·rw[if_neg (by simp[c])];exact ⟨_,rfl,.inr ⟨rfl,k.1,k.2,(w7 c).symm⟩⟩
  ·rw[if_pos (by simpa using c)];exact ⟨_,rfl,.inl rfl⟩
 ·rw[if_neg k,if_pos (by
   rw[bne_iff_ne]
   exact fun c=>h (w7 c).symm)]
  exact ⟨_,rfl,.inl rfl⟩
theorem Zp (l:List UInt8) (hl:l.length<=1000000): ∃r,dO (mkB l)=some r/\(l= [] \/XD l r):=by
 unfold dO
 by_cases h0:l= []
 ·rw[sk,if_pos (decide_eq_true h0)];exact ⟨_,rfl,.inl h0⟩
 rw[sk,if_neg (by simpa using h0)]
 have ec:im (mkB l) 32=some ((oU 32 [] l).map mkB):=vP l 32 hl
 rw[ec];simp only[aa]
 obtain ⟨o,e,hQ⟩:=cK (f:=cJ ((oU 32 [] l).map mkB)) (fun i s=> ∃b:List ChT,s=((i:Int),b)/\b.length=i) (fun o=>o= .ret (([] :List ChT),false)\/ ∃s,o= .brk s) 7 (fun i s hi hI=>by
  obtain ⟨b,rfl,hb⟩:=hI
  unfold cJ
  simp only[]
  by_cases h1:i<((oU 32 [] l).map mkB).length
  ·rw[bE h1,if_pos rfl]
   by_cases h7:i<=6
   ·rw[if_pos (decide_eq_true (by omega)),aB h1]
    simp only[aa]
    rw[List.length_map] at h1
    have hp:=sj 32 l [] _ (List.getElem_mem h1)
    rw[List.getElem_map]
    generalize (oU 32 [] l)[i] =p at hp⊢
    rw[aC] at hp
    rw[bB]
    by_cases h2:p.length<2
    ·rw[if_pos (decide_eq_true (by omega))]
     exact .inr ⟨_,rfl,fun s' h=>(by simp at h),.inl rfl⟩
    ·rw[if_neg (by simp;omega),Og (by omega)]
     simp only[aa]
     obtain ⟨r,er,-,-⟩:=Od (p.drop 1) (by rw[aR];omega)
     rw[er]
     simp only[aa]
     have a0:jB (mkB p) 0=some ((p[0].toNat:Nat):Int):=atB (l:=p) (i:=0) (by omega)
     by_cases h3:r.2=true
     ·rw[if_pos h3,a0]
      simp only[aa]
      have hx: ∀z:ChT,cd 40 b [z] =some (b++ [z]):=fun z=>aI (by simp only[al,aC];omega)
      rw[hx]
      simp only[aa]
      exact .inl ⟨by omega,_,rfl,_,by rw[ah (by omega)],by simp;omega⟩
     ·rw[if_neg h3]
      exact .inr ⟨_,rfl,fun s' h=>(by simp at h),.inl rfl⟩
   ·rw[if_neg (by simp;omega)]
    exact .inr ⟨_,rfl,fun s' h=>(by simp at h),.inr ⟨_,rfl⟩⟩
  ·rw[if_neg (by simp only[decide_eq_true_eq];omega)]
   exact .inr ⟨_,rfl,fun s' h=>(by simp at h),.inr ⟨_,rfl⟩⟩) (s:=(0,([] :List ChT))) ⟨[],rfl,rfl⟩ (dA _ (by omega))
 rcases hQ with rfl | ⟨s,rfl⟩
 ·rw[cg e];exact ⟨_,rfl,.inr (.inl rfl)⟩
 ·rw[aG e]
  obtain ⟨r,er,k⟩:=Sx (f:=cT) (fun l=>(sW l).1) (b:=s.2) h0
  exact ⟨r,er,.inr k⟩
theorem Zq (l:List UInt8) (hl:l.length<=1000000): ∃r,dN (mkB l)=some r/\(l= [] \/XD l r):=by
 unfold dN
 by_cases h0:l= []
 ·rw[sk,if_pos (decide_eq_true h0)];exact ⟨_,rfl,.inl h0⟩
 rw[sk,if_neg (by simpa using h0)]
 have ec:cG (mkB l) (⟨#[32]⟩)=some ((oU 32 [] l).map mkB):=DQ l 32 hl
 rw[ec];simp only[aa]
 have hn:=DM 32 l []
 obtain ⟨o,e,hQ⟩:=cK (f:=cH ((oU 32 [] l).map mkB)) (fun i s=> ∃b:List ChT,s=((i:Int),b)/\b.length=i) (fun o=>o= .ret (([] :List ChT),false)\/ ∃s,o= .brk s) (oU 32 [] l).length (fun i s hi hI=>by
  obtain ⟨b,rfl,hb⟩:=hI
  unfold cH
  simp only[]
  by_cases h1:i<((oU 32 [] l).map mkB).length
  ·rw[bE h1,if_pos rfl,aB h1]
   simp only[aa]
   rw[List.length_map] at h1
   have hp:=sj 32 l [] _ (List.getElem_mem h1)
   rw[List.getElem_map]
   generalize (oU 32 [] l)[i] =p at hp⊢
   rw[aC] at hp
   rw[sk,bB]
   by_cases h2:p= []
   ·rw[if_pos (decide_eq_true h2)]
    exact .inr ⟨_,rfl,fun s' h=>(by simp at h),.inl rfl⟩
   ·have h2':1<=p.length:=List.length_pos_iff.2 h2
    rw[if_neg (by simpa using h2),Og h2']
    simp only[aa]
    obtain ⟨r,-,er,-⟩:=Od (p.drop 1) (by rw[aR];omega)
    rw[er]
    simp only[aa]
    have a0:jB (mkB p) 0=some ((p[0].toNat:Nat):Int):=atB (l:=p) (i:=0) (by omega)
    by_cases h3:r.2=true
    ·rw[if_pos h3,a0]
     simp only[aa]
     have hx: ∀z:ChT,cd 40 b [z] =some (b++ [z]):=fun z=>aI (by simp only[al,aC];omega)
     rw[hx]
     simp only[aa]
     exact .inl ⟨by omega,_,rfl,_,by rw[ah (by omega)],by simp;omega⟩
    ·rw[if_neg h3]
     exact .inr ⟨_,rfl,fun s' h=>(by simp at h),.inl rfl⟩
  ·rw[if_neg (by simp only[decide_eq_true_eq];omega)]
   exact .inr ⟨_,rfl,fun s' h=>(by simp at h),.inr ⟨_,rfl⟩⟩) (s:=(0,([] :List ChT))) ⟨[],rfl,rfl⟩ (dA _ (by omega))
 rcases hQ with rfl | ⟨s,rfl⟩
 ·rw[cg e];exact ⟨_,rfl,.inr (.inl rfl)⟩
 ·rw[aG e]
  obtain ⟨r,er,k⟩:=Sx (f:=eu) (fun l=>(sW l).2) (b:=s.2) h0
  exact ⟨r,er,.inr k⟩
theorem Oh {L:List ChT} (h:yK L) (h6:L.length<=6) {i:Nat} (hi:i<L.length):cJ ((L.map oT).map mkB) ((i:Int),L.take i)=some (.nxt (((i+1:Nat):Int),L.take (i+1)))/\cH ((L.map oT).map mkB) ((i:Int),L.take i)=some (.nxt (((i+1:Nat):Int),L.take (i+1))):=by
 have hl:i<((L.map oT).map mkB).length:=by rw[List.length_map,List.length_map];exact hi
 have hk:edOk L[i].2:=h _ (List.getElem_mem hi)
 have hp:=sV hk
 have eg:((L.map oT).map mkB)[i] =mkB (oT L[i]):=by simp
 obtain ⟨p1,p2⟩:=U0 hk
 have hs:(oT L[i]).length=(si L[i].2).length+1:=by unfold oT;rw[al]
 have h4:4<=(si L[i].2).length:=by rw[HI hk];simp
 have ed:(oT L[i]).drop 1=si L[i].2:=rfl
 have a0:jB (mkB (oT L[i])) 0=some (((if L[i].1 then (43:UInt8) else 45).toNat:Nat):Int):=atB (l:=oT L[i]) (i:=0) (by omega)
 have hz:((((if L[i].1 then (43:UInt8) else 45).toNat:Nat):Int)==43)=L[i].1:=by
  generalize L[i].1=t
  cases t <;> rfl
 have hx: ∀z:ChT,cd 40 (L.take i) [z] =some (L.take i++ [z]):=fun z=>aI (by rw[aA];simp only[al,aC];omega)
 have et:=List.take_succ_eq_append_getElem hi
 have st:=Og (p:=oT L[i]) (by omega)
 constructor
 ·unfold cJ
  simp only[]
  rw[bE hl,if_pos rfl,if_pos (decide_eq_true (by omega)),aB hl,eg]
  simp only[aa]
  rw[bB,if_neg (by simp;omega),st,ed]
  simp only[aa]
  rw[p1]
  simp only[aa]
  rw[if_pos trivial,a0]
  simp only[aa]
  rw[hz,hx,ah (by omega),et];rfl
 ·unfold cH
  simp only[]
  rw[bE hl,if_pos rfl,aB hl,eg]
  simp only[aa]
  rw[sk,if_neg (by simp[oT]),bB,st,ed]
  simp only[aa]
  rw[p2]
  simp only[aa]
  rw[if_pos trivial,a0]
  simp only[aa]
  rw[hz,hx,ah (by omega),et];rfl
theorem WH {L:List ChT} (h:yK L) (h6:L.length<=6):dO (mkB (btx L))=some (L,true)/\dN (mkB (btx L))=some (L,true):=by
 by_cases h0:L= []
 ·subst h0
  unfold dO dN
  rw[Of]
  exact ⟨rfl,rfl⟩
 have hn:=DL h
 have hl:(btx L).length<=1000000:=by omega
 have eb: ∀s i:Option ByteArray,True:=fun _ _=>trivial
 obtain ⟨b1,b2⟩:=sW L
 rw[if_pos ⟨h6,h⟩] at b1 b2
 have hs:=br (f:=cJ ((L.map oT).map mkB)) (fun i=>((i:Int),L.take i)) L.length (fun i hi=>(Oh h h6 hi).1) (by
  unfold cJ
  simp only[]
  rw[if_neg (by simp)]) (dA _ (by omega))
 have hi:=br (f:=cH ((L.map oT).map mkB)) (fun i=>((i:Int),L.take i)) L.length (fun i hi=>(Oh h h6 hi).2) (by
  unfold cH
  simp only[]
  rw[if_neg (by simp)]) (dA _ (by omega))
 rw[List.take_length] at hs hi
 constructor
 ·unfold dO
  have ec:im (mkB (btx L)) 32=some ((oU 32 [] (btx L)).map mkB):=vP _ 32 hl
  rw[sk,if_neg (by simpa using Sw h0),ec,Oe h h0]
  simp only[aa]
  have hs:ay (cJ ((L.map oT).map mkB)) aW (0,([] :List ChT))=_:=hs
  rw[aG hs]
  simp only[]
  rw[b1]
  simp
 ·unfold dN
  have ec:cG (mkB (btx L)) (⟨#[32]⟩)=some ((oU 32 [] (btx L)).map mkB):=DQ _ 32 hl
  rw[sk,if_neg (by simpa using Sw h0),ec,Oe h h0]
  simp only[aa]
  have hi:ay (cH ((L.map oT).map mkB)) aW (0,([] :List ChT))=_:=hi
  rw[aG hi]
  simp only[]
  rw[b2]
  simp
theorem U1 (l:List UInt8) (hl:l.length<=1000000): ∃r,dO (mkB l)=some r/\dN (mkB l)=some r/\XD l r:=by
 by_cases h: ∃L:List ChT,L.length<=6/\yK L/\l=btx L
 ·obtain ⟨L,h6,hk,rfl⟩:=h
  exact ⟨_,(WH hk h6).1,(WH hk h6).2,.inr ⟨rfl,h6,hk,rfl⟩⟩
 ·have hne:l≠ []:=fun e=>h ⟨[],by simp,fun c hc=>by simp at hc,by rw[e,Of]⟩
  obtain ⟨r1,e1,k1⟩:=Zp l hl
  obtain ⟨r2,e2,k2⟩:=Zq l hl
  rcases k1 with k | rfl | ⟨-,a,b,c⟩
  ·exact absurd k hne
  ·rcases k2 with k | rfl | ⟨-,a,b,c⟩
   ·exact absurd k hne
   ·exact ⟨_,e1,e2,.inl rfl⟩
   ·exact absurd ⟨_,a,b,c⟩ h
  ·exact absurd ⟨_,a,b,c⟩ h
end D
namespace D
open Go.RowKit
def recT (v:Int) (b:List ChT):List UInt8:=((dE v b).getD ByteArray.empty).data.toList
theorem Sy (v:Int) (b:List ChT):dE v b=some (mkB (recT v b))/\eM v b=some (mkB (recT v b))/\(recT v b).length<=1000:=by
 obtain ⟨r,e1,e2,h⟩:=AT v b
 have e:mkB (recT v b)=r:=by unfold recT;rw[e1];exact DN r
 rw[<-e,bB] at h
 rw[e]
 exact ⟨e1,e2,h⟩
def totL (r:List Int) (q:List (List ChT)):Nat->Nat
 | 0=>0
 | i+1=>totL r q i+(recT (nth r (i:Int)) (nth q (i:Int))).length
theorem Jn {r:List Int} {q:List (List ChT)} (h:q.length=r.length) (x:List Int) (y:List (List ChT)): ∀i,i<=r.length->totL (r++x) (q++y) i=totL r q i
 | 0,_=>rfl
 | i+1,hi=>by
  rw[totL,totL,Jn h x y i (by omega),iz (by omega) (by omega),iz (by omega) (by omega)]
theorem Oi {r:List Int} {q:List (List ChT)} (h:q.length=r.length) (v:Int) (b:List ChT):totL (r++ [v]) (q++ [b]) (r++ [v]).length=totL r q r.length+(recT v b).length:=by
 have e1:nth (r++ [v]) ((r.length:Nat):Int)=v:=by rw[bN (by simp)];simp
 have e2:nth (q++ [b]) ((r.length:Nat):Int)=b:=by rw[<-h,bN (by simp)];simp
 rw[aw,al,aC,Nat.zero_add,totL,Jn h _ _ _ (aE _),e1,e2]
theorem Oj (l:List UInt8) (hl:l.length<=1000000): ∃r:Int×List ChT×Bool,jn (mkB l)=some r/\jk (mkB l)=some r/\r.2.1.length<=6/\(-999999999<=r.1/\r.1<=999999999)/\(r.2.2=true->recT r.1 r.2.1=l):=by
 unfold jn jk
 have ec:im (mkB l) 59=some ((oU 59 [] l).map mkB):=vP l 59 hl
 have ei:cG (mkB l) (⟨#[59]⟩)=some ((oU 59 [] l).map mkB):=DQ l 59 hl
 rw[ec,ei];simp only[aa]
 by_cases h3:(oU 59 [] l).length=3
 ·have hp:=sj 59 l []
  obtain ⟨a,b,c,e⟩:=Yh h3
  rw[e] at hp⊢
  have hb:=hp b (by simp)
  rw[aC] at hb
  simp only[List.map_cons,List.map_nil]
  have g0:aT [mkB a,mkB b,mkB c] 0=some (mkB a):=rfl
  have g1:aT [mkB a,mkB b,mkB c] 1=some (mkB b):=rfl
  rw[if_neg (by simp),if_neg (by simp)]
  obtain ⟨v,v1,v2,kv⟩:=qk (mkB a)
  obtain ⟨q,q1,q2,k⟩:=U1 b (by omega)
  obtain ⟨t,t1,t2,-⟩:=AT v.1 q.1
  have hq:q.1.length<=6:=by
   rcases k with rfl | ⟨-,k,-⟩
   ·simp
   ·exact k
  have hv: -999999999<=v.1/\v.1<=999999999:=by
   rcases kv with ⟨-,k,-⟩ | rfl
   ·exact k
   ·decide
  simp only[g0,g1,v1,v2,q1,q2,t1,t2,aa]
  by_cases c1:v.2=true
  ·by_cases c2:q.2=true
   ·by_cases c3:(t !=mkB l)=true
    ·simp only[if_pos c1,if_pos c2,if_pos c3];exact ⟨_,rfl,rfl,by simp,by decide,fun c=>by cases c⟩
    ·simp only[if_pos c1,if_pos c2,if_neg c3];exact ⟨_,rfl,rfl,hq,hv,fun _=>by
      have e:t=mkB l:=by simpa using c3
      have e2:=(Sy v.1 q.1).1
      rw[t1,e] at e2
      exact (w7 (ae e2)).symm⟩
   ·simp only[if_pos c1,if_neg c2];exact ⟨_,rfl,rfl,by simp,by decide,fun c=>by cases c⟩
  ·simp only[if_neg c1];exact ⟨_,rfl,rfl,by simp,by decide,fun c=>by cases c⟩
 ·have k:(((List.map mkB (oU 59 [] l)).length:Int) !=3)=true:=by
   rw[bne_iff_ne,List.length_map];omega
  rw[if_pos k,if_pos k]
  exact ⟨_,rfl,rfl,by simp,by decide,fun c=>by cases c⟩
def ScOk (vs:List Int) (bs:List (List ChT)):Prop:=bs.length=vs.length/\(∀b∈bs,b.length<=6)/\ ∀v∈vs,(-999999999<=v/\v<=999999999)/\v<=nth vs ((vs.length:Int) - 1)
theorem Q6 (vs:List Int) (v:Int):nth (vs++ [v]) (((vs++ [v]).length:Int) - 1)=v:=by
 have e:(((vs++ [v]).length:Int) - 1)=((vs.length:Nat):Int):=by simp
 rw[e,bN (by simp)];simp
theorem ScOk.push {vs:List Int} {bs:List (List ChT)} (h:ScOk vs bs) {v:Int} {b:List ChT} (hb:b.length<=6) (hv: -999999999<=v/\v<=999999999) (hx:0<vs.length->v=i64.wrap (nth vs ((vs.length:Int) - 1)+1)):ScOk (vs++ [v]) (bs++ [b]):=by
 obtain ⟨h1,h2,h3⟩:=h
 refine ⟨by simp;omega,fun d hd=>?_,fun d hd=>?_⟩
 ·rcases aD hd with q | q
  ·exact h2 d q
  ·obtain rfl:=aq q;exact hb
 ·rw[Q6]
  rcases aD hd with q | q
  ·have h0:0<vs.length:=List.length_pos_of_mem q
   obtain ⟨k1,k2⟩:=h3 d q
   obtain ⟨k3,-⟩:=h3 _ (iy (xs:=vs) (i:=(vs.length:Int) - 1) (by omega) (by omega))
   have:=hx h0
   rw[fe (by omega) (by omega)] at this
   exact ⟨k1,by omega⟩
  ·obtain rfl:=aq q;exact ⟨hv,Int.le_refl _⟩
theorem DR {l:List UInt8} (hl:l.length<=4000) {vs:List Int} {bs:List (List ChT)} {u:Int} : ∀(a r:List UInt8) (i k:Nat),(10:UInt8)∉a->l.drop i=a++r->i<=l.length->ay (bt (mkB l)) (k+a.length) (vs,bs,u,(i:Int))=ay (bt (mkB l)) k (vs,bs,u,((i+a.length:Nat):Int))
 | [],r,i,k,_,_,_=>rfl
 | x::a,r,i,k,hx,e,hi=>by
  have h1:i<l.length:=by
   have:=congrArg List.length e
   rw[aR,aw,al] at this;omega
  have e0:=List.drop_eq_getElem_cons h1
  rw[e0,List.cons_append] at e
  obtain ⟨e1,e2⟩:=List.cons.inj e
  have hn:x.toNat≠10:=fun q=>hx (by
   have:x=10:=UInt8.toNat_inj.1 q
   rw[this];simp)
  have st:bt (mkB l) (vs,bs,u,(i:Int))=some (.nxt (vs,bs,u,((i+1:Nat):Int))):=by
   unfold bt
   simp only[]
   rw[bB,bE h1,if_pos rfl,if_pos (decide_eq_true (by omega)),atB h1,e1]
   simp only[aa]
   rw[if_pos (by rw[bne_iff_ne];omega),ah (by omega)];rfl
  rw[al,show k+(a.length+1)=(k+a.length)+1 by omega,ay,st]
  show ay _ (k+a.length) _=_
  rw[DR hl a r (i+1) k (fun q=>hx (bh _ q)) e2 h1,show i+1+a.length=i+(a.length+1) by omega]
theorem U2 {l:List UInt8} (hl:l.length<=4000): ∀(m p:Nat) (vs:List Int) (bs:List (List ChT)),l.length - p<m->p<=l.length->vs.length<=p->ScOk vs bs->totL vs bs vs.length<=p-> ∃(r:List Int) (q:List (List ChT)) (n:Nat),(∀k,l.length - p+1<=k->(ay (bt (mkB l)) k (vs,bs,(p:Int),(p:Int))=some (.ret (r,q,(n:Int)))\/ ∃i,ay (bt (mkB l)) k (vs,bs,(p:Int),(p:Int))=some (.brk (r,q,(n:Int),i)))/\ay (cx (mkB l)) k (vs,bs,(p:Int))=some (.brk (r,q,(n:Int))))/\n<=l.length/\r.length<=n/\ScOk r q/\totL r q r.length<=n:=by
 intro m
 induction m with
 | zero=>intro p vs bs hm;omega
 | succ m ih =>
  intro p vs bs hm hp hv hb ht
  have hbl:=hb.1
  have hsl:qT (mkB l) (p:Int) (l.length:Int)=some (mkB (l.drop p)):=by
   rw[slB hp (aE _),List.take_length]
  rcases sX 10 (l.drop p) with k | ⟨a,t,e,k⟩
  ·refine ⟨vs,bs,p,fun j hj=>⟨.inr ⟨(l.length:Int),?_⟩,?_⟩,hp,hv,hb,ht⟩
   ·have hd:(l.drop p).length=l.length - p:=aR ..
    obtain ⟨j,rfl⟩: ∃j',j=(j'+1)+(l.drop p).length:=⟨j - 1 - (l.length - p),by omega⟩
    rw[DR hl (l.drop p) [] p (j+1) k (by simp) hp,ay,hd,show p+(l.length - p)=l.length by omega]
    have:bt (mkB l) (vs,bs,(p:Int),(l.length:Int))=some (.brk (vs,bs,(p:Int),(l.length:Int))):=by
     unfold bt
     simp only[]
     rw[bB,if_neg (by simp)]
    rw[this]
   ·obtain ⟨j,rfl⟩: ∃j',j=j'+1:=⟨j - 1,by omega⟩
    have:cx (mkB l) (vs,bs,(p:Int))=some (.brk (vs,bs,(p:Int))):=by
     unfold cx
     simp only[]
     have ei:eT (mkB (l.drop p)) 10=some (-1):=by
      show some (Lib.indexByte _ 10)=_
      rw[e7,Jl k]
     rw[bB,if_pos (decide_eq_true (by omega)),hsl]
     simp only[aa]
     rw[ei]
     simp only[aa]
     rw[if_pos (by decide)]
    rw[ay,this]
  ·have hlen:(l.drop p).length=l.length - p:=aR ..
   rw[e,aw,al] at hlen
   have hn:p+a.length<l.length:=by omega
   have hx:l[p+a.length] =10:=by
    have:(l.drop p)[a.length]? =some 10:=by rw[e];simp
    rw[List.getElem?_drop,List.getElem?_eq_getElem hn] at this
    exact ae this
   obtain ⟨r,r1,r2,h6,h9,h8⟩:=Oj ((l.take (p+a.length+1)).drop p) (by rw[aR,aA];omega)
   have es:qT (mkB l) (p:Int) ((p+a.length+1:Nat):Int)=some (mkB ((l.take (p+a.length+1)).drop p)):=slB (by omega) (by omega)
   have ei:eT (mkB (l.drop p)) 10=some (a.length:Int):=by
    show some (Lib.indexByte _ 10)=_
    rw[e7,e,Sr k]
   have w1:i64.wrap ((i64.wrap ((p:Int)+(a.length:Int)))+1)=((p+a.length+1:Nat):Int):=by
    rw[fe (n:=(p:Int)+(a.length:Int)) (by omega) (by omega),fe (by omega) (by omega)];omega
   have w2:i64.wrap ((p:Int)+(i64.wrap ((a.length:Int)+1)))=((p+a.length+1:Nat):Int):=by
    rw[fe (n:=(a.length:Int)+1) (by omega) (by omega),fe (by omega) (by omega)];omega
   have step:(bt (mkB l) (vs,bs,(p:Int),((p+a.length:Nat):Int))=some (.ret (vs,bs,(p:Int)))/\cx (mkB l) (vs,bs,(p:Int))=some (.brk (vs,bs,(p:Int))))\/(bt (mkB l) (vs,bs,(p:Int),((p+a.length:Nat):Int))=some (.nxt (vs++ [r.1],bs++ [r.2.1],((p+a.length+1:Nat):Int),((p+a.length+1:Nat):Int)))/\cx (mkB l) (vs,bs,(p:Int))=some (.nxt (vs++ [r.1],bs++ [r.2.1],((p+a.length+1:Nat):Int)))/\(0<vs.length->r.1=i64.wrap (nth vs ((vs.length:Int) - 1)+1))/\r.2.2=true):=by
    have x1:cd 8 vs [r.1] =some (vs++ [r.1]):=aI (by simp only[al,aC];omega)
    have x2:cd 24 bs [r.2.1] =some (bs++ [r.2.1]):=aI (by simp only[al,aC];omega)
    unfold bt cx
    simp only[]
    rw[bB,bE hn,if_pos rfl,if_pos (decide_eq_true (by omega)),if_pos (decide_eq_true (by omega)),atB hn,hx,hsl]
    simp only[aa]
    rw[if_neg (by decide),ei,ah (show p+a.length<9223372036854775807 by omega),es]
    simp only[aa]
    rw[r1,if_neg (by simp),w1,w2,es]
    simp only[aa]
    rw[r2]
    simp only[aa]
    by_cases c1:r.2.2=true
    ·rw[if_pos c1,if_pos c1]
     by_cases c2:decide ((vs.length:Int)>0)=true
     ·rw[if_pos c2,if_pos c2]
      have h0:0<vs.length:=by simpa using c2
      rw[nS (by omega),aK (xs:=vs) (by omega) (by omega)]
      simp only[aa]
      by_cases c3:(r.1 !=i64.wrap (nth vs ((vs.length:Int) - 1)+1))=true
      ·rw[if_pos c3,if_pos c3];exact .inl ⟨rfl,rfl⟩
      ·rw[if_neg c3,if_neg c3,x1,x2];exact .inr ⟨rfl,rfl,(fun _=>by simpa using c3),c1⟩
     ·rw[if_neg c2,if_neg c2,x1,x2];exact .inr ⟨rfl,rfl,(fun h=>absurd (decide_eq_true (show (vs.length:Int)>0 by omega)) c2),c1⟩
    ·rw[if_neg c1,if_neg c1];exact .inl ⟨rfl,rfl⟩
   rcases step with ⟨s1,s2⟩ | ⟨s1,s2,s3,s4⟩
   ·refine ⟨vs,bs,p,fun j hj=>⟨.inl ?_,?_⟩,hp,hv,hb,ht⟩
    ·obtain ⟨j,rfl⟩: ∃j',j=(j'+1)+a.length:=⟨j - 1 - a.length,by omega⟩
     rw[DR hl a (10::t) p (j+1) k e hp,ay,s1]
    ·obtain ⟨j,rfl⟩: ∃j',j=j'+1:=⟨j - 1,by omega⟩
     rw[ay,s2]
   ·have hT:totL (vs++ [r.1]) (bs++ [r.2.1]) (vs++ [r.1]).length<=p+a.length+1:=by
     rw[Oi hbl,h8 s4,aR,aA];omega
    obtain ⟨R,Q,n,h1,h2,h3,h4⟩:=ih (p+a.length+1) (vs++ [r.1]) (bs++ [r.2.1]) (by omega) (by omega) (by simp;omega) (hb.push h6 h9 s3) hT
    refine ⟨R,Q,n,fun j hj=>⟨?_,?_⟩,h2,h3,h4⟩
    ·obtain ⟨j,rfl⟩: ∃j',j=(j'+1)+a.length:=⟨j - 1 - a.length,by omega⟩
     rw[DR hl a (10::t) p (j+1) k e hp,ay,s1]
     exact (h1 j (by omega)).1
    ·obtain ⟨j,rfl⟩: ∃j',j=j'+1:=⟨j - 1,by omega⟩
     rw[ay,s2]
     exact (h1 j (by omega)).2
theorem xQ (l:List UInt8) (hl:l.length<=1000000000): ∃(r:List Int) (q:List (List ChT)) (n:Nat),m_s_ScanLog (mkB l)=some (r,q,(n:Int))/\m_i_ScanLog (mkB l)=some (r,q,(n:Int))/\n<=l.length/\r.length<=4000/\ScOk r q/\totL r q r.length<=n:=by
 unfold m_s_ScanLog m_i_ScanLog
 by_cases h:l.length<=4000
 ·obtain ⟨r,q,n,h1,h2,h3,h4⟩:=U2 h (l.length+1) 0 [] [] (by omega) (by omega) (by simp) ⟨rfl,fun b hb=>(by cases hb),fun b hb=>(by cases hb)⟩ (Nat.zero_le _)
  obtain ⟨k1,k2⟩:=h1 aW (dA _ (by omega))
  have k2:ay (cx (mkB l)) aW (([] :List Int),([] :List (List ChT)),0)=some (.brk (r,q,(n:Int))):=k2
  refine ⟨r,q,n,?_,?_,h2,by omega,h4⟩
  ·rcases k1 with k1 | ⟨i,k1⟩
   ·have k1:ay (bt (mkB l)) aW (([] :List Int),([] :List (List ChT)),0,0)=_:=k1
    rw[cg k1]
   ·have k1:ay (bt (mkB l)) aW (([] :List Int),([] :List (List ChT)),0,0)=_:=k1
    rw[aG k1]
  ·rw[aG k2]
 ·have hf:=dA 100 (by omega)
  obtain ⟨k,hk⟩: ∃k,aW=k+1:=⟨aW - 1,by omega⟩
  have k1:ay (bt (mkB l)) aW (([] :List Int),([] :List (List ChT)),0,0)=some (.brk ([],[],0,0)):=by
   rw[hk,ay]
   have:bt (mkB l) (([] :List Int),([] :List (List ChT)),0,0)=some (.brk ([],[],0,0)):=by
    unfold bt
    simp only[]
    rw[bB,if_pos (decide_eq_true (by omega)),if_neg (by simp;omega)]
   rw[this]
  have k2:ay (cx (mkB l)) aW (([] :List Int),([] :List (List ChT)),0)=some (.brk ([],[],0)):=by
   rw[hk,ay]
   have:cx (mkB l) (([] :List Int),([] :List (List ChT)),0)=some (.brk ([],[],0)):=by
    unfold cx
    simp only[]
    rw[bB,if_neg (by simp;omega)]
   rw[this]
  rw[aG k1,aG k2]
  exact ⟨[],[],0,rfl,rfl,by omega,by simp,⟨rfl,fun b hb=>(by cases hb),fun b hb=>(by cases hb)⟩,aE _⟩
end D
namespace D
open Go.RowKit
abbrev GrT:=(List Int)×(List Yq1)
theorem WI {R:Type} {f:Int->Option (Out R Int)} (N:Nat) (p:Nat->Prop) [DecidablePred p] (r:R) (hN:N<=9223372036854775807)
  (h: ∀i:Nat,i<N->f (i:Int)=some (if p i then .nxt ((i+1:Nat):Int) else .ret r)) (he:f (N:Int)=some (.brk (N:Int))) :
  (ay f aW 0=some (.brk (N:Int))/\ ∀i,i<N->p i)\/(ay f aW 0=some (.ret r)/\ ¬ ∀i,i<N->p i):=by
 obtain ⟨o,e,hq⟩:=cK (f:=f) (fun i s=>s=(i:Int)/\ ∀j:Nat,j<i->p j) (fun o=>(o= .brk (N:Int)/\ ∀i,i<N->p i)\/(o= .ret r/\ ¬ ∀i,i<N->p i)) N (s:=0) (by
  rintro i s hi ⟨rfl,hp⟩
  by_cases hl:i<N
  ·by_cases c:p i
   ·refine .inl ⟨hl,_,by rw[h i hl,if_pos c],rfl,fun j hj=>?_⟩
    by_cases e:j=i
    ·subst e;exact c
    ·exact hp j (by omega)
   ·exact .inr ⟨_,by rw[h i hl,if_neg c],(fun s' e=>by cases e),.inr ⟨rfl,fun hx=>c (hx i hl)⟩⟩
  ·obtain rfl:i=N:=by omega
   exact .inr ⟨_,he,(fun s' e=>by cases e),.inl ⟨rfl,hp⟩⟩) ⟨rfl,by omega⟩ (uP hN)
 rcases hq with ⟨rfl,hq⟩ | ⟨rfl,hq⟩
 ·exact .inl ⟨e,hq⟩
 ·exact .inr ⟨e,hq⟩
structure GOk (g:GrT):Prop where
 n1:1<=g.1.length
 n5:g.1.length<=5
 m:g.2.length<=12
 val: ∀v∈g.1,0<=v/\v<=2
 edge: ∀e∈g.2,(0<=e.2.1/\e.2.1<g.1.length)/\(0<=e.2.2.1/\e.2.2.1<g.1.length)/\0<=e.2.2.2/\e.2.2.2<=2
 asc: ∀i:Nat,i+1<g.2.length->(nth g.2 i).1<(nth g.2 ((i+1:Nat):Int)).1
def edgeP (e:Int×Int×Int×Int) (n:Int):Prop:=(1<=e.1/\e.1<=99)/\(0<=e.2.1/\e.2.1<=n - 1)/\(0<=e.2.2.1/\e.2.2.1<=n - 1)/\0<=e.2.2.2/\e.2.2.2<=2
instance (e n):Decidable (edgeP e n):=by unfold edgeP;infer_instance
theorem Sz (e:Int×Int×Int×Int) {n:Nat} (hn:n<=1048576):fB e (n:Int)=some (decide (edgeP e n)):=by
 unfold fB edgeP
 simp only[Gc,aa,nS (show n<=9223372036854775807 by omega)]
 by_cases c1:1<=e.1/\e.1<=99 <;> by_cases c2:0<=e.2.1/\e.2.1<=(n:Int) - 1 <;> by_cases c3:0<=e.2.2.1/\e.2.2.1<=(n:Int) - 1 <;> simp[c1,c2,c3]
def KN (g:GrT):Prop:=GOk g/\ ∀e∈g.2,1<=e.1/\e.1<=99
theorem yL (g:GrT) (h1:g.1.length<=1048576) (h2:g.2.length<=1048576): ∃b,bG g=some b/\(b=true↔KN g):=by
 unfold bG
 have k0:=WI (f:=dZ g) g.1.length (fun i=>0<=nth g.1 i/\nth g.1 i<=2) false (by omega) (fun i hi=>by
  unfold dZ
  rw[if_pos (by simp;omega),aK (by omega) (by omega)];simp only[aa,Gc,decide_eq_true_eq]
  split
  ·rw[ah (by omega)]
  ·rfl) (by unfold dZ;rw[if_neg (by simp)])
 have k1:=WI (f:=c8 g) g.2.length (fun i=>edgeP (nth g.2 i) g.1.length/\(0<i->(nth g.2 ((i:Int) - 1)).1<(nth g.2 i).1)) false (by omega) (fun i hi=>by
  unfold c8
  rw[if_pos (by simp;omega),aK (by omega) (by omega)];simp only[aa]
  have e1:=Sz (nth g.2 (i:Int)) h1
  have e1:fB ((nth g.2 (i:Int)).1,(nth g.2 (i:Int)).2.1,(nth g.2 (i:Int)).2.2.1,(nth g.2 (i:Int)).2.2.2) (g.1.length:Int)=_:=e1
  rw[e1];simp only[aa,decide_eq_true_eq]
  by_cases c1:edgeP (nth g.2 (i:Int)) g.1.length
  ·rw[if_pos c1]
   by_cases c2:0<i
   ·rw[if_pos (by omega),nS (by omega),aK (by omega) (by omega)];simp only[aa]
    by_cases c3:(nth g.2 ((i:Int) - 1)).1<(nth g.2 (i:Int)).1
    ·rw[if_neg (by omega),if_pos ⟨c1,fun _=>c3⟩,ah (by omega)]
    ·rw[if_pos (by omega),if_neg (fun h=>c3 (h.2 c2))]
   ·rw[if_neg (by omega),if_pos ⟨c1,fun h=>absurd h c2⟩,ah (by omega)]
  ·rw[if_neg c1,if_neg (fun h=>c1 h.1)]) (by unfold c8;rw[if_neg (by simp)])
 rcases k0 with ⟨k0,j0⟩ | ⟨k0,j0⟩
 ·rw[aG k0]
  rcases k1 with ⟨k1,j1⟩ | ⟨k1,j1⟩
  ·rw[aG k1,Gc];simp only[aa,decide_eq_true_eq]
   split
   ·rename_i c
    refine ⟨_,rfl,fun hb=>?_,fun G=>decide_eq_true (by have:=G.1.m;omega)⟩
    have hb:=of_decide_eq_true hb
    refine ⟨⟨by omega,by omega,by omega,fun v hv=>?_,fun e he=>?_,fun i hi=>?_⟩,fun e he=>?_⟩
    rotate_left 3
    ·obtain ⟨i,hi,rfl⟩:=DH he
     exact (j1 i hi).1.1
    ·obtain ⟨i,hi,rfl⟩:=DH hv
     exact j0 i hi
    ·obtain ⟨i,hi,rfl⟩:=DH he
     obtain ⟨a1,a2,a3,a4⟩:=(j1 i hi).1
     exact ⟨⟨a2.1,by omega⟩,⟨a3.1,by omega⟩,a4⟩
    ·have:=(j1 (i+1) hi).2 (by omega)
     rwa [show (((i+1:Nat):Int) - 1)=(i:Int) from by omega] at this
   ·rename_i c
    exact ⟨false,rfl,(fun h=>by cases h),fun G=>absurd (by have:=G.1.n1;have:=G.1.n5;omega) c⟩
  ·rw[cg k1]
   refine ⟨false,rfl,(fun h=>by cases h),fun G=>absurd (fun i hi=>?_) j1⟩
   have hm:=iy (xs:=g.2) (i:=(i:Int)) (by omega) (by omega)
   obtain ⟨e1,e2,e3,e4⟩:=G.1.edge _ hm
   refine ⟨⟨G.2 _ hm,⟨e1.1,by omega⟩,⟨e2.1,by omega⟩,e3,e4⟩,fun h0=>?_⟩
   have:=G.1.asc (i - 1) (by omega)
   rwa [show ((i - 1:Nat):Int)=(i:Int) - 1 from by omega,show (((i - 1)+1:Nat):Int)=(i:Int) from by omega] at this
 ·rw[cg k0]
  exact ⟨false,rfl,(fun h=>by cases h),fun G=>absurd (fun i hi=>G.1.val _ (iy (by omega) (by omega))) j0⟩
theorem Q7 (g:GrT) (h1:g.1.length<=1048576) (h2:g.2.length<=1048576): ∃b,bG g=some b/\(b=true->GOk g):=by
 obtain ⟨b,h1,h2⟩:=yL g h1 h2
 exact ⟨b,h1,fun h=>(h2.1 h).1⟩
theorem GOk.lt {g:GrT} (G:GOk g) {i j:Nat} (h:i<j) (hj:j<g.2.length):(nth g.2 (i:Int)).1<(nth g.2 (j:Int)).1:=by
 induction h with
 | refl=>exact G.asc i hj
 | step h ih =>
  rename_i m
  have h1:=ih (by omega)
  have h2:=G.asc m hj
  exact Int.lt_trans h1 h2
end D
namespace D
open Go.RowKit
end D
namespace D
open Go.RowKit
section
variable {a:AutT} {n:Nat} (V:VA a n) (hn:n<=12)
include V hn
end
section
variable {a:AutT} {n:Nat} (V:VA a n) (hn:n<=12)
include V hn
end
section
variable {a:AutT} {n:Nat} (V:VA a n) (hn:n<=12)
include V
include hn
end
end D
namespace D
open Go.RowKit
section
variable {α:Type} {N:Nat} {F G:Nat->α}
end
abbrev EdT:=Int×Int×Int×Int
abbrev ArT:=(Int×Bool)×Int×Int
def inv (e:EdT):ArT:=((e.1,true),2*e.2.2.2+1,e.2.1)
end D
namespace D
open Go.RowKit
section
variable {g:GrT} {a:AutT} (G:GOk g) (V:VA a a.2.1.length) (hn:a.2.1.length<=12)
include G V hn
end
section
variable {g:GrT} {a:AutT} {F:Nat->List Int} {N:Nat}
end
section
variable {g:GrT} {a:AutT} (G:GOk g) (V:VA a a.2.1.length) (hn:a.2.1.length<=12)
include G V hn
end
end D
namespace D
open Go.RowKit
section
variable {a:AutT} {n:Nat} (V:VA a n) (hn:n<=12)
include V hn
end
section
variable {g:GrT} {a:AutT} (G:GOk g) (V:VA a a.2.1.length) (hn:a.2.1.length<=12)
include G V hn
end
end D
namespace D
open Go.RowKit
section
variable {nx:Int->List Int} {N:Nat} {v:Int} (hv:0<=v/\v<N) (hn: ∀x:Int,0<=x->x<N-> ∀y∈nx x,0<=y/\y<N)
include hv
include hn
end
end D
namespace D
open Go.RowKit
section
variable {nx:Int->List Int} {N:Nat} {v:Int} (hN:N<=60) (hv:0<=v/\v<N) (hn: ∀x:Int,0<=x->x<N-> ∀y∈nx x,0<=y/\y<N) (hl: ∀x,(nx x).length<=100000)
include hN hv hn hl
end
end D
namespace D
open Go.RowKit
end D
end Go.Proofs.YtodbpnpbhpeepaaGreatDoor
