/- FnRecovery: for every input the law returns true and changes nothing that was there. Part 7 of 9. -/
import Derived.Test.YtodbpnpbhpeepaaGreatDoorFC5
set_option synthInstance.maxSize 20000
set_option synthInstance.maxHeartbeats 2000000
set_option linter.unusedVariables false
set_option linter.unusedSimpArgs false
set_option linter.unnecessarySimpa false
set_option linter.unusedSectionVars false
set_option maxRecDepth 1000000
namespace Go.Proofs.YtodbpnpbhpeepaaGreatDoor
open Go.IntKind (i64)
namespace R
open Go.RowKit
open D
abbrev y3:Ty:=.int .i64
abbrev A9:Ty:=.prod y3 (.prod y3 (.prod y3 y3))
abbrev t302:Ty:=.tree 337 302 A9
abbrev vp:Ty:=.prod y3 (.prod y3 (.prod y3 y3))
abbrev y58:Ty:=.sl 172 A9
abbrev y60:Ty:=.wr y58
abbrev xn:Ty:=.prod y3 (.prod y60 y3)
abbrev y4:Ty:=.bool
abbrev TK:Ty:=.sl 4 y4
abbrev y70:Ty:=.sl 3 y3
abbrev aad:Ty:=.sl 70 y70
abbrev jE:Ty:=.prod y3 (.prod TK aad)
abbrev y5:Ty:=.int .u8
abbrev y22:Ty:=.sl 5 y5
abbrev adN:Ty:=.prod y22 (.prod y3 y3)
abbrev P0:Ty:=.prod y3 y3
abbrev NC:Ty:=.sl 385 P0
abbrev acr:Ty:=.prod NC NC
abbrev abI:Ty:=.prod y3 (.prod y4 acr)
abbrev abJ:Ty:=.prod y4 vp
abbrev y9:Ty:=.str
abbrev abK:Ty:=.sl 9 y9
abbrev aae:Ty:=.int .u64
abbrev y71:Ty:=.sl 124 vp
abbrev y73:Ty:=.prod y70 y71
abbrev y24:Ty:=.sl 73 y73
abbrev Ls:Ty:=.prod y70 (.prod y3 (.prod y3 (.prod y70 y4)))
abbrev y26:Ty:=.prod y3 y24
abbrev y27:Ty:=.sl 141 jE
abbrev y28:Ty:=.sl 126 xn
abbrev adp:Ty:=.prod y4 (.prod y3 y3)
abbrev y30:Ty:=.prod y27 y28
abbrev adq:Ty:=.prod y3 (.prod y3 y4)
abbrev acu:Ty:=.fro t302
abbrev y93:Ty:=.prod y3 (.prod y3 y3)
abbrev y31:Ty:=.sl 93 y93
abbrev y33:Ty:=.prod y26 (.prod y30 (.prod y31 y9))
abbrev abL:Ty:=.sl 302 acu
abbrev adO:Ty:=.prod A9 abL
abbrev aaf:Ty:=.int .u64
abbrev aag:Ty:=.int .u32
abbrev Zb:Ty:=.prod y3 y4
abbrev aah:Ty:=.prod Zb (.prod y3 y3)
abbrev adr:Ty:=.sl 421 aah
abbrev ads:Ty:=.sl 419 Zb
abbrev y82:Ty:=.sl 191 abJ
abbrev y84:Ty:=.wr y82
abbrev y87:Ty:=.sl 84 y84
theorem ti3:TI Tryz.prog 3 false 1:=⟨⟨_,Tryz.underlying3,rfl⟩,by kernel_rfl⟩
theorem aai (a:Int) (d:Int) (g:Int) (h:Int) (e:Int) (b:Int) (c:Int) (f:Int) (w:World):EqT Tryz.prog 124 (.agg #[.int .i64 a,.int .i64 d,.int .i64 g,.int .i64 h]) (.agg #[.int .i64 e,.int .i64 b,.int .i64 c,.int .i64 f]) ((a==e)&&((d==b)&&((g==c)&&((h==f)&&true)))) w:=Kq w Tryz.underlying124 (by kernel_rfl) (by kernel_rfl) (kl rfl (iA ti3 rfl) (iA ti3 rfl) (run_equalIn_int w 9998 3 _ _ _ _ Tryz.underlying3) (kl rfl (iA ti3 rfl) (iA ti3 rfl) (run_equalIn_int w 9998 3 _ _ _ _ Tryz.underlying3) (kl rfl (iA ti3 rfl) (iA ti3 rfl) (run_equalIn_int w 9998 3 _ _ _ _ Tryz.underlying3) (kl rfl (iA ti3 rfl) (iA ti3 rfl) (run_equalIn_int w 9998 3 _ _ _ _ Tryz.underlying3) (ES w)))))
theorem aaj (a:Int) (d:Int) (g:Int) (h:Int) (e:Int) (b:Int) (c:Int) (f:Int) (w:World):EqT Tryz.prog 172 (.agg #[.int .i64 a,.int .i64 d,.int .i64 g,.int .i64 h]) (.agg #[.int .i64 e,.int .i64 b,.int .i64 c,.int .i64 f]) ((a==e)&&((d==b)&&((g==c)&&((h==f)&&true)))) w:=Kq w Tryz.underlying172 (by kernel_rfl) (by kernel_rfl) (kl rfl (iA ti3 rfl) (iA ti3 rfl) (run_equalIn_int w 9998 3 _ _ _ _ Tryz.underlying3) (kl rfl (iA ti3 rfl) (iA ti3 rfl) (run_equalIn_int w 9998 3 _ _ _ _ Tryz.underlying3) (kl rfl (iA ti3 rfl) (iA ti3 rfl) (run_equalIn_int w 9998 3 _ _ _ _ Tryz.underlying3) (kl rfl (iA ti3 rfl) (iA ti3 rfl) (run_equalIn_int w 9998 3 _ _ _ _ Tryz.underlying3) (ES w)))))
theorem aak (a:Int) (c:Int) (d:Int) (b:Int) (w:World):EqT Tryz.prog 385 (.agg #[.int .i64 a,.int .i64 c]) (.agg #[.int .i64 d,.int .i64 b]) ((a==d)&&((c==b)&&true)) w:=Kq w Tryz.underlying385 (by kernel_rfl) (by kernel_rfl) (kl rfl (iA ti3 rfl) (iA ti3 rfl) (run_equalIn_int w 9998 3 _ _ _ _ Tryz.underlying3) (kl rfl (iA ti3 rfl) (iA ti3 rfl) (run_equalIn_int w 9998 3 _ _ _ _ Tryz.underlying3) (ES w)))
theorem acv (a:Int) (d:Int) (f:Int) (e:Int) (b:Int) (c:Int) (w:World):EqT Tryz.prog 93 (.agg #[.int .i64 a,.int .i64 d,.int .i64 f]) (.agg #[.int .i64 e,.int .i64 b,.int .i64 c]) ((a==e)&&((d==b)&&((f==c)&&true))) w:=Kq w Tryz.underlying93 (by kernel_rfl) (by kernel_rfl) (kl rfl (iA ti3 rfl) (iA ti3 rfl) (run_equalIn_int w 9998 3 _ _ _ _ Tryz.underlying3) (kl rfl (iA ti3 rfl) (iA ti3 rfl) (run_equalIn_int w 9998 3 _ _ _ _ Tryz.underlying3) (kl rfl (iA ti3 rfl) (iA ti3 rfl) (run_equalIn_int w 9998 3 _ _ _ _ Tryz.underlying3) (ES w))))
theorem mz3 (w:World):(zeroValue 3).run Tryz.prog w= .ok (.int .i64 0) w:=by kernel_rfl
theorem kk3:KeyOk Tryz.prog 3 (fun n:Int=>Value.int .i64 n) Wv iOk:=Zq Tryz.underlying3
theorem ek3:EltOk Tryz.prog 3 (fun n:Int=>Value.int .i64 n) Wv iOk 0:=Zr Tryz.underlying3 mz3
def tt:TT:=[(3,⟨false,1,none,y3,[],some 8,none,false,none,none,some (some .i64),false,none⟩),
 (4,⟨false,1,none,y4,[],some 1,none,true,none,none,none,false,none⟩),
 (5,⟨false,1,none,y5,[],some 1,none,false,none,none,some (some .u8),false,none⟩),
 (9,⟨false,1,none,y9,[],some 16,none,false,none,none,some none,false,none⟩),
 (22,⟨false,1,some 5,y22,[],some 24,none,false,none,none,none,false,none⟩),
 (24,⟨false,1,some 73,y24,[],some 24,none,false,none,none,none,false,none⟩),
 (26,⟨true,2,none,y26,[(0,0),(1,0)],some 32,some [(0,1),(1,1)],false,none,none,none,false,none⟩),
 (27,⟨false,1,some 141,y27,[],some 24,none,false,none,none,none,false,none⟩),
 (28,⟨false,1,some 126,y28,[],some 24,none,false,none,none,none,false,none⟩),
 (30,⟨true,2,none,y30,[(0,0),(1,0)],some 48,some [(0,1),(1,1)],false,none,none,none,false,none⟩),
 (31,⟨false,1,some 93,y31,[],some 24,none,false,none,none,none,false,none⟩),
 (33,⟨true,6,none,y33,[(0,1),(2,1),(4,0),(5,0)],some 120,some [(0,2),(2,2),(4,1),(5,1)],false,none,none,none,false,none⟩),
 (58,⟨false,1,some 172,y58,[],some 24,none,false,none,none,none,false,none⟩),
 (60,⟨true,1,none,y60,[(0,0)],some 24,some [(0,1)],false,none,none,none,false,none⟩),
 (70,⟨false,1,some 3,y70,[],some 24,none,false,none,none,none,false,none⟩),
 (71,⟨false,1,some 124,y71,[],some 24,none,false,none,none,none,false,none⟩),
 (73,⟨true,2,none,y73,[(0,0),(1,0)],some 48,some [(0,1),(1,1)],false,none,none,none,false,none⟩),
 (81,⟨false,1,none,.bool,[],none,none,false,none,none,none,true,none⟩),
 (82,⟨false,1,some 191,y82,[],some 24,none,false,none,none,none,false,none⟩),
 (84,⟨true,1,none,y84,[(0,0)],some 24,some [(0,1)],false,none,none,none,false,none⟩),
 (86,⟨false,1,none,.bool,[],none,none,false,none,none,none,true,none⟩),
 (87,⟨false,1,some 84,y87,[],some 24,none,false,none,none,none,false,none⟩),
 (93,⟨true,3,none,y93,[(0,0),(1,0),(2,0)],some 24,some [(0,1),(1,1),(2,1)],false,some [some .i64,some .i64,some .i64],none,none,false,none⟩),
 (99,⟨false,1,none,.bool,[],none,none,false,none,none,none,true,none⟩),
 (124,⟨true,4,none,vp,[(0,0),(1,0),(2,0),(3,0)],some 32,some [(0,1),(1,1),(2,1),(3,1)],false,some [some .i64,some .i64,some .i64,some .i64],none,none,false,none⟩),
 (126,⟨true,3,none,xn,[(0,0),(1,0),(2,0)],some 40,some [(0,1),(1,1),(2,1)],false,none,none,none,false,none⟩),
 (138,⟨false,1,some 4,TK,[],some 24,none,false,none,none,none,false,none⟩),
 (139,⟨false,1,some 70,aad,[],some 24,none,false,none,none,none,false,none⟩),
 (141,⟨true,3,none,jE,[(0,0),(1,0),(2,0)],some 56,some [(0,1),(1,1),(2,1)],false,none,none,none,false,none⟩),
 (142,⟨false,1,none,.bool,[],none,none,false,none,none,none,true,none⟩),
 (144,⟨false,1,none,.bool,[],none,none,false,none,none,none,true,none⟩),
 (150,⟨false,1,none,.bool,[],none,none,false,none,none,none,true,none⟩),
 (152,⟨false,1,none,.bool,[],none,none,false,none,none,none,true,none⟩),
 (167,⟨true,3,none,adN,[(0,0),(1,0),(2,0)],some 40,some [(0,1),(1,1),(2,1)],false,none,none,none,false,none⟩),
 (172,⟨true,4,none,A9,[(0,0),(1,0),(2,0),(3,0)],some 32,some [(0,1),(1,1),(2,1),(3,1)],false,some [some .i64,some .i64,some .i64,some .i64],none,none,false,none⟩),
 (181,⟨false,1,some 385,NC,[],some 24,none,false,none,none,none,false,none⟩),
 (183,⟨true,2,none,acr,[(0,0),(1,0)],some 48,some [(0,1),(1,1)],false,none,none,none,false,none⟩),
 (185,⟨true,4,none,abI,[(0,0),(1,0),(2,1)],some 64,some [(0,1),(1,1),(2,2)],false,none,none,none,false,none⟩),
 (191,⟨true,5,none,abJ,[(0,0),(1,3)],some 40,some [(0,1),(1,4)],false,none,none,none,false,none⟩),
 (199,⟨false,1,some 9,abK,[],some 24,none,false,none,none,none,false,none⟩),
 (214,⟨false,1,none,.bool,[],none,none,false,none,none,none,true,none⟩),
 (232,⟨false,1,none,aae,[],some 8,none,false,none,none,some (some .u64),false,none⟩),
 (257,⟨true,5,none,Ls,[(0,0),(1,0),(2,0),(3,0),(4,0)],some 72,some [(0,1),(1,1),(2,1),(3,1),(4,1)],false,none,none,none,false,none⟩),
 (291,⟨true,3,none,adp,[(0,0),(1,0),(2,0)],some 24,some [(0,1),(1,1),(2,1)],false,none,none,none,false,none⟩),
 (300,⟨true,3,none,adq,[(0,0),(1,0),(2,0)],some 24,some [(0,1),(1,1),(2,1)],false,none,none,none,false,none⟩),
 (302,⟨false,1,none,acu,[],some 8,none,false,none,none,none,false,some 337⟩),
 (305,⟨false,1,none,.bool,[],none,none,false,none,none,none,true,none⟩),
 (307,⟨false,1,none,.bool,[],none,none,false,none,none,none,true,none⟩),
 (326,⟨false,1,none,.bool,[],none,none,false,none,none,none,true,none⟩),
 (335,⟨false,1,some 302,abL,[],some 24,none,false,none,none,none,false,none⟩),
 (337,⟨true,5,none,adO,[(0,3),(4,0)],some 56,some [(0,4),(4,1)],false,none,none,none,false,none⟩),
 (341,⟨false,1,none,.bool,[],none,none,false,none,some ⟨3,3,.int,.int⟩,none,false,none⟩),
 (343,⟨false,1,none,.bool,[],none,none,false,none,none,none,true,none⟩),
 (363,⟨false,1,none,aaf,[],some 8,none,false,none,none,some (some .u64),false,none⟩),
 (385,⟨true,2,none,P0,[(0,0),(1,0)],some 16,some [(0,1),(1,1)],false,some [some .i64,some .i64],none,none,false,none⟩),
 (391,⟨false,1,none,aag,[],some 4,none,false,none,none,some (some .u32),false,none⟩),
 (396,⟨false,1,none,.bool,[],none,none,false,none,none,none,true,none⟩),
 (416,⟨false,1,some 421,adr,[],some 24,none,false,none,none,none,false,none⟩),
 (419,⟨true,2,none,Zb,[(0,0),(1,0)],some 16,some [(0,1),(1,1)],false,none,none,none,false,none⟩),
 (421,⟨true,4,none,aah,[(0,1),(2,0),(3,0)],some 32,some [(0,2),(2,1),(3,1)],false,none,none,none,false,none⟩),
 (425,⟨false,1,some 419,ads,[],some 24,none,false,none,none,none,false,none⟩)]
theorem Jz:TTok Tryz.prog tt:=⟨wL (n:=1) (z:=.int .i64 0) ⟨⟨_,Tryz.underlying3,rfl⟩,by kernel_rfl⟩ rfl (by unfold TZ;kernel_rfl) rfl (bA rfl) (fun h=>by cases h) (fun k h=>by obtain rfl:=ae h;exact Tryz.underlying3),
 wL (n:=1) (z:=.bool false) ⟨⟨_,Tryz.underlying4,rfl⟩,by kernel_rfl⟩ rfl (by unfold TZ;kernel_rfl) rfl (bA rfl) (fun h=>Tryz.underlying4) (fun k h=>by cases h),
 wL (n:=1) (z:=.int .u8 0) ⟨⟨_,Tryz.underlying5,rfl⟩,by kernel_rfl⟩ rfl (by unfold TZ;kernel_rfl) rfl (bA rfl) (fun h=>by cases h) (fun k h=>by obtain rfl:=ae h;exact Tryz.underlying5),
 wL (n:=1) (z:=.string ⟨#[]⟩) ⟨⟨_,Tryz.underlying9,rfl⟩,by kernel_rfl⟩ rfl (by unfold TZ;kernel_rfl) rfl (bA rfl) (fun h=>by cases h) (fun k h=>by obtain rfl:=ae h;exact Tryz.underlying9),
 tY ⟨⟨_,Tryz.underlying22,rfl⟩,by kernel_rfl⟩ Tryz.underlying22 (by unfold TZ;kernel_rfl),
 tY ⟨⟨_,Tryz.underlying24,rfl⟩,by kernel_rfl⟩ Tryz.underlying24 (by unfold TZ;kernel_rfl),
 qd (z:=.agg #[.int .i64 0,.slice none 0 0]) ⟨⟨_,Tryz.underlying26,rfl⟩,by kernel_rfl⟩ rfl ⟨⟨_,_,Tryz.underlying26,rfl,rfl,by kernel_rfl⟩,⟨_,_,Tryz.underlying26,rfl,rfl,by kernel_rfl⟩,trivial⟩ (by unfold TZ;kernel_rfl) rfl (bA rfl) ⟨_,Tryz.underlying26,by kernel_rfl⟩ (fun a h=>by cases h),
 tY ⟨⟨_,Tryz.underlying27,rfl⟩,by kernel_rfl⟩ Tryz.underlying27 (by unfold TZ;kernel_rfl),
 tY ⟨⟨_,Tryz.underlying28,rfl⟩,by kernel_rfl⟩ Tryz.underlying28 (by unfold TZ;kernel_rfl),
 qd (z:=.agg #[.slice none 0 0,.slice none 0 0]) ⟨⟨_,Tryz.underlying30,rfl⟩,by kernel_rfl⟩ rfl ⟨⟨_,_,Tryz.underlying30,rfl,rfl,by kernel_rfl⟩,⟨_,_,Tryz.underlying30,rfl,rfl,by kernel_rfl⟩,trivial⟩ (by unfold TZ;kernel_rfl) rfl (bA rfl) ⟨_,Tryz.underlying30,by kernel_rfl⟩ (fun a h=>by cases h),
 tY ⟨⟨_,Tryz.underlying31,rfl⟩,by kernel_rfl⟩ Tryz.underlying31 (by unfold TZ;kernel_rfl),
 qd (z:=.agg #[.int .i64 0,.slice none 0 0,.slice none 0 0,.slice none 0 0,.slice none 0 0,.string ⟨#[]⟩]) ⟨⟨_,Tryz.underlying33,rfl⟩,by kernel_rfl⟩ rfl ⟨⟨_,_,Tryz.underlying33,rfl,rfl,by kernel_rfl⟩,⟨_,_,Tryz.underlying33,rfl,rfl,by kernel_rfl⟩,⟨_,_,Tryz.underlying33,rfl,rfl,by kernel_rfl⟩,⟨_,_,Tryz.underlying33,rfl,rfl,by kernel_rfl⟩,trivial⟩ (by unfold TZ;kernel_rfl) rfl (bA rfl) ⟨_,Tryz.underlying33,by kernel_rfl⟩ (fun a h=>by cases h),
 tY ⟨⟨_,Tryz.underlying58,rfl⟩,by kernel_rfl⟩ Tryz.underlying58 (by unfold TZ;kernel_rfl),
 qd (z:=.agg #[.slice none 0 0]) ⟨⟨_,Tryz.underlying60,rfl⟩,by kernel_rfl⟩ rfl ⟨⟨_,_,Tryz.underlying60,rfl,rfl,by kernel_rfl⟩,trivial⟩ (by unfold TZ;kernel_rfl) rfl (bA rfl) ⟨_,Tryz.underlying60,by kernel_rfl⟩ (fun a h=>by cases h),
 tY ⟨⟨_,Tryz.underlying70,rfl⟩,by kernel_rfl⟩ Tryz.underlying70 (by unfold TZ;kernel_rfl),
 tY ⟨⟨_,Tryz.underlying71,rfl⟩,by kernel_rfl⟩ Tryz.underlying71 (by unfold TZ;kernel_rfl),
 qd (z:=.agg #[.slice none 0 0,.slice none 0 0]) ⟨⟨_,Tryz.underlying73,rfl⟩,by kernel_rfl⟩ rfl ⟨⟨_,_,Tryz.underlying73,rfl,rfl,by kernel_rfl⟩,⟨_,_,Tryz.underlying73,rfl,rfl,by kernel_rfl⟩,trivial⟩ (by unfold TZ;kernel_rfl) rfl (bA rfl) ⟨_,Tryz.underlying73,by kernel_rfl⟩ (fun a h=>by cases h),
 zw (ty:=.bool) (b:=8) ⟨⟨_,Tryz.underlying81,rfl⟩,by kernel_rfl⟩ rfl (by unfold TZ;kernel_rfl),
 tY ⟨⟨_,Tryz.underlying82,rfl⟩,by kernel_rfl⟩ Tryz.underlying82 (by unfold TZ;kernel_rfl),
 qd (z:=.agg #[.slice none 0 0]) ⟨⟨_,Tryz.underlying84,rfl⟩,by kernel_rfl⟩ rfl ⟨⟨_,_,Tryz.underlying84,rfl,rfl,by kernel_rfl⟩,trivial⟩ (by unfold TZ;kernel_rfl) rfl (bA rfl) ⟨_,Tryz.underlying84,by kernel_rfl⟩ (fun a h=>by cases h),
 zw (ty:=.bool) (b:=8) ⟨⟨_,Tryz.underlying86,rfl⟩,by kernel_rfl⟩ rfl (by unfold TZ;kernel_rfl),
 tY ⟨⟨_,Tryz.underlying87,rfl⟩,by kernel_rfl⟩ Tryz.underlying87 (by unfold TZ;kernel_rfl),
 qd (z:=.agg #[.int .i64 0,.int .i64 0,.int .i64 0]) ⟨⟨_,Tryz.underlying93,rfl⟩,by kernel_rfl⟩ rfl ⟨⟨_,_,Tryz.underlying93,rfl,rfl,by kernel_rfl⟩,⟨_,_,Tryz.underlying93,rfl,rfl,by kernel_rfl⟩,⟨_,_,Tryz.underlying93,rfl,rfl,by kernel_rfl⟩,trivial⟩ (by unfold TZ;kernel_rfl) rfl (bA rfl) ⟨_,Tryz.underlying93,by kernel_rfl⟩ (fun a h=>by obtain rfl:=ae h;exact fun w c f g d j i=>acv c g j f d i w),
 zw (ty:=.bool) (b:=8) ⟨⟨_,Tryz.underlying99,rfl⟩,by kernel_rfl⟩ rfl (by unfold TZ;kernel_rfl),
 qd (z:=.agg #[.int .i64 0,.int .i64 0,.int .i64 0,.int .i64 0]) ⟨⟨_,Tryz.underlying124,rfl⟩,by kernel_rfl⟩ rfl ⟨⟨_,_,Tryz.underlying124,rfl,rfl,by kernel_rfl⟩,⟨_,_,Tryz.underlying124,rfl,rfl,by kernel_rfl⟩,⟨_,_,Tryz.underlying124,rfl,rfl,by kernel_rfl⟩,⟨_,_,Tryz.underlying124,rfl,rfl,by kernel_rfl⟩,trivial⟩ (by unfold TZ;kernel_rfl) rfl (bA rfl) ⟨_,Tryz.underlying124,by kernel_rfl⟩ (fun a h=>by obtain rfl:=ae h;exact fun w c f g d j i o l=>aai c g j o f d i l w),
 qd (z:=.agg #[.int .i64 0,.slice none 0 0,.int .i64 0]) ⟨⟨_,Tryz.underlying126,rfl⟩,by kernel_rfl⟩ rfl ⟨⟨_,_,Tryz.underlying126,rfl,rfl,by kernel_rfl⟩,⟨_,_,Tryz.underlying126,rfl,rfl,by kernel_rfl⟩,⟨_,_,Tryz.underlying126,rfl,rfl,by kernel_rfl⟩,trivial⟩ (by unfold TZ;kernel_rfl) rfl (bA rfl) ⟨_,Tryz.underlying126,by kernel_rfl⟩ (fun a h=>by cases h),
 tY ⟨⟨_,Tryz.underlying138,rfl⟩,by kernel_rfl⟩ Tryz.underlying138 (by unfold TZ;kernel_rfl),
 tY ⟨⟨_,Tryz.underlying139,rfl⟩,by kernel_rfl⟩ Tryz.underlying139 (by unfold TZ;kernel_rfl),
 qd (z:=.agg #[.int .i64 0,.slice none 0 0,.slice none 0 0]) ⟨⟨_,Tryz.underlying141,rfl⟩,by kernel_rfl⟩ rfl ⟨⟨_,_,Tryz.underlying141,rfl,rfl,by kernel_rfl⟩,⟨_,_,Tryz.underlying141,rfl,rfl,by kernel_rfl⟩,⟨_,_,Tryz.underlying141,rfl,rfl,by kernel_rfl⟩,trivial⟩ (by unfold TZ;kernel_rfl) rfl (bA rfl) ⟨_,Tryz.underlying141,by kernel_rfl⟩ (fun a h=>by cases h),
 zw (ty:=.bool) (b:=8) ⟨⟨_,Tryz.underlying142,rfl⟩,by kernel_rfl⟩ rfl (by unfold TZ;kernel_rfl),
 zw (ty:=.bool) (b:=8) ⟨⟨_,Tryz.underlying144,rfl⟩,by kernel_rfl⟩ rfl (by unfold TZ;kernel_rfl),
 zw (ty:=.bool) (b:=8) ⟨⟨_,Tryz.underlying150,rfl⟩,by kernel_rfl⟩ rfl (by unfold TZ;kernel_rfl),
 zw (ty:=.bool) (b:=8) ⟨⟨_,Tryz.underlying152,rfl⟩,by kernel_rfl⟩ rfl (by unfold TZ;kernel_rfl),
 qd (z:=.agg #[.slice none 0 0,.int .i64 0,.int .i64 0]) ⟨⟨_,Tryz.underlying167,rfl⟩,by kernel_rfl⟩ rfl ⟨⟨_,_,Tryz.underlying167,rfl,rfl,by kernel_rfl⟩,⟨_,_,Tryz.underlying167,rfl,rfl,by kernel_rfl⟩,⟨_,_,Tryz.underlying167,rfl,rfl,by kernel_rfl⟩,trivial⟩ (by unfold TZ;kernel_rfl) rfl (bA rfl) ⟨_,Tryz.underlying167,by kernel_rfl⟩ (fun a h=>by cases h),
 qd (z:=.agg #[.int .i64 0,.int .i64 0,.int .i64 0,.int .i64 0]) ⟨⟨_,Tryz.underlying172,rfl⟩,by kernel_rfl⟩ rfl ⟨⟨_,_,Tryz.underlying172,rfl,rfl,by kernel_rfl⟩,⟨_,_,Tryz.underlying172,rfl,rfl,by kernel_rfl⟩,⟨_,_,Tryz.underlying172,rfl,rfl,by kernel_rfl⟩,⟨_,_,Tryz.underlying172,rfl,rfl,by kernel_rfl⟩,trivial⟩ (by unfold TZ;kernel_rfl) rfl (bA rfl) ⟨_,Tryz.underlying172,by kernel_rfl⟩ (fun a h=>by obtain rfl:=ae h;exact fun w c f g d j i o l=>aaj c g j o f d i l w),
 tY ⟨⟨_,Tryz.underlying181,rfl⟩,by kernel_rfl⟩ Tryz.underlying181 (by unfold TZ;kernel_rfl),
 qd (z:=.agg #[.slice none 0 0,.slice none 0 0]) ⟨⟨_,Tryz.underlying183,rfl⟩,by kernel_rfl⟩ rfl ⟨⟨_,_,Tryz.underlying183,rfl,rfl,by kernel_rfl⟩,⟨_,_,Tryz.underlying183,rfl,rfl,by kernel_rfl⟩,trivial⟩ (by unfold TZ;kernel_rfl) rfl (bA rfl) ⟨_,Tryz.underlying183,by kernel_rfl⟩ (fun a h=>by cases h),
 qd (z:=.agg #[.int .i64 0,.bool false,.slice none 0 0,.slice none 0 0]) ⟨⟨_,Tryz.underlying185,rfl⟩,by kernel_rfl⟩ rfl ⟨⟨_,_,Tryz.underlying185,rfl,rfl,by kernel_rfl⟩,⟨_,_,Tryz.underlying185,rfl,rfl,by kernel_rfl⟩,⟨_,_,Tryz.underlying185,rfl,rfl,by kernel_rfl⟩,trivial⟩ (by unfold TZ;kernel_rfl) rfl (bA rfl) ⟨_,Tryz.underlying185,by kernel_rfl⟩ (fun a h=>by cases h),
 qd (z:=.agg #[.bool false,.int .i64 0,.int .i64 0,.int .i64 0,.int .i64 0]) ⟨⟨_,Tryz.underlying191,rfl⟩,by kernel_rfl⟩ rfl ⟨⟨_,_,Tryz.underlying191,rfl,rfl,by kernel_rfl⟩,⟨_,_,Tryz.underlying191,rfl,rfl,by kernel_rfl⟩,trivial⟩ (by unfold TZ;kernel_rfl) rfl (bA rfl) ⟨_,Tryz.underlying191,by kernel_rfl⟩ (fun a h=>by cases h),
 tY ⟨⟨_,Tryz.underlying199,rfl⟩,by kernel_rfl⟩ Tryz.underlying199 (by unfold TZ;kernel_rfl),
 zw (ty:=.bool) (b:=8) ⟨⟨_,Tryz.underlying214,rfl⟩,by kernel_rfl⟩ rfl (by unfold TZ;kernel_rfl),
 wL (n:=1) (z:=.int .u64 0) ⟨⟨_,Tryz.underlying232,rfl⟩,by kernel_rfl⟩ rfl (by unfold TZ;kernel_rfl) rfl (bA rfl) (fun h=>by cases h) (fun k h=>by obtain rfl:=ae h;exact Tryz.underlying232),
 qd (z:=.agg #[.slice none 0 0,.int .i64 0,.int .i64 0,.slice none 0 0,.bool false]) ⟨⟨_,Tryz.underlying257,rfl⟩,by kernel_rfl⟩ rfl ⟨⟨_,_,Tryz.underlying257,rfl,rfl,by kernel_rfl⟩,⟨_,_,Tryz.underlying257,rfl,rfl,by kernel_rfl⟩,⟨_,_,Tryz.underlying257,rfl,rfl,by kernel_rfl⟩,⟨_,_,Tryz.underlying257,rfl,rfl,by kernel_rfl⟩,⟨_,_,Tryz.underlying257,rfl,rfl,by kernel_rfl⟩,trivial⟩ (by unfold TZ;kernel_rfl) rfl (bA rfl) ⟨_,Tryz.underlying257,by kernel_rfl⟩ (fun a h=>by cases h),
 qd (z:=.agg #[.bool false,.int .i64 0,.int .i64 0]) ⟨⟨_,Tryz.underlying291,rfl⟩,by kernel_rfl⟩ rfl ⟨⟨_,_,Tryz.underlying291,rfl,rfl,by kernel_rfl⟩,⟨_,_,Tryz.underlying291,rfl,rfl,by kernel_rfl⟩,⟨_,_,Tryz.underlying291,rfl,rfl,by kernel_rfl⟩,trivial⟩ (by unfold TZ;kernel_rfl) rfl (bA rfl) ⟨_,Tryz.underlying291,by kernel_rfl⟩ (fun a h=>by cases h),
 qd (z:=.agg #[.int .i64 0,.int .i64 0,.bool false]) ⟨⟨_,Tryz.underlying300,rfl⟩,by kernel_rfl⟩ rfl ⟨⟨_,_,Tryz.underlying300,rfl,rfl,by kernel_rfl⟩,⟨_,_,Tryz.underlying300,rfl,rfl,by kernel_rfl⟩,⟨_,_,Tryz.underlying300,rfl,rfl,by kernel_rfl⟩,trivial⟩ (by unfold TZ;kernel_rfl) rfl (bA rfl) ⟨_,Tryz.underlying300,by kernel_rfl⟩ (fun a h=>by cases h),
 aco (e:=337) (E:=302) (u:=A9) ⟨⟨_,Tryz.underlying302,rfl⟩,by kernel_rfl⟩ Tryz.underlying302 (by unfold TZ;kernel_rfl),
 zw (ty:=.bool) (b:=8) ⟨⟨_,Tryz.underlying305,rfl⟩,by kernel_rfl⟩ rfl (by unfold TZ;kernel_rfl),
 zw (ty:=.bool) (b:=8) ⟨⟨_,Tryz.underlying307,rfl⟩,by kernel_rfl⟩ rfl (by unfold TZ;kernel_rfl),
 zw (ty:=.bool) (b:=8) ⟨⟨_,Tryz.underlying326,rfl⟩,by kernel_rfl⟩ rfl (by unfold TZ;kernel_rfl),
 tY ⟨⟨_,Tryz.underlying335,rfl⟩,by kernel_rfl⟩ Tryz.underlying335 (by unfold TZ;kernel_rfl),
 qd (z:=.agg #[.int .i64 0,.int .i64 0,.int .i64 0,.int .i64 0,.slice none 0 0]) ⟨⟨_,Tryz.underlying337,rfl⟩,by kernel_rfl⟩ rfl ⟨⟨_,_,Tryz.underlying337,rfl,rfl,by kernel_rfl⟩,⟨_,_,Tryz.underlying337,rfl,rfl,by kernel_rfl⟩,trivial⟩ (by unfold TZ;kernel_rfl) rfl (bA rfl) ⟨_,Tryz.underlying337,by kernel_rfl⟩ (fun a h=>by cases h),
 acn (m:=⟨3,3,.int,.int⟩) (ty:=.bool) ⟨⟨_,Tryz.underlying341,rfl⟩,by kernel_rfl⟩ rfl ⟨Tryz.underlying341,kk3,ek3⟩,
 zw (ty:=.bool) (b:=8) ⟨⟨_,Tryz.underlying343,rfl⟩,by kernel_rfl⟩ rfl (by unfold TZ;kernel_rfl),
 wL (n:=1) (z:=.int .u64 0) ⟨⟨_,Tryz.underlying363,rfl⟩,by kernel_rfl⟩ rfl (by unfold TZ;kernel_rfl) rfl (bA rfl) (fun h=>by cases h) (fun k h=>by obtain rfl:=ae h;exact Tryz.underlying363),
 qd (z:=.agg #[.int .i64 0,.int .i64 0]) ⟨⟨_,Tryz.underlying385,rfl⟩,by kernel_rfl⟩ rfl ⟨⟨_,_,Tryz.underlying385,rfl,rfl,by kernel_rfl⟩,⟨_,_,Tryz.underlying385,rfl,rfl,by kernel_rfl⟩,trivial⟩ (by unfold TZ;kernel_rfl) rfl (bA rfl) ⟨_,Tryz.underlying385,by kernel_rfl⟩ (fun a h=>by obtain rfl:=ae h;exact fun w c f g d=>aak c g f d w),
 wL (n:=1) (z:=.int .u32 0) ⟨⟨_,Tryz.underlying391,rfl⟩,by kernel_rfl⟩ rfl (by unfold TZ;kernel_rfl) rfl (bA rfl) (fun h=>by cases h) (fun k h=>by obtain rfl:=ae h;exact Tryz.underlying391),
 zw (ty:=.bool) (b:=8) ⟨⟨_,Tryz.underlying396,rfl⟩,by kernel_rfl⟩ rfl (by unfold TZ;kernel_rfl),
 tY ⟨⟨_,Tryz.underlying416,rfl⟩,by kernel_rfl⟩ Tryz.underlying416 (by unfold TZ;kernel_rfl),
 qd (z:=.agg #[.int .i64 0,.bool false]) ⟨⟨_,Tryz.underlying419,rfl⟩,by kernel_rfl⟩ rfl ⟨⟨_,_,Tryz.underlying419,rfl,rfl,by kernel_rfl⟩,⟨_,_,Tryz.underlying419,rfl,rfl,by kernel_rfl⟩,trivial⟩ (by unfold TZ;kernel_rfl) rfl (bA rfl) ⟨_,Tryz.underlying419,by kernel_rfl⟩ (fun a h=>by cases h),
 qd (z:=.agg #[.int .i64 0,.bool false,.int .i64 0,.int .i64 0]) ⟨⟨_,Tryz.underlying421,rfl⟩,by kernel_rfl⟩ rfl ⟨⟨_,_,Tryz.underlying421,rfl,rfl,by kernel_rfl⟩,⟨_,_,Tryz.underlying421,rfl,rfl,by kernel_rfl⟩,⟨_,_,Tryz.underlying421,rfl,rfl,by kernel_rfl⟩,trivial⟩ (by unfold TZ;kernel_rfl) rfl (bA rfl) ⟨_,Tryz.underlying421,by kernel_rfl⟩ (fun a h=>by cases h),
 tY ⟨⟨_,Tryz.underlying425,rfl⟩,by kernel_rfl⟩ Tryz.underlying425 (by unfold TZ;kernel_rfl),trivial⟩
theorem mixed:Tryz.prog.follows .mixedOrders=true:=by kernel_rfl
def Vr (fn:Func):Code:=match fn.body with
 | some c=>c
 | none=>.skip
theorem fk {k:FuncId} {fn:Func} {f:FS} (ft:FT) (hF:FTok Tryz.prog ft) (hf:Tryz.prog.funcs[k]? =some fn) (ann:Ann) (an:List (Nat×Ty):=[]) (tr:Trs:=[]) (hb:fn.body=some (Vr fn):=by rfl) (he:(fn.name == "runtime.NumGoroutine")=false:=by kernel_rfl) (hcl:f.cl=none:=by rfl) (hm:Nat.ble f.ps.length fn.ntmps=true:=by rfl) (hdp:(Hn f.rs&&zb f.ps)=true:=by rfl)
  (hmod: ∀d,appP f.ps f.m d=lQ ⟨tt,ft,an,fn.ntmps,tr⟩ (PQ ⟨tt,ft,an,fn.ntmps,tr⟩ fn.results.toList f.rs f.ps d) (Vr fn) ann (fun r=>some r) (fun _ _=>none) (PQ ⟨tt,ft,an,fn.ntmps,tr⟩ fn.results.toList f.rs f.ps d) (tw (BY f.ps d)):=by intro d;kernel_rfl):FOk Tryz.prog k f:=
 fok (V:=⟨tt,ft,an,fn.ntmps,tr⟩) Jz hF mixed hf hb rfl (enters_of hf he hb) hcl (bA hm) hdp ann hmod
def P1:FS:=⟨[.rd y22],[y4],Jy,none⟩
def iQ:FS:=⟨[.rd y3,.rd y3,.rd y3],[y4],cy,none⟩
def zz:FS:=⟨[.rd y73,.rd vp],[y4],u9,none⟩
def eW:FS:=⟨[.rd y73],[y4],bI,none⟩
def tZ:FS:=⟨[.rd y70,.rd y70],[y3],nT,none⟩
def cF:FS:=⟨[.rd y26],[y4],m_s_IsValidHistory,none⟩
def vq:FS:=⟨[.rd y58],[y60],fR,none⟩
def ua:FS:=⟨[.rd y3],[y4],nU,none⟩
def wQ:FS:=⟨[.rd A9],[y3],pw,none⟩
def Ea:FS:=⟨[.rd y60],[y4],vc,none⟩
def pH:FS:=⟨[.rd y60],[y4],jK,none⟩
def sB:FS:=⟨[.rd y58],[y3],jL,none⟩
def sC (n:Nat):FS:=⟨[.rd y58],[y3],fu n,none⟩
def vr:FS:=⟨[.rd y60,.rd y60,.rd A9],[y60],fm,none⟩
def zA:FS:=⟨[.rd y3],[y60],rk,none⟩
def qp (n:Nat):FS:=⟨[.rd y60,.rd y3,.rd y3],[y60],nV n,none⟩
def oT (n:Nat):FS:=⟨[.rd y58],[y60],dD n,none⟩
def vN:FS:=⟨[.rd y60],[y60,y4],jc,none⟩
def B4:FS:=⟨[.ptr 257 Ls,.rd y3,.rd y3],[],px,none⟩
def qq (n:Nat):FS:=⟨[.ptr 257 Ls,.rd y58],[adp],cG n,none⟩
def mE:FS:=⟨[.rd y60],[Ls,y4],dE,none⟩
def Ag:FS:=⟨[.rd Ls,.rd y3,.rd y3],[y3],qm,none⟩
def wR:FS:=⟨[.rd y70,.rd y3],[y3],py,none⟩
def vO:FS:=⟨[.rd Ls,.rd y3],[y4],nD,none⟩
def qU:FS:=⟨[.rd Ls,.rd y3],[jE,y4],fj,none⟩
def vP:FS:=⟨[],[jE],qS,none⟩
def xW:FS:=⟨[.rd jE,.rd y70,.rd TK],[jE],kz,none⟩
def wS:FS:=⟨[.rd jE],[TK],na,none⟩
def Eb:FS:=⟨[.rd jE,.rd y70,.rd y3],[y70],rl,none⟩
def vQ:FS:=⟨[.rd jE],[y70],kO,none⟩
def ub:FS:=⟨[.rd jE],[jE],gY,none⟩
def uc:FS:=⟨[.rd y60],[jE,y4],m_s_CompileExpr,none⟩
def nh:FS:=⟨[.rd jE,.rd jE],[y4],gZ,none⟩
def Ah:FS:=⟨[.rd y27,.rd jE],[y3],ga,none⟩
def ud:FS:=⟨[.rd y28],[y30,y4],cH,none⟩
def vR:FS:=⟨[.rd y60,.rd y60],[y4],qT,none⟩
def pI:FS:=⟨[.rd y30,.rd y30],[y4],iI,none⟩
def fF:FS:=⟨[.rd y30],[y4],m_s_IsValidRegistry,none⟩
def bu:FS:=⟨[.rd y26],[y3],aF,none⟩
def kF:FS:=⟨[.rd y30,.rd y3],[y3],cD,none⟩
def B5:FS:=⟨[.rd y33],[y4],si,none⟩
def mF:FS:=⟨[.rd y3],[y9],cr,none⟩
def lz:FS:=⟨[.rd y3],[y9],fS,none⟩
def qV:FS:=⟨[.rd vp],[y9],kP,none⟩
def pJ:FS:=⟨[.rd y84],[y9],dF,none⟩
def Ai:FS:=⟨[.rd y9],[y3],iB,none⟩
def lA:FS:=⟨[.rd y3,.rd y84],[y9],di,none⟩
def ue:FS:=⟨[.rd y9,.rd y5],[abK],hY,none⟩
def uf:FS:=⟨[.rd y9],[y3,y4],iC,none⟩
def pK:FS:=⟨[.rd y9],[y3,y4],hZ,none⟩
def xX:FS:=⟨[.rd y9],[vp,y4],iJ,none⟩
def vS:FS:=⟨[.rd y9],[y84,y4],gD,none⟩
def sX:FS:=⟨[.rd y9],[y3,y84,y4],fT,none⟩
def pL:FS:=⟨[.rd y9],[y70,.sl 84 (.bag y84),y3],m_s_ScanLog,none⟩
def Ec:FS:=⟨[.rd y33],[y4],vd,none⟩
def cC:FS:=⟨[.rd y33],[y4],bh,none⟩
def kG:FS:=⟨[.rd y73],[y73],cn,none⟩
def rv:FS:=⟨[.rd y26],[y26],kB,none⟩
def wT:FS:=⟨[.rd jE],[jE],pz,none⟩
def wU:FS:=⟨[.rd y30],[y30],lI,none⟩
def j8:FS:=⟨[.rd y33],[y33],gE,none⟩
def mG:FS:=⟨[.rd y73,.rd y3],[y3],cM,none⟩
def vT:FS:=⟨[.rd y73,.rd vp],[y73,y4],jd,none⟩
def vU:FS:=⟨[.rd y73,.rd y3],[y73,y4],je,none⟩
def wV:FS:=⟨[.rd y73,.rd y84],[y73,y4],dU,none⟩
def vV:FS:=⟨[.rd y73,.rd y84],[y73,y4],gF,none⟩
def mH:FS:=⟨[.rd y26,.rd y84],[y26,y4],bM,none⟩
def mI:FS:=⟨[.rd y33,.rd y84],[y33,y4],bV,none⟩
def H4:FS:=⟨[.rd y22],[.int .i64,.int .i64],xS,some (167,9)⟩
def vt:FS:=⟨[.crs 167 5],[y3],jf,none⟩
def cf:FS:=⟨[.crs 167 5,.rd y3],[y3],aK,none⟩
def fh:FS:=⟨[.crs 167 5,.rd y70],[y3],bW,none⟩
def ni:FS:=⟨[.rd y30,.rd y3,.rd y60],[y30,y4],ic,none⟩
def qu:FS:=⟨[.rd y33,.rd y3,.rd y60],[y33,y4],gf,none⟩
def wW:FS:=⟨[.rd y31,.rd y3],[y3],pA,none⟩
def pM:FS:=⟨[.rd y33,.rd y3,.rd y3],[y33,y4],fv,none⟩
def lT:FS:=⟨[.crs 167 5,.rd y3],[y4],cA,none⟩
def Ed:FS:=⟨[.crs 167 5,.rd y73],[vp],rm,none⟩
def sD:FS:=⟨[.crs 167 5,.rd y73,.rd y3],[y84],iK,none⟩
def sE:FS:=⟨[.crs 167 5],[y73],jP,none⟩
def qW:FS:=⟨[.rd y73,.rd y3],[y26,y4],gH,none⟩
def xY:FS:=⟨[.rd y73],[y33,y4],oO,none⟩
def B6:FS:=⟨[.rd A9],[y9],B2,none⟩
def Ee:FS:=⟨[.rd y9],[A9],D9,none⟩
def xZ:FS:=⟨[.rd y9],[y60,y4],kC,none⟩
def Ef:FS:=⟨[.crs 167 5,.rd abK],[y9],ve,none⟩
def sF:FS:=⟨[.crs 167 5],[y60],nf,none⟩
def B7:FS:=⟨[.rd y26,.rd y30,.rd y93],[y4],pB,none⟩
def B8:FS:=⟨[.rd y26,.rd y3],[y73,y4],jQ,none⟩
def qv:FS:=⟨[.rd y30,.rd y3],[jE,y4],jo,none⟩
def B9:FS:=⟨[.rd jE],[y4],pC,none⟩
def oF:FS:=⟨[.rd jE],[y4],gP,none⟩
def Ca:FS:=⟨[.rd y73,.rd jE,.rd y3,.rd y3],[y4],sj,none⟩
def qX:FS:=⟨[.rd jE,.rd y3,.rd y3],[y3],dC,none⟩
def Eg:FS:=⟨[.rd y73,.rd y3],[ads],rp,none⟩
def ya:FS:=⟨[.rd vp,.rd y4],[y3],iL,none⟩
def H5:FS:=⟨[.rd vp,.rd y4],[y3],pD,none⟩
def Aj:FS:=⟨[.rd y73,.rd jE,.rd y3,.rd y3],[adr],nW,none⟩
def Ak:FS:=⟨[.rd y73,.rd jE,.rd y3],[y70],nX,none⟩
def vW:FS:=⟨[.rd y73,.rd jE,.rd y3,.rd y3],[y4],kT,none⟩
def H6:FS:=⟨[.rd y3],[y70],xT,none⟩
def Cb:FS:=⟨[.rd y73,.rd jE,.rd y3],[y70],sk,none⟩
def vX:FS:=⟨[.rd y73,.rd jE],[NC],nI,none⟩
def sY:FS:=⟨[.rd y30,.rd y73,.rd y3],[NC,y4],dL,none⟩
def Eh:FS:=⟨[.rd NC,.rd P0],[y4],vf,none⟩
def Cc:FS:=⟨[.rd P0,.rd P0],[y4],so,none⟩
def Ei:FS:=⟨[.eat (.sl 385 P0),.rd P0],[NC],vh,none⟩
def ry:FS:=⟨[.rd NC,.rd NC],[NC],il,none⟩
def sZ:FS:=⟨[.rd NC,.rd NC],[acr],lj,none⟩
def vY:FS:=⟨[.rd y26,.rd y30,.rd y93,.rd y3],[abI],kV,none⟩
def ug:FS:=⟨[.rd y26,.rd y30,.rd y93],[abI,y93,y4],mo,none⟩
def vZ:FS:=⟨[.rd y33,.rd y3],[y33,abI,y4],kW,none⟩
def mJ:FS:=⟨[.rd y26,.rd y3],[y26,y4],gg,none⟩
def Ej:FS:=⟨[.rd y9,.rd y3],[y9],vi,none⟩
def rz:FS:=⟨[.rd y33,.rd y3],[y33,y4],im,none⟩
def sG:FS:=⟨[.crs 167 5],[y33],mr,none⟩
def uh:FS:=⟨[.crs 167 5],[y30],mu,none⟩
def v7:FS:=⟨[.rd y3],[y60],vM,none⟩
def vu (n:Nat):FS:=⟨[.crs 167 5,.rd y3],[y60],eR n,none⟩
def Ek:FS:=⟨[.crs 167 5],[y60],vj,none⟩
def yc:FS:=⟨[.crs 167 5],[jE],mw,none⟩
def El:FS:=⟨[.crs 167 5],[jE],vk,none⟩
def Em:FS:=⟨[.crs 167 5],[y30],vl,none⟩
def H7:FS:=⟨[.crs 167 5],[y73],xU,none⟩
def yd:FS:=⟨[.crs 167 5],[y26],oR,none⟩
def H8:FS:=⟨[.crs 167 5],[y26],xV,none⟩
def En:FS:=⟨[.crs 167 5],[y33],rq,none⟩
def oG:FS:=⟨[.rd y33],[y33,y4],gR,none⟩
def Eo:FS:=⟨[.crs 167 5,.rd y3],[y9],vm,none⟩
def Cd:FS:=⟨[.crs 167 5,.rd y9],[y9],sp,none⟩
def Ce:FS:=⟨[.rd y22],[y33,y9],wN,none⟩
def oc:FS:=⟨[.rd y22],[y33,y9],gi,none⟩
def kH:FS:=⟨[.rd y3,.rd y3,.rd y3],[y4],cO,none⟩
def vv:FS:=⟨[.rd vp,.rd y3],[y4],jj,none⟩
def iX:FS:=⟨[.rd y73],[y4],bR,none⟩
def cX:FS:=⟨[.rd y70,.rd y70],[y4],cq,none⟩
def mK:FS:=⟨[.rd y26],[y4],m_i_IsValidHistory,none⟩
def fp:FS:=⟨[.rd y26],[y3],bS,none⟩
def bQ:FS:=⟨[.rd y27,.rd y27,.fn [jE,jE] [y4]],[y4],ba,none⟩
def jw:FS:=⟨[.rd TK,.rd TK],[y4],fc,none⟩
def c7:FS:=⟨[.rd aad,.rd aad,.fn [y70,y70] [y4]],[y4],bX,none⟩
def pN:FS:=⟨[.rd y70,.rd y70],[y4],iM,none⟩
def nj:FS:=⟨[.rd jE,.rd jE],[y4],fo,none⟩
def bK:FS:=⟨[.rd y28,.rd y28,.fn [xn,xn] [y4]],[y4],a7,none⟩
def iF:FS:=⟨[.rd y58,.rd y58],[y4],eH,none⟩
def v8:FS:=⟨[.rd y60,.rd y60],[y4],nJ,none⟩
def ta:FS:=⟨[.rd xn,.rd xn],[y4],iW,none⟩
def lJ:FS:=⟨[.rd y30,.rd y30],[y4],fx,none⟩
def ui:FS:=⟨[.rd y60],[y60],iD,none⟩
def uj:FS:=⟨[.rd y3],[y4],lR,none⟩
def Cf:FS:=⟨[.rd A9],[y4],su,none⟩
def bT:FS:=⟨[.rd abL],[abL],fun _=>none,some (302,8)⟩
def vx:FS:=⟨[.rd y60],[t302],o9,none⟩
def Ep:FS:=⟨[.rd y60],[y4],vn,none⟩
def uk:FS:=⟨[.rd y60],[y4],my,none⟩
def nP (n:Nat):FS:=⟨[.rd t302],[y3],de n,none⟩
def Lt:FS:=⟨[.rd y3],[t302],FL,none⟩
def qw (n:Nat):FS:=⟨[.eat t302,.rd y3,.rd y3],[t302],nZ n,none⟩
def mL (n:Nat):FS:=⟨[.rd t302],[t302],cJ n,none⟩
def lB (n:Nat):FS:=⟨[.rd t302,.ptr 60 y60],[],cx n,none⟩
def ye:FS:=⟨[.rd t302],[y60],sA,none⟩
def wc:FS:=⟨[.rd y60],[y60,y4],nK,none⟩
def oH:FS:=⟨[.ptr 257 Ls,.rd y3,.rd y3],[],eY,none⟩
def iR (n:Nat):FS:=⟨[.ptr 257 Ls,.rd t302],[adq],bN n,none⟩
def qx:FS:=⟨[.rd y60],[Ls,y4],jr,none⟩
def ot:FS:=⟨[.rd y3,.rd y3,.fn [y3] [y4],.fn [y3,y3] [y3,y4]],[jE,y4],fX,none⟩
def od:FS:=⟨[.rd Ls,.rd y3],[y4],eJ,none⟩
def pO:FS:=⟨[.rd Ls,.rd y3,.rd y3],[y3],iN,none⟩
def rA:FS:=⟨[.rd y3,.rd y3,.cap 257 Ls],[y3,y4],dY,none⟩
def um:FS:=⟨[.rd Ls,.rd y3],[jE,y4],jX,none⟩
def bZ:FS:=⟨[.rd TK],[TK],fun _=>none,some (4,1)⟩
def qy:FS:=⟨[.rd jE],[TK],gk,none⟩
def fN:FS:=⟨[.rd aad,.fn [y70] [y4]],[y3],cz,none⟩
def mU:FS:=⟨[.rd y70,.cap 70 y70],[y4],jl,none⟩
def oJ:FS:=⟨[.rd jE,.rd y70],[y70,y3],eZ,none⟩
def oe:FS:=⟨[.rd jE],[y70],eM,none⟩
def pP:FS:=⟨[.rd aag,.rd aag],[aag,aag],wO,none⟩
def pQ:FS:=⟨[.rd aaf,.rd aaf],[aaf,aaf],pE,none⟩
def rB:FS:=⟨[.rd aae,.rd aae],[aae,aae],rr,none⟩
def j9:FS:=⟨[.rd y70,.rd y3],[y70],jZ,none⟩
def Cg:FS:=⟨[],[jE],wP,none⟩
def kJ:FS:=⟨[.rd y70,.rd y3],[y3],fQ,none⟩
def lU:FS:=⟨[.rd y3,.cap 70 y70],[y3],bf,none⟩
def lV:FS:=⟨[.rd y3,.cap 141 jE,.capf 343 [y3] [y3]],[y4],dw,none⟩
def qz:FS:=⟨[.rd jE,.rd y3,.rd y3],[y3],gl,none⟩
def lW:FS:=⟨[.rd y3,.rd y3,.cap 141 jE,.capf 343 [y3] [y3],.cap 70 y70],[y3,y4],dx,none⟩
def mV:FS:=⟨[.rd jE],[jE],db,none⟩
def H9:FS:=⟨[.rd jE],[jE,y4],B3,none⟩
def uo:FS:=⟨[.rd y60],[jE,y4],j3,none⟩
def dM:FS:=⟨[.rd y27,.fn [jE] [y4]],[y3],bJ,none⟩
def Al:FS:=⟨[.rd jE,.cap 141 jE],[y4],n8,none⟩
def Er:FS:=⟨[.rd y28],[y30,y4],vo,none⟩
def pR:FS:=⟨[.rd y30],[y4],dZ,none⟩
def dA:FS:=⟨[.rd y28,.fn [xn] [y4]],[y3],cm,none⟩
def uq:FS:=⟨[.rd xn,.cap 3 y3],[y4],mA,none⟩
def yf:FS:=⟨[.rd y30,.rd y3],[y3],mB,none⟩
def oh:FS:=⟨[.rd y9,.rd y5],[.int .i64],gm,none⟩
def tc:FS:=⟨[.rd y3],[.str],oq,none⟩
def sH:FS:=⟨[.rd y3],[y9],eC,none⟩
def qY:FS:=⟨[.rd vp],[y9],kX,none⟩
def tf:FS:=⟨[.rd abK,.rd y9],[.str],lq,none⟩
def pS:FS:=⟨[.rd y84],[y9],fA,none⟩
def Am:FS:=⟨[.rd y9],[y3],lS,none⟩
def ou:FS:=⟨[.rd y3,.rd y84],[y9],fY,none⟩
def nl:FS:=⟨[.rd y9,.rd y9],[.sl 9 .str],dy,none⟩
def ur:FS:=⟨[.rd y9],[.int .i64,.bool],iE,none⟩
def uu:FS:=⟨[.rd y9,.rd y9],[.str,.str,.bool],dI,none⟩
def yg:FS:=⟨[.rd y9],[vp,y4],iO,none⟩
def we:FS:=⟨[.rd y9],[y84,y4],gI,none⟩
def tg:FS:=⟨[.rd y9],[y3,y84,y4],lr,none⟩
def wX:FS:=⟨[.rd y9],[y70,.sl 84 (.bag y84),y3],m_i_ScanLog,none⟩
def iw:FS:=⟨[.rd y33],[y4],cQ,none⟩
def uv:FS:=⟨[.rd y70],[y70],n9,none⟩
def mM:FS:=⟨[.rd y73],[y73],ff,none⟩
def pT:FS:=⟨[.rd y26],[y26],j4,none⟩
def rC:FS:=⟨[.rd jE],[jE],kE,none⟩
def th:FS:=⟨[.rd y30],[y30],lu,none⟩
def qZ:FS:=⟨[.rd y33],[y33],kY,none⟩
def lK:FS:=⟨[.ptr 33 y33],[y3],fD,none⟩
def gL:FS:=⟨[.rd y71,.fn [vp] [y4]],[y3],dN,none⟩
def uw:FS:=⟨[.rd vp,.cap 3 y3],[y4],pG,none⟩
def sI:FS:=⟨[.rd y73,.rd y3],[y3],mC,none⟩
def iY:FS:=⟨[.eat (.sl 124 vp),.rd y3,.ow (.sl 124 vp)],[.sl 124 vp],dk,none⟩
def wg:FS:=⟨[.rd y73,.rd vp],[y73,y4],nL,none⟩
def jx:FS:=⟨[.rd y71,.rd vp],[y3],fg,none⟩
def ix:FS:=⟨[.rd y71,.rd vp],[y4],cR,none⟩
def iZ:FS:=⟨[.eat (.sl 124 vp),.rd y3,.rd y3],[.sl 124 vp],dm,none⟩
def wh:FS:=⟨[.rd y73,.rd y3],[y73,y4],nM,none⟩
def wi:FS:=⟨[.rd y73,.rd y84],[y73,y4],kZ,none⟩
def uy:FS:=⟨[.rd y26,.rd y84],[y26,y4],j5,none⟩
def uz:FS:=⟨[.rd y33,.rd y84],[y33,y4],j6,none⟩
def lL:FS:=⟨[.rd y84,.ptr 33 y33],[y4],iP,none⟩
def Es:FS:=⟨[.rd y9,.kb 40 33 y33,.kc 42],[y3],zy,none⟩
def np:FS:=⟨[.rd y33,.rd y9],[y33,y3],iu,none⟩
def nr:FS:=⟨[.rd y33,.rd y9],[y33,y3],cU,none⟩
def c8:FS:=⟨[.rd y24,.rd y24,.fn [y73,y73] [y4]],[y4],bY,none⟩
def jy:FS:=⟨[.rd y71,.rd y71],[y4],dz,none⟩
def uA:FS:=⟨[.rd y73,.rd y73],[y4],j7,none⟩
def qA:FS:=⟨[.rd y26,.rd y26],[y4],jt,none⟩
def eu:FS:=⟨[.rd y31,.rd y31],[y4],bP,none⟩
def tj:FS:=⟨[.rd y33,.rd y33],[y4],lx,none⟩
def oK:FS:=⟨[.rd y33,.rd y9],[y3],dJ,none⟩
def oL:FS:=⟨[.rd y33,.rd y9],[y3],dK,none⟩
def yh:FS:=⟨[.rd y26,.rd y9],[y26,y3],oS,none⟩
def uB:FS:=⟨[.rd y73,.rd y73],[y4],mD,none⟩
def qB:FS:=⟨[.rd y26,.rd y26],[y4],jv,none⟩
def Dk:FS:=⟨[.rd y22],[y4],nO,none⟩
theorem X0:FOk Tryz.prog 7 P1:=fk [] trivial Tryz.func7 .no
theorem jz:FOk Tryz.prog 80 iQ:=fk [] trivial Tryz.func80 .no
theorem Et:FOk Tryz.prog 88 zz:=fk [(80,iQ)] ⟨jz,trivial⟩ Tryz.func88 .no
theorem fZ:FOk Tryz.prog 33 eW:=fk [(80,iQ),(88,zz)] ⟨jz,Et,trivial⟩ Tryz.func33 (.t (.two (.t (.loop [.s 3] .no)) (.two (.t (.loop [.s 4] .no)) .no)))
theorem yi:FOk Tryz.prog 113 tZ:=fk [] trivial Tryz.func113 (.t (.two (.t (.loop [.s 5] .no)) .no))
theorem da:FOk Tryz.prog 50 cF:=fk [(33,eW),(80,iQ),(113,tZ)] ⟨fZ,jz,yi,trivial⟩ Tryz.func50 (.t (.two (.t (.loop [.s 3] .no)) .no))
theorem zB:FOk Tryz.prog 170 vq:=fk [] trivial Tryz.func170 .no
theorem An:FOk Tryz.prog 323 ua:=fk [(80,iQ)] ⟨jz,trivial⟩ Tryz.func323 .no
theorem Ci:FOk Tryz.prog 356 wQ:=fk [(80,iQ),(323,ua)] ⟨jz,An,trivial⟩ Tryz.func356 (.t (.two (.t (.join [.slot 5 .boo] .no (.t (.t (.t (.join [.slot 37 .boo] .no .no)))))) .no))
theorem MY:FOk Tryz.prog 312 Ea:=fk [(356,wQ)] ⟨Ci,trivial⟩ Tryz.func312 (.t (.t (.two (.t (.loop [.s 3,.s 4] .no)) .no)))
theorem uC:FOk Tryz.prog 270 pH:=fk [(312,Ea)] ⟨MY,trivial⟩ Tryz.func270 .no
theorem wY:FOk Tryz.prog 326 sB:=fk [(356,wQ)] ⟨Ci,trivial⟩ Tryz.func326 (.t (.t (.t (.two (.loop [.s 3,.s 4] .no) .no))))
theorem Cj: ∀n,FOk Tryz.prog 324 (sC n)
 | 0=>lf (f:=sC 0) (enters_of Tryz.func324 (by kernel_rfl) rfl) rfl (fun d=>rfl)
 | n+1=>by
  have ih:=Cj n
  exact fk [(324,(sC n)),(326,sB)] ⟨ih,wY,trivial⟩ Tryz.func324 (.t (.t (.t (.two (.t (.two (.t (.at [.slot 15 .boo] .no)) .no)) .no))))
theorem zC:FOk Tryz.prog 266 vr:=fk [(170,vq)] ⟨zB,trivial⟩ Tryz.func266 .no
theorem Eu:FOk Tryz.prog 264 zA:=fk [] trivial Tryz.func264 .no
theorem Ao: ∀n,FOk Tryz.prog 367 (qp n)
 | 0=>lf (f:=qp 0) (enters_of Tryz.func367 (by kernel_rfl) rfl) rfl (fun d=>rfl)
 | n+1=>by
  have ih:=Ao n
  exact fk [(264,zA),(266,vr),(367,(qp n))] ⟨Eu,zC,ih,trivial⟩ Tryz.func367 .no
theorem yj: ∀n,FOk Tryz.prog 325 (oT n)
 | 0=>lf (f:=oT 0) (enters_of Tryz.func325 (by kernel_rfl) rfl) rfl (fun d=>rfl)
 | n+1=>by
  have ih:=yj n
  exact fk [(266,vr),(325,(oT n)),(326,sB),(367,(qp fP))] ⟨zC,ih,wY,(Ao fP),trivial⟩ Tryz.func325 (.t (.t (.t (.two (.t (.two (.t (.at [.slot 15 .boo] .no)) .no)) .no))))
theorem Dl:FOk Tryz.prog 283 vN:=fk [(270,pH),(324,(sC fP)),(325,(oT fP))] ⟨uC,(Cj fP),(yj fP),trivial⟩ Tryz.func283 .no
theorem JA:FOk Tryz.prog 327 B4:=fk [] trivial Tryz.func327 (.t (.loop [.s 6,.par 4 [3] 3 y3] (.t (.two (.at [.par 4 [3] 3 y3] .no) .no))))
theorem Ap: ∀n,FOk Tryz.prog 284 (qq n)
 | 0=>lf (f:=qq 0) (enters_of Tryz.func284 (by kernel_rfl) rfl) rfl (fun d=>rfl)
 | n+1=>by
  have ih:=Ap n
  exact fk [(284,(qq n)),(326,sB),(327,B4)] ⟨ih,wY,JA,trivial⟩ Tryz.func284 (.t (.t (.t (.two (.t (.t (.t (.t (.t (.t (.two (.t (.t (.t (.t (.t (.two (.t (.at [.box 11 [.boo,(.num .i64),(.num .i64)]] .no)) (.two (.t (.at [.box 11 [.boo,(.num .i64),(.num .i64)]] .no)) .no))))))) .no))))))) .no))))
theorem qC:FOk Tryz.prog 238 mE:=fk [(283,vN),(284,(qq fP))] ⟨Dl,(Ap fP),trivial⟩ Tryz.func238 (.t (.t (.t (.t (.two (.t (.loop [.s 6,.s 7] (.t (.two (.at [.s 6] .no) .no)))) .no)))))
theorem Ia:FOk Tryz.prog 285 Ag:=fk [] trivial Tryz.func285 (.t (.t (.join [.s 7] .no (.two (.t (.loop [.s 7,.s 8] (.t (.join [.s 7] .no .no)))) (.t (.two (.t (.loop [.s 9,.s 10] (.t (.join [.s 9] .no .no)))) .no))))))
theorem Ck:FOk Tryz.prog 286 wR:=fk [] trivial Tryz.func286 (.t (.two (.t (.loop [.s 5] .no)) .no))
theorem Dm:FOk Tryz.prog 287 vO:=fk [] trivial Tryz.func287 .no
theorem wj:FOk Tryz.prog 239 qU:=fk [(285,Ag),(286,wR),(287,vO)] ⟨Ia,Ck,Dm,trivial⟩ Tryz.func239 (.t (.t (.t (.two (.t (.loop [.slot 7 (.own 3 y3),.s 8,.box 6 [(.num .i64),(.own 4 y4),(.own 70 y70)]] (.t (.two (.t (.two (.t (.loop [.slot 7 (.own 3 y3),.slot 9 (.own 3 y3),.s 10] (.t (.two (.t (.t (.join [.slot 7 (.own 3 y3),.s 12] .no .no))) .no)))) .no)) .no)))) .no))))
theorem Dn:FOk Tryz.prog 328 vP:=fk [] trivial Tryz.func328 (.t (.t (.two (.t (.loop [.slot 1 (.own 3 y3),.s 2] .no)) .no)))
theorem FM:FOk Tryz.prog 288 xW:=fk [(286,wR),(328,vP)] ⟨Ck,Dn,trivial⟩ Tryz.func288 (.t (.t (.t (.t (.t (.two (.t (.loop [.slot 8 (.own 3 y3),.slot 9 (.own 3 y3),.s 10,.box 7 [(.num .i64),(.own 4 y4),(.own 70 y70)]] (.t (.two (.t (.two (.t (.loop [.slot 8 (.own 3 y3),.slot 9 (.own 3 y3),.slot 11 (.own 3 y3),.s 12] (.t (.two (.t (.t (.join [.slot 8 (.own 3 y3),.slot 9 (.own 3 y3),.s 14] .no .no))) .no)))) .no)) .no)))) .no))))))
theorem Cl:FOk Tryz.prog 290 wS:=fk [] trivial Tryz.func290 (.t (.t (.two (.t (.loop [.row 3 4 y4,.s 4] (.t (.two (.t (.loop [.row 3 4 y4,.s 5] (.t (.two (.t (.loop [.row 3 4 y4,.s 6] (.t (.join [.row 3 4 y4] .no .no)))) .no)))) .no)))) .no)))
theorem MZ:FOk Tryz.prog 329 Eb:=fk [] trivial Tryz.func329 (.t (.t (.two (.t (.loop [.slot 7 (.own 3 y3),.s 8] (.t (.join [.slot 7 (.own 3 y3)] .no .no)))) .no)))
theorem Do:FOk Tryz.prog 289 vQ:=fk [(113,tZ),(290,wS),(329,Eb)] ⟨yi,Cl,MZ,trivial⟩ Tryz.func289 (.t (.t (.t (.two (.t (.loop [.slot 4 (.own 3 y3),.s 5] (.t (.two (.t (.two (.t (.at [.s 6] .no)) (.two (.t (.at [.s 6] .no)) .no))) .no)))) (.two (.t (.loop [.slot 4 (.own 3 y3),.s 7] (.t (.two (.t (.t (.two (.t (.loop [.slot 8 (.own 70 y70),.slot 9 (.own 3 y3),.s 10] (.t (.two (.at [.slot 8 (.own 70 y70),.slot 9 (.own 3 y3)] (.t (.t (.t (.two (.t (.loop [.s 12,.s 13] (.t (.two (.at [.s 12] .no) .no)))) (.two (.t (.at [.slot 8 (.own 70 y70),.s 12,.gone 11] .no)) .no)))))) .no)))) .no))) .no)))) .no)))))
theorem Cm:FOk Tryz.prog 240 ub:=fk [(288,xW),(289,vQ),(290,wS)] ⟨FM,Do,Cl,trivial⟩ Tryz.func240 .no
theorem Cn:FOk Tryz.prog 182 uc:=fk [(238,mE),(239,qU),(240,ub)] ⟨qC,wj,Cm,trivial⟩ Tryz.func182 .no
theorem rD:FOk Tryz.prog 184 nh:=fk [(113,tZ)] ⟨yi,trivial⟩ Tryz.func184 (.t (.t (.two (.t (.loop [.s 5] .no)) (.two (.t (.loop [.s 6] .no)) .no))))
theorem Ib:FOk Tryz.prog 183 Ah:=fk [(184,nh)] ⟨rD,trivial⟩ Tryz.func183 (.t (.two (.t (.loop [.s 5] .no)) .no))
theorem Aq:FOk Tryz.prog 114 ud:=fk [(80,iQ),(170,vq),(182,uc),(183,Ah)] ⟨jz,zB,Cn,Ib,trivial⟩ Tryz.func114 (.t (.t (.t (.two (.t (.loop [.s 5,.box 4 [(.own 141 jE),(.own 126 xn)]] (.t (.two (.t (.t (.t (.join [.s 8,.box 4 [(.own 141 jE),(.own 126 xn)],.gone 6] .no .no)))) .no)))) .no))))
theorem Dq:FOk Tryz.prog 185 vR:=fk [] trivial Tryz.func185 (.t (.t (.two (.t (.loop [.s 5] .no)) .no)))
theorem wZ:FOk Tryz.prog 115 pI:=fk [(184,nh),(185,vR)] ⟨rD,Dq,trivial⟩ Tryz.func115 (.t (.t (.two (.t (.loop [.s 5] .no)) (.two (.t (.loop [.s 6] .no)) .no))))
theorem iS:FOk Tryz.prog 51 fF:=fk [(114,ud),(115,pI)] ⟨Aq,wZ,trivial⟩ Tryz.func51 .no
theorem bF:FOk Tryz.prog 18 bu:=fk [(50,cF)] ⟨da,trivial⟩ Tryz.func18 .no
theorem mN:FOk Tryz.prog 34 kF:=fk [] trivial Tryz.func34 (.t (.two (.t (.loop [.s 5] .no)) .no))
theorem JB:FOk Tryz.prog 52 B5:=fk [(18,bu),(34,kF),(80,iQ)] ⟨bF,mN,jz,trivial⟩ Tryz.func52 (.t (.two (.t (.loop [.s 3] .no)) .no))
theorem oU:FOk Tryz.prog 175 mF:=fk [] trivial Tryz.func175 (.t (.t (.t (.t (.two (.loop [.s 0,.slot 3 .str] (.t (.t (.two (.t (.at [.s 5] .no)) .no)))) .no)))))
theorem ox:FOk Tryz.prog 282 lz:=fk [(323,ua)] ⟨An,trivial⟩ Tryz.func282 .no
theorem wk:FOk Tryz.prog 236 qV:=fk [(80,iQ),(175,mF),(282,lz)] ⟨jz,oU,ox,trivial⟩ Tryz.func236 .no
theorem uD:FOk Tryz.prog 174 pJ:=fk [(236,qV)] ⟨wk,trivial⟩ Tryz.func174 (.t (.t (.t (.two (.t (.loop [.slot 3 .str,.s 4] (.t (.two (.atX [.slot 3 .str] (.t (.t (.two (.t (.at [.slot 3 .str] .no)) .no)))) .no)))) .no))))
theorem Ic:FOk Tryz.prog 176 Ai:=fk [] trivial Tryz.func176 (.t (.t (.two (.t (.loop [.s 3,.s 4] .no)) .no)))
theorem oy:FOk Tryz.prog 106 lA:=fk [(80,iQ),(174,pJ),(175,mF),(176,Ai)] ⟨jz,uD,oU,Ic,trivial⟩ Tryz.func106 .no
theorem yk:FOk Tryz.prog 171 ue:=fk [] trivial Tryz.func171 (.t (.t (.t (.two (.t (.loop [.slot 5 (.own 9 y9),.s 6,.s 7] (.t (.two (.at [.slot 5 (.own 9 y9),.s 6] .no) .no)))) .no))))
theorem Ar:FOk Tryz.prog 172 uf:=fk [(175,mF)] ⟨oU,trivial⟩ Tryz.func172 (.t (.t (.t (.two (.t (.loop [.s 4,.s 5,.s 6] (.t (.two (.at [.s 4,.s 5] .no) .no)))) (.two (.t (.at [.s 4] .no)) .no)))))
theorem uE:FOk Tryz.prog 281 pK:=fk [(282,lz)] ⟨ox,trivial⟩ Tryz.func281 (.t (.two (.t (.loop [.s 4] .no)) .no))
theorem FN:FOk Tryz.prog 235 xX:=fk [(171,ue),(172,uf),(236,qV),(281,pK)] ⟨yk,Ar,wk,uE,trivial⟩ Tryz.func235 .no
theorem Dr:FOk Tryz.prog 173 vS:=fk [(171,ue),(174,pJ),(235,xX)] ⟨yk,uD,FN,trivial⟩ Tryz.func173 (.t (.t (.t (.t (.two (.t (.loop [.s 6,.box 4 [(.own 191 (.prod y4 vp))]] .no)) .no)))))
theorem AG:FOk Tryz.prog 105 sX:=fk [(106,lA),(171,ue),(172,uf),(173,vS)] ⟨oy,yk,Ar,Dr,trivial⟩ Tryz.func105 .no
theorem sJ:FOk Tryz.prog 45 pL:=Lp (ps:=[.rd y9]) (A:=y70) (E:=84) (t:=y84) (B:=y3) (m:=m_s_ScanLog) (fk [(105,sX)] ⟨AG,trivial⟩ Tryz.func45 (.t (.t (.t (.t (.two (.t (.loop [.slot 5 (.own 3 y3),.slot 6 (.own 84 y84),.s 7,.s 8] (.t (.two (.atX [.slot 5 (.own 3 y3),.slot 6 (.own 84 y84),.s 7] .no) .no)))) .no))))))
theorem M0:FOk Tryz.prog 53 Ec:=fk [(18,bu),(45,pL)] ⟨bF,sJ,trivial⟩ Tryz.func53 .no
theorem cW:FOk Tryz.prog 14 cC:=fk [(50,cF),(51,fF),(52,B5),(53,Ec)] ⟨da,iS,JB,M0,trivial⟩ Tryz.func14 .no
theorem lX:FOk Tryz.prog 116 kG:=fk [] trivial Tryz.func116 .no
theorem vy:FOk Tryz.prog 54 rv:=fk [(116,kG)] ⟨lX,trivial⟩ Tryz.func54 (.t (.t (.two (.t (.loop [.s 4,.box 3 [(.num .i64),(.own 73 y73)]] .no)) .no)))
theorem Co:FOk Tryz.prog 169 wT:=fk [] trivial Tryz.func169 (.t (.t (.two (.t (.loop [.s 4,.box 3 [(.num .i64),(.own 4 y4),(.own 70 y70)]] .no)) .no)))
theorem Cp:FOk Tryz.prog 104 wU:=fk [(169,wT),(170,vq)] ⟨Co,zB,trivial⟩ Tryz.func104 (.t (.t (.two (.t (.loop [.s 4,.box 3 [(.own 141 jE),(.own 126 xn)]] .no)) (.two (.t (.loop [.s 5,.box 3 [(.own 141 jE),(.own 126 xn)]] .no)) .no))))
theorem lM:FOk Tryz.prog 44 j8:=fk [(54,rv),(104,wU)] ⟨vy,Cp,trivial⟩ Tryz.func44 .no
theorem oV:FOk Tryz.prog 227 mG:=fk [] trivial Tryz.func227 (.t (.two (.t (.loop [.s 5] .no)) .no))
theorem Ds:FOk Tryz.prog 226 vT:=fk [(33,eW),(88,zz),(116,kG),(227,mG)] ⟨fZ,Et,lX,oV,trivial⟩ Tryz.func226 (.t (.t (.t (.two (.loop [.s 6] .no) .no))))
theorem Dt:FOk Tryz.prog 228 vU:=fk [(33,eW),(116,kG),(227,mG)] ⟨fZ,lX,oV,trivial⟩ Tryz.func228 .no
theorem Cq:FOk Tryz.prog 161 wV:=fk [(116,kG),(226,vT),(227,mG),(228,vU)] ⟨lX,Ds,oV,Dt,trivial⟩ Tryz.func161 (.t (.t (.two (.t (.loop [.s 7,.box 6 [(.own 3 y3),(.own 124 vp)]] (.t (.joinX [.box 6 [(.own 3 y3),(.own 124 vp)]] .no .no)))) .no)))
theorem Du:FOk Tryz.prog 117 vV:=fk [(33,eW),(116,kG),(161,wV)] ⟨fZ,lX,Cq,trivial⟩ Tryz.func117 .no
theorem pU:FOk Tryz.prog 55 mH:=fk [(18,bu),(50,cF),(54,rv),(117,vV)] ⟨bF,da,vy,Du,trivial⟩ Tryz.func55 (.t (.t (.t (.t (.t (.t (.two (.t (.at [.box 6 [(.num .i64),(.own 73 y73)]] .no)) .no))))))) (an:=[(48,.bool)])
theorem pV:FOk Tryz.prog 46 mI:=fk [(14,cC),(18,bu),(44,j8),(55,mH),(106,lA)] ⟨cW,bF,lM,pU,oy,trivial⟩ Tryz.func46 .no
theorem P2:FOk Tryz.prog 71 H4:=XU (T:=167) (aab (V:=⟨tt,[],[],32,[]⟩) Jz trivial mixed Tryz.func71 rfl rfl (enters_of Tryz.func71 (by kernel_rfl) rfl) (bA rfl) (.t (.t (.two (.t (.loop [.s 3,.s 4] .no)) .no))) (fun a=>by kernel_rfl)) rfl
theorem zD:FOk Tryz.prog 138 vt:=fk [] trivial Tryz.func138 (.t (.t (.t (.two (.t (.at [.s 3,.cur 0] .no)) .no))))
theorem ct:FOk Tryz.prog 73 cf:=fk [(138,vt)] ⟨zD,trivial⟩ Tryz.func73 .no
theorem gu:FOk Tryz.prog 77 fh:=fk [(73,cf)] ⟨ct,trivial⟩ Tryz.func77 .no
theorem rE:FOk Tryz.prog 76 ni:=fk [(34,kF),(51,fF),(104,wU),(114,ud)] ⟨mN,iS,Cp,Aq,trivial⟩ Tryz.func76 (.t (.t (.t (.two (.loop [.s 8] .no) .no)))) (an:=[(40,(.fro xn)),(49,(.fro xn))])
theorem ym:FOk Tryz.prog 24 qu:=fk [(14,cC),(44,j8),(76,ni)] ⟨cW,lM,rE,trivial⟩ Tryz.func24 .no
theorem Cr:FOk Tryz.prog 81 wW:=fk [] trivial Tryz.func81 (.t (.two (.t (.loop [.s 5] .no)) .no))
theorem w7:FOk Tryz.prog 27 pM:=fk [(14,cC),(34,kF),(44,j8),(80,iQ),(81,wW)] ⟨cW,mN,lM,jz,Cr,trivial⟩ Tryz.func27 (.t (.t (.t (.t (.two (.loop [.s 9] .no) .no)))))
theorem nt:FOk Tryz.prog 97 lT:=fk [(73,cf)] ⟨ct,trivial⟩ Tryz.func97 .no
theorem M2:FOk Tryz.prog 160 Ed:=fk [(73,cf),(77,fh)] ⟨ct,gu,trivial⟩ Tryz.func160 (.t (.t (.two (.t (.at [.cur 0,.box 5 [(.num .i64),(.num .i64),(.num .i64),(.num .i64)]] .no)) .no)))
theorem w8:FOk Tryz.prog 98 sD:=fk [(73,cf),(97,lT),(116,kG),(160,Ed),(161,wV)] ⟨ct,nt,lX,M2,Cq,trivial⟩ Tryz.func98 (.t (.t (.t (.two (.t (.loop [.s 9,.cur 0,.box 8 [(.own 3 y3),(.own 124 vp)],.box 7 [(.own 191 abJ)]] (.t (.two (.at [.cur 0,.box 8 [(.own 3 y3),(.own 124 vp)],.box 7 [(.own 191 abJ)]] (.t (.two (.t (.at [.cur 0,.box 10 [.boo,(.num .i64),(.num .i64),(.num .i64),(.num .i64)]] .no)) (.two (.t (.at [.box 10 [.boo,(.num .i64),(.num .i64),(.num .i64),(.num .i64)]] .no)) .no)))) .no)))) .no))))
theorem w9:FOk Tryz.prog 147 sE:=fk [(73,cf),(77,fh)] ⟨ct,gu,trivial⟩ Tryz.func147 (.t (.t (.two (.t (.loop [.s 4,.cur 0,.box 3 [(.own 3 (.int .i64)),(.own 124 vp)]] .no)) (.t (.two (.t (.loop [.s 5,.s 6,.cur 0,.box 3 [(.own 3 (.int .i64)),(.own 124 vp)]] .no)) .no)))))
theorem wm:FOk Tryz.prog 221 qW:=fk [(50,cF),(116,kG)] ⟨da,lX,trivial⟩ Tryz.func221 .no
theorem FO:FOk Tryz.prog 155 xY:=fk [(221,qW)] ⟨wm,trivial⟩ Tryz.func155 .no
theorem JC:FOk Tryz.prog 311 B6:=fk [(175,mF),(282,lz)] ⟨oU,ox,trivial⟩ Tryz.func311 .no
theorem M3:FOk Tryz.prog 269 Ee:=fk [(281,pK),(311,B6)] ⟨uE,JC,trivial⟩ Tryz.func269 (.t (.two (.t (.loop [.s 3] .no)) .no))
theorem FP:FOk Tryz.prog 222 xZ:=fk [(171,ue),(269,Ee),(270,pH)] ⟨yk,M3,uC,trivial⟩ Tryz.func222 (.t (.t (.t (.two (.t (.loop [.s 6,.box 4 [(.own 172 A9)]] .no)) .no))))
theorem M4:FOk Tryz.prog 223 Ef:=fk [(73,cf)] ⟨ct,trivial⟩ Tryz.func223 .no
theorem xa:FOk Tryz.prog 156 sF:=fk [(222,xZ),(223,Ef)] ⟨FP,M4,trivial⟩ Tryz.func156 .no
theorem JD:FOk Tryz.prog 271 B7:=fk [(18,bu),(34,kF),(50,cF),(51,fF)] ⟨bF,mN,da,iS,trivial⟩ Tryz.func271 .no
theorem JE:FOk Tryz.prog 313 B8:=fk [(18,bu),(50,cF),(80,iQ),(116,kG)] ⟨bF,da,jz,lX,trivial⟩ Tryz.func313 .no
theorem yn:FOk Tryz.prog 357 qv:=fk [(34,kF),(51,fF),(169,wT)] ⟨mN,iS,Co,trivial⟩ Tryz.func357 .no
theorem JF:FOk Tryz.prog 409 B9:=fk [(80,iQ)] ⟨jz,trivial⟩ Tryz.func409 (.t (.t (.t (.two (.t (.loop [.s 4] (.t (.two (.t (.t (.loop [.s 5] .no))) .no)))) .no))))
theorem vG:FOk Tryz.prog 400 oF:=fk [(409,B9)] ⟨JF,trivial⟩ Tryz.func400 .no
theorem JG:FOk Tryz.prog 382 Ca:=fk [(33,eW),(80,iQ),(400,oF)] ⟨fZ,jz,vG,trivial⟩ Tryz.func382 .no
theorem wo:FOk Tryz.prog 411 qX:=fk [] trivial Tryz.func411 (.t (.t (.two (.loop [.s 1,.s 7] .no) .no)))
theorem M5:FOk Tryz.prog 412 Eg:=fk [] trivial Tryz.func412 (.t (.t (.two (.t (.loop [.slot 5 (.own 419 Zb),.s 6] (.t (.join [.slot 5 (.own 419 Zb)] (.join [.slot 5 (.own 419 Zb)] .no .no) .no)))) .no)))
theorem FQ:FOk Tryz.prog 413 ya:=fk [] trivial Tryz.func413 .no
theorem P3:FOk Tryz.prog 414 H5:=fk [] trivial Tryz.func414 .no
theorem Ie:FOk Tryz.prog 410 Aj:=fk [(227,mG),(411,qX),(412,Eg),(413,ya),(414,H5)] ⟨oV,wo,M5,FQ,P3,trivial⟩ Tryz.func410 (.t (.t (.t (.t (.two (.t (.loop [.slot 9 (.own 421 aah),.s 12] (.t (.two (.t (.t (.two (.t (.loop [.s 14,.s 15] (.t (.join [.s 14] .no .no)))) (.t (.loop [.slot 9 (.own 421 aah),.s 17] (.t (.join [.slot 9 (.own 421 aah)] .no .no))))))) .no)))) .no)))))
theorem If:FOk Tryz.prog 401 Ak:=fk [(410,Aj)] ⟨Ie,trivial⟩ Tryz.func401 (.t (.t (.t (.two (.t (.loop [.slot 8 (.own 3 y3),.s 9] .no)) (.t (.t (.two (.t (.loop [.row 8 3 y3,.slot 10 (.own 3 y3),.s 11] (.t (.two (.t (.t (.loop [.row 8 3 y3,.slot 10 (.own 3 y3),.s 13] (.t (.join [.row 8 3 y3,.slot 10 (.own 3 y3)] .no .no))))) .no)))) .no)))))))
theorem Dv:FOk Tryz.prog 402 vW:=fk [(411,qX)] ⟨wo,trivial⟩ Tryz.func402 (.t (.t (.two (.t (.loop [.s 10] .no)) .no)))
theorem P4:FOk Tryz.prog 403 H6:=fk [] trivial Tryz.func403 (.t (.t (.two (.t (.loop [.slot 3 (.own 3 y3),.s 4] (.t (.join [.slot 3 (.own 3 y3)] .no .no)))) .no)))
theorem JH:FOk Tryz.prog 383 Cb:=fk [(401,Ak),(402,vW),(403,H6)] ⟨If,Dv,P4,trivial⟩ Tryz.func383 (.t (.t (.t (.t (.two (.t (.loop [.s 9,.s 10] (.t (.join [.s 9] .no .no)))) .no)))))
theorem Dw:FOk Tryz.prog 358 vX:=fk [(382,Ca),(383,Cb)] ⟨JG,JH,trivial⟩ Tryz.func358 (.t (.t (.two (.t (.loop [.slot 5 (.own 385 P0),.s 6] (.t (.two (.t (.t (.loop [.slot 5 (.own 385 P0),.s 8] .no))) .no)))) .no)))
theorem AH:FOk Tryz.prog 314 sY:=fk [(33,eW),(357,qv),(358,vX)] ⟨fZ,yn,Dw,trivial⟩ Tryz.func314 .no
theorem M6:FOk Tryz.prog 384 Eh:=fk [] trivial Tryz.func384 (.t (.two (.t (.loop [.s 5] .no)) .no))
theorem JI:FOk Tryz.prog 404 Cc:=fk [] trivial Tryz.func404 .no
theorem M7:FOk Tryz.prog 385 Ei:=fk [(404,Cc)] ⟨JI,trivial⟩ Tryz.func385 (.t (.t (.two (.loop [.s 5] .no) .no))) (an:=[(36,.bool)])
theorem zE:FOk Tryz.prog 359 ry:=fk [(384,Eh),(385,Ei)] ⟨M6,M7,trivial⟩ Tryz.func359 (.t (.t (.two (.t (.loop [.slot 5 (.own 385 P0),.s 6] (.t (.join [.slot 5 (.own 385 P0)] .no .no)))) .no)))
theorem AI:FOk Tryz.prog 315 sZ:=fk [(359,ry)] ⟨zE,trivial⟩ Tryz.func315 .no
theorem Dx:FOk Tryz.prog 272 vY:=fk [(313,B8),(314,sY),(315,sZ)] ⟨JE,AH,AI,trivial⟩ Tryz.func272 .no
theorem Cs:FOk Tryz.prog 224 ug:=fk [(271,B7),(272,vY)] ⟨JD,Dx,trivial⟩ Tryz.func224 .no
theorem Dy:FOk Tryz.prog 157 vZ:=fk [(14,cC),(44,j8),(81,wW),(224,ug)] ⟨cW,lM,Cr,Cs,trivial⟩ Tryz.func157 .no
theorem qD:FOk Tryz.prog 159 mJ:=fk [(18,bu),(50,cF),(54,rv),(80,iQ)] ⟨bF,da,vy,jz,trivial⟩ Tryz.func159 .no (an:=[(28,.bool)])
theorem M8:FOk Tryz.prog 225 Ej:=fk [(45,pL),(106,lA)] ⟨sJ,oy,trivial⟩ Tryz.func225 (.t (.t (.t (.two (.t (.loop [.slot 8 .str,.s 9,.row 6 84 (.bag y84)] (.t (.two (.at [.slot 8 .str,.row 6 84 (.bag y84)] .no) .no)))) .no))))
theorem zF:FOk Tryz.prog 158 rz:=fk [(14,cC),(44,j8),(159,mJ),(225,Ej)] ⟨cW,lM,qD,M8,trivial⟩ Tryz.func158 .no
theorem yo:FOk Tryz.prog 95 sG:=fk [(18,bu),(24,qu),(27,pM),(46,mI),(73,cf),(97,lT),(98,sD),(147,sE),(155,xY),(156,sF),(157,vZ),(158,rz)] ⟨bF,ym,w7,pV,ct,nt,w8,w9,FO,xa,Dy,zF,trivial⟩ Tryz.func95 (.t (.t (.two (.t (.loop [.s 5,.cur 0,.box 3 [(.num .i64),(.own 73 y73),(.own 141 jE),(.own 126 xn),(.own 93 y93),.str]] .no)) (.two (.t (.loop [.s 6,.cur 0,.box 3 [(.num .i64),(.own 73 y73),(.own 141 jE),(.own 126 xn),(.own 93 y93),.str]] (.t (.two (.at [.cur 0,.box 3 [(.num .i64),(.own 73 y73),(.own 141 jE),(.own 126 xn),(.own 93 y93),.str]] .no) .no)))) .no)))) (tr:=[(70,0,.bool),(73,0,.bool),(126,0,.bool),(141,0,.bool)])
theorem Ct:FOk Tryz.prog 203 uh:=fk [(73,cf),(76,ni),(156,sF)] ⟨ct,rE,xa,trivial⟩ Tryz.func203 (.t (.t (.two (.t (.loop [.s 4,.cur 0,.box 3 [(.own 141 jE),(.own 126 xn)]] .no)) .no)))
theorem Dz:FOk Tryz.prog 265 v7:=fk [] trivial Tryz.func265 .no
theorem Ev: ∀n,FOk Tryz.prog 206 (vu n)
 | 0=>lf (f:=vu 0) (enters_of Tryz.func206 (by kernel_rfl) rfl) rfl (fun d=>rfl)
 | n+1=>by
  have a:=Ev n;exact fk [(73,cf),(77,fh),(97,lT),(206,(vu n)),(264,zA),(265,v7),(266,vr)] ⟨ct,gu,nt,a,Eu,Dz,zC,trivial⟩ Tryz.func206 (.t (.t (.two (.t (.two (.t (.at [.slot 20 .boo] .no)) (.t (.two (.t (.at [.slot 33 .boo] .no)) .no)))) .no)))
theorem M9:FOk Tryz.prog 139 Ek:=fk [(73,cf),(97,lT),(156,sF),(206,(vu fP))] ⟨ct,nt,xa,(Ev fP),trivial⟩ Tryz.func139 .no
theorem FR:FOk Tryz.prog 263 yc:=fk [(73,cf),(97,lT)] ⟨ct,nt,trivial⟩ Tryz.func263 (.t (.t (.t (.two (.t (.loop [.s 5,.box 4 [(.num .i64),(.own 4 .bool),(.own 70 y70)],.cur 0] (.t (.two (.t (.two (.t (.loop [.slot 6 (.own 3 y3),.s 7,.cur 0] (.t (.two (.t (.two (.t (.at [.s 8,.cur 0] .no)) (.two (.t (.at [.s 8] .no)) .no))) .no)))) .no)) .no)))) .no))))
theorem Na:FOk Tryz.prog 204 El:=fk [(97,lT),(139,Ek),(238,mE),(239,qU),(263,yc)] ⟨nt,M9,qC,wj,FR,trivial⟩ Tryz.func204 .no
theorem Nb:FOk Tryz.prog 136 Em:=fk [(73,cf),(77,fh),(203,uh),(204,El)] ⟨ct,gu,Ct,Na,trivial⟩ Tryz.func136 (.t (.t (.two (.t (.at [.cur 0,.box 3 [(.own 141 jE),(.own 126 xn)]] .no)) .no)))
theorem P5:FOk Tryz.prog 86 H7:=fk [(73,cf),(77,fh),(147,sE)] ⟨ct,gu,w9,trivial⟩ Tryz.func86 (.t (.t (.two (.t (.at [.cur 0,.box 3 [(.own 3 y3),(.own 124 vp)]] .no)) .no)))
theorem FU:FOk Tryz.prog 205 yd:=fk [(55,mH),(73,cf),(77,fh),(98,sD),(147,sE),(221,qW)] ⟨pU,ct,gu,w8,w9,wm,trivial⟩ Tryz.func205 (.t (.t (.two (.t (.loop [.s 5,.cur 0,.box 3 [(.num .i64),(.own 73 y73)]] .no)) .no))) (tr:=[(73,0,.bool)])
theorem P6:FOk Tryz.prog 137 H8:=fk [(73,cf),(77,fh),(86,H7),(205,yd)] ⟨ct,gu,P5,FU,trivial⟩ Tryz.func137 (.t (.t (.two (.t (.at [.cur 0,.box 3 [(.num .i64),(.own 73 y73)]] .no)) .no)))
theorem Nc:FOk Tryz.prog 72 En:=fk [(73,cf),(77,fh),(95,sG),(136,Em),(137,H8)] ⟨ct,gu,yo,Nb,P6,trivial⟩ Tryz.func72 (.t (.t (.two (.t (.at [.cur 0,.box 3 [(.num .i64),(.own 73 y73),(.own 141 jE),(.own 126 xn),(.own 93 y93),.str]] .no)) .no)))
theorem vH:FOk Tryz.prog 96 oG:=fk [(14,cC),(18,bu),(44,j8),(159,mJ)] ⟨cW,bF,lM,qD,trivial⟩ Tryz.func96 .no
theorem Nd:FOk Tryz.prog 162 Eo:=fk [(73,cf),(138,vt)] ⟨ct,zD,trivial⟩ Tryz.func162 (.t (.t (.t (.two (.t (.loop [.slot 5 (.own 5 y5),.s 7,.cur 0] (.t (.two (.t (.two (.t (.at [.s 8] .no)) (.two (.t (.at [.s 8] .no)) .no))) .no)))) .no))))
theorem JJ:FOk Tryz.prog 99 Cd:=fk [(73,cf),(138,vt),(162,Eo)] ⟨ct,zD,Nd,trivial⟩ Tryz.func99 .no
theorem JK:FOk Tryz.prog 37 Ce:=fk [(46,mI),(71,H4),(72,En),(73,cf),(95,sG),(96,oG),(97,lT),(98,sD),(99,Cd)] ⟨pV,P2,Nc,ct,yo,vH,nt,w8,JJ,trivial⟩ Tryz.func37 (.t (.t (.t (.t (.two (.t (.at [.cur 4,.box 6 [(.num .i64),(.own 73 y73),(.own 141 jE),(.own 126 xn),(.own 93 y93),.str]] .no)) (.two (.t (.loop [.s 8,.cur 4,.box 5 [(.num .i64),(.own 73 y73),(.own 141 jE),(.own 126 xn),(.own 93 y93),.str]] .no)) (.t (.two (.t (.at [.slot 9 .str,.cur 4] .no)) .no)))))))) (tr:=[(70,0,.str),(73,0,.str),(126,0,.str),(141,0,.str)])
theorem uF:FOk Tryz.prog 8 oc:=fk [(37,Ce)] ⟨JK,trivial⟩ Tryz.func8 .no
theorem lY:FOk Tryz.prog 59 kH:=fk [] trivial Tryz.func59 .no
theorem zG:FOk Tryz.prog 186 vv:=fk [(59,kH)] ⟨lY,trivial⟩ Tryz.func186 .no
theorem lC:FOk Tryz.prog 118 iX:=fk [(59,kH),(186,vv)] ⟨lY,zG,trivial⟩ Tryz.func118 (.t (.t (.two (.t (.loop [.s 14] .no)) (.two (.t (.loop [.s 25] .no)) .no))))
theorem dO:FOk Tryz.prog 119 cX:=fk [] trivial Tryz.func119 (.t (.t (.two (.t (.loop [.s 13] .no)) .no)))
theorem qF:FOk Tryz.prog 57 mK:=fk [(59,kH),(118,iX),(119,cX)] ⟨lY,lC,dO,trivial⟩ Tryz.func57 (.t (.t (.t (.two (.t (.loop [.s 24] .no)) .no))))
theorem iy:FOk Tryz.prog 41 fp:=fk [(57,mK)] ⟨qF,trivial⟩ Tryz.func41 .no
theorem dB:FOk Tryz.prog 109 bQ:=fk [] trivial Tryz.func109 (.t (.t (.two (.t (.loop [.s 17] .no)) .no)))
theorem oW:FOk Tryz.prog 178 jw:=fk [] trivial Tryz.func178 (.t (.t (.two (.t (.loop [.s 13] .no)) .no)))
theorem gx:FOk Tryz.prog 179 c7:=fk [] trivial Tryz.func179 (.t (.t (.two (.t (.loop [.s 17] .no)) .no)))
theorem xb:FOk Tryz.prog 180 pN:=fk [(119,cX)] ⟨dO,trivial⟩ Tryz.func180 .no
theorem rF:FOk Tryz.prog 110 nj:=fk [(178,jw),(179,c7),(180,pN)] ⟨oW,gx,xb,trivial⟩ Tryz.func110 .no
theorem dn:FOk Tryz.prog 111 bK:=fk [] trivial Tryz.func111 (.t (.t (.two (.t (.loop [.s 17] .no)) .no)))
theorem oi:FOk Tryz.prog 237 iF:=fk [] trivial Tryz.func237 (.t (.t (.two (.t (.loop [.s 13] .no)) .no)))
theorem DA:FOk Tryz.prog 181 v8:=fk [(237,iF)] ⟨oi,trivial⟩ Tryz.func181 .no
theorem AJ:FOk Tryz.prog 112 ta:=fk [(181,v8)] ⟨DA,trivial⟩ Tryz.func112 .no
theorem pW:FOk Tryz.prog 48 lJ:=fk [(109,bQ),(110,nj),(111,bK),(112,ta)] ⟨dB,rF,dn,AJ,trivial⟩ Tryz.func48 .no
theorem As:FOk Tryz.prog 164 ui:=fk [] trivial Tryz.func164 .no
theorem At:FOk Tryz.prog 371 uj:=fk [(59,kH)] ⟨lY,trivial⟩ Tryz.func371 .no
theorem JL:FOk Tryz.prog 335 Cf:=fk [(59,kH),(371,uj)] ⟨lY,At,trivial⟩ Tryz.func335 (.t (.two (.t (.t (.t (.t (.t (.join [.slot 37 .boo] .no .no)))))) .no))
theorem oz:FOk Tryz.prog 336 bT:=H0 (f:=bT) (lf (f:=⟨bT.ps,bT.rs,bT.m,none⟩) (enters_of Tryz.func336 (by kernel_rfl) rfl) rfl (fun d=>rfl)) (Ll (V:=⟨tt,[],[(5,.raw)],8,[]⟩) Jz trivial mixed Tryz.func336 rfl rfl (enters_of Tryz.func336 (by kernel_rfl) rfl) (bA rfl) .no (fun E a b=>by cases a <;> kernel_rfl))
theorem zH:FOk Tryz.prog 293 vx:=fk [(335,Cf),(336,bT)] ⟨JL,oz,trivial⟩ Tryz.func293 (.t (.t (.two (.t (.loop [.slot 3 (.own 302 acu),.s 13] (.t (.t (.two (.t (.t (.two (.t (.at [.s 6] (.two (.t (.at [.slot 19 .boo] .no)) (.t (.two (.t (.at [.slot 22 .boo] .no)) .no))))) .no))) .no))))) .no))) (tr:=[(337,302,A9)])
theorem Nf:FOk Tryz.prog 368 Ep:=fk [(293,vx)] ⟨zH,trivial⟩ Tryz.func368 .no (tr:=[(337,302,A9)])
theorem Cu:FOk Tryz.prog 330 uk:=fk [(368,Ep)] ⟨Nf,trivial⟩ Tryz.func330 .no
theorem wq: ∀n,FOk Tryz.prog 331 (nP n)
 | 0=>lf (f:=nP 0) (enters_of Tryz.func331 (by kernel_rfl) rfl) rfl (fun d=>rfl)
 | n+1=>by
  have a:=wq n;exact fk [(331,(nP n))] ⟨a,trivial⟩ Tryz.func331 (.t (.t (.two (.t (.loop [.s 3,.s 11] (.t (.t (.two (.at [.s 3] .no) .no))))) .no))) (tr:=[(337,302,A9)])
theorem TL:FOk Tryz.prog 392 Lt:=fk [] trivial Tryz.func392 .no (tr:=[(337,302,A9)])
theorem Au: ∀n,FOk Tryz.prog 369 (qw n)
 | 0=>lf (f:=qw 0) (enters_of Tryz.func369 (by kernel_rfl) rfl) rfl (fun d=>rfl)
 | n+1=>by
  have a:=Au n;exact fk [(369,(qw n)),(392,Lt)] ⟨a,TL,trivial⟩ Tryz.func369 .no (tr:=[(337,302,A9)])
theorem uG: ∀n,FOk Tryz.prog 332 (mL n)
 | 0=>lf (f:=mL 0) (enters_of Tryz.func332 (by kernel_rfl) rfl) rfl (fun d=>rfl)
 | n+1=>by
  have a:=uG n;exact fk [(332,(mL n)),(369,(qw fP))] ⟨a,(Au fP),trivial⟩ Tryz.func332 (.t (.t (.t (.two (.t (.loop [.s 41,.box 3 [(.num .i64),(.num .i64),(.num .i64),(.num .i64),(.own 302 (.tree 337 302 A9))]] .no)) .no)))) (an:=[(52,t302)]) (tr:=[(337,302,A9)])
theorem tl: ∀n,FOk Tryz.prog 370 (lB n)
 | 0=>lf (f:=lB 0) (enters_of Tryz.func370 (by kernel_rfl) rfl) rfl (fun d=>rfl)
 | n+1=>by
  have a:=tl n;exact fk [(370,(lB n))] ⟨a,trivial⟩ Tryz.func370 (.two (.t (.loop [.s 11,.box 1 [(.own 172 A9)]] .no)) .no) (tr:=[(337,302,A9)])
theorem FV:FOk Tryz.prog 333 ye:=fk [(370,(lB fP))] ⟨(tl fP),trivial⟩ Tryz.func333 .no (tr:=[(337,302,A9)])
theorem DB:FOk Tryz.prog 291 wc:=fk [(293,vx),(330,uk),(331,(nP fP)),(332,(mL fP)),(333,ye)] ⟨zH,Cu,(wq fP),(uG fP),FV,trivial⟩ Tryz.func291 .no (tr:=[(337,302,A9)])
theorem vI:FOk Tryz.prog 334 oH:=fk [] trivial Tryz.func334 (.t (.loop [.s 12,.par 4 [3] 3 y3] (.t (.t (.two (.at [.par 4 [3] 3 y3] .no) .no)))))
theorem pX: ∀n,FOk Tryz.prog 292 (iR n)
 | 0=>lf (f:=iR 0) (enters_of Tryz.func292 (by kernel_rfl) rfl) rfl (fun d=>rfl)
 | n+1=>by
  have a:=pX n;exact fk [(292,(iR n)),(334,oH)] ⟨a,vI,trivial⟩ Tryz.func292 (.t (.two (.t (.t (.t (.t (.t (.t (.t (.t (.two (.t (.t (.t (.two (.t (.at [.box 10 [(.num .i64),(.num .i64),.boo]] .no)) (.two (.t (.at [.box 10 [(.num .i64),(.num .i64),.boo]] .no)) .no))))) .no))))))))) .no)) (tr:=[(337,302,A9)])
theorem yp:FOk Tryz.prog 241 qx:=fk [(291,wc),(292,(iR fP)),(293,vx)] ⟨DB,(pX fP),zH,trivial⟩ Tryz.func241 (.t (.t (.t (.t (.two (.t (.loop [.s 6,.s 22] (.t (.t (.two (.at [.s 6] .no) .no))))) .no))))) (tr:=[(337,302,A9)])
theorem tm:FOk Tryz.prog 294 ot:=fk [] trivial Tryz.func294 (.t (.t (.t (.t (.two (.t (.loop [.slot 10 (.own 3 y3),.slot 11 (.map ⟨3,3,.int,.int⟩),.s 13,.box 12 [(.num .i64),(.own 4 y4),(.own 70 y70)]] (.t (.two (.t (.two (.t (.loop [.slot 10 (.own 3 y3),.slot 11 (.map ⟨3,3,.int,.int⟩),.slot 14 (.own 3 y3),.s 15] (.t (.join [.slot 10 (.own 3 y3),.slot 11 (.map ⟨3,3,.int,.int⟩),.slot 14 (.own 3 y3)] (.t (.t (.t (.join [.slot 10 (.own 3 y3),.slot 11 (.map ⟨3,3,.int,.int⟩),.s 18] .no .no)))) .no)))) .no)) .no)))) .no)))))
theorem uH:FOk Tryz.prog 295 od:=fk [] trivial Tryz.func295 .no
theorem xc:FOk Tryz.prog 297 pO:=fk [] trivial Tryz.func297 (.t (.t (.join [.s 7] .no (.two (.t (.loop [.s 7,.s 21] (.t (.t (.join [.s 7] .no .no))))) (.t (.two (.t (.loop [.s 10,.s 39] (.t (.t (.join [.s 10] .no .no))))) .no))))))
theorem zI:FOk Tryz.prog 296 rA:=fk [(297,pO)] ⟨xc,trivial⟩ Tryz.func296 .no
theorem Cv:FOk Tryz.prog 242 um:=fk [(294,ot),(295,od),(296,rA)] ⟨tm,uH,zI,trivial⟩ Tryz.func242 .no
theorem oX:FOk Tryz.prog 393 bZ:=H0 (f:=bZ) (lf (f:=⟨bZ.ps,bZ.rs,bZ.m,none⟩) (enters_of Tryz.func393 (by kernel_rfl) rfl) rfl (fun d=>rfl)) (Ll (V:=⟨tt,[],[(5,.raw)],8,[]⟩) Jz trivial mixed Tryz.func393 rfl rfl (enters_of Tryz.func393 (by kernel_rfl) rfl) (bA rfl) .no (fun E a b=>by cases a <;> kernel_rfl))
theorem yq:FOk Tryz.prog 372 qy:=fk [(393,bZ)] ⟨oX,trivial⟩ Tryz.func372 (.t (.t (.two (.t (.loop [.slot 4 .boo,.row 3 4 y4] (.t (.t (.t (.loop [.slot 4 .boo,.s 16,.row 3 4 y4] (.t (.t (.two (.t (.t (.loop [.slot 4 .boo,.s 23,.row 3 4 y4] (.t (.t (.two (.at [.slot 4 .boo,.row 3 4 y4] .no) .no)))))) .no))))))))) .no)))
theorem ma:FOk Tryz.prog 394 fN:=fk [] trivial Tryz.func394 (.t (.two (.t (.loop [.s 8] .no)) .no))
theorem tD:FOk Tryz.prog 395 mU:=fk [(119,cX)] ⟨dO,trivial⟩ Tryz.func395 .no
theorem vJ:FOk Tryz.prog 373 oJ:=fk [(394,fN),(395,mU)] ⟨ma,tD,trivial⟩ Tryz.func373 (.t (.t (.t (.two (.t (.loop [.slot 6 (.own 70 y70),.slot 7 (.own 3 y3),.s 18] (.t (.t (.join [.slot 6 (.own 70 y70),.slot 7 (.own 3 y3)] (.t (.t (.t (.two (.t (.loop [.s 36,.box 10 [(.own 3 y3)]] (.t (.t (.two (.t (.join [.s 12] .no .no)) .no))))) (.t (.join [.slot 6 (.own 70 y70),.s 13,.gone 10] .no .no)))))) .no))))) .no))))
theorem uI:FOk Tryz.prog 337 oe:=fk [(372,qy),(373,oJ)] ⟨yq,vJ,trivial⟩ Tryz.func337 (.t (.t (.two (.t (.loop [.slot 3 (.own 3 y3),.s 13] (.t (.t (.join [.slot 3 (.own 3 y3)] .no .no))))) (.t (.loop [.slot 3 (.own 3 y3),.s 6] .no)))))
theorem xd:FOk Tryz.prog 407 pP:=fk [] trivial Tryz.func407 .no
theorem xe:FOk Tryz.prog 408 pQ:=fk [] trivial Tryz.func408 .no
theorem zJ:FOk Tryz.prog 396 rB:=fk [(407,pP),(408,pQ)] ⟨xd,xe,trivial⟩ Tryz.func396 .no
theorem pY:FOk Tryz.prog 374 j9:=fk [(396,rB)] ⟨zJ,trivial⟩ Tryz.func374 (.t (.t (.t (.t (.t (.t (.two (.loop [.s 8,.row 7 3 (.int .i64)] .no) .no))))))) (an:=[(44,.bool)])
theorem JM:FOk Tryz.prog 338 Cg:=fk [(374,j9)] ⟨pY,trivial⟩ Tryz.func338 .no
theorem qe:FOk Tryz.prog 340 kJ:=fk [] trivial Tryz.func340 (.t (.two (.t (.loop [.s 8] .no)) .no))
theorem rG:FOk Tryz.prog 339 lU:=fk [(340,kJ)] ⟨qe,trivial⟩ Tryz.func339 .no
theorem rH:FOk Tryz.prog 341 lV:=fk [] trivial Tryz.func341 .no
theorem yr:FOk Tryz.prog 343 qz:=fk [(371,uj)] ⟨At,trivial⟩ Tryz.func343 .no
theorem rI:FOk Tryz.prog 342 lW:=fk [(343,qz)] ⟨yr,trivial⟩ Tryz.func342 .no
theorem tE:FOk Tryz.prog 298 mV:=fk [(294,ot),(337,oe),(338,Cg),(339,lU),(341,lV),(342,lW)] ⟨tm,uI,JM,rG,rH,rI,trivial⟩ Tryz.func298 .no
theorem P7:FOk Tryz.prog 243 H9:=fk [(298,mV)] ⟨tE,trivial⟩ Tryz.func243 .no
theorem Cw:FOk Tryz.prog 187 uo:=fk [(241,qx),(242,um),(243,H9)] ⟨yp,Cv,P7,trivial⟩ Tryz.func187 .no
theorem ja:FOk Tryz.prog 188 dM:=fk [] trivial Tryz.func188 (.t (.two (.t (.loop [.s 8] .no)) .no))
theorem Ig:FOk Tryz.prog 189 Al:=fk [(110,nj)] ⟨rF,trivial⟩ Tryz.func189 .no
theorem Ng:FOk Tryz.prog 120 Er:=fk [(59,kH),(164,ui),(187,uo),(188,dM),(189,Al)] ⟨lY,As,Cw,ja,Ig,trivial⟩ Tryz.func120 (.t (.t (.two (.t (.loop [.s 13,.box 4 [(.own 141 jE),(.own 126 xn)]] (.t (.t (.two (.t (.t (.t (.t (.join [.s 9,.box 4 [(.own 141 jE),(.own 126 xn)],.gone 7] .no .no))))) .no))))) .no)))
theorem xf:FOk Tryz.prog 58 pR:=fk [(48,lJ),(120,Er)] ⟨pW,Ng,trivial⟩ Tryz.func58 .no
theorem iz:FOk Tryz.prog 121 dA:=fk [] trivial Tryz.func121 (.t (.two (.t (.loop [.s 8] .no)) .no))
theorem Cx:FOk Tryz.prog 122 uq:=fk [] trivial Tryz.func122 .no
theorem FW:FOk Tryz.prog 60 yf:=fk [(121,dA),(122,uq)] ⟨iz,Cx,trivial⟩ Tryz.func60 .no
theorem uJ:FOk Tryz.prog 123 oh:=FH FJ (enters_of Tryz.func123 (by kernel_rfl) rfl)
theorem AK:FOk Tryz.prog 234 tc:=TG Lq (enters_of Tryz.func234 (by kernel_rfl) rfl)
theorem yt:FOk Tryz.prog 167 sH:=fk [(234,tc)] ⟨AK,trivial⟩ Tryz.func167 .no
theorem wt:FOk Tryz.prog 232 qY:=fk [(167,sH),(186,vv)] ⟨yt,zG,trivial⟩ Tryz.func232 .no
theorem AL:FOk Tryz.prog 233 tf:=TH TJ PX 9 (enters_of Tryz.func233 (by kernel_rfl) rfl)
theorem uK:FOk Tryz.prog 166 pS:=fk [(232,qY),(233,tf)] ⟨wt,AL,trivial⟩ Tryz.func166 (.t (.t (.t (.two (.t (.loop [.slot 3 (.own 9 y9),.s 15] (.t (.t (.two (.atX [.slot 3 (.own 9 y9)] .no) .no))))) .no))))
theorem Ih:FOk Tryz.prog 168 Am:=fk [] trivial Tryz.func168 (.t (.t (.two (.t (.loop [.s 3,.s 4] .no)) .no)))
theorem tn:FOk Tryz.prog 103 ou:=fk [(59,kH),(166,pS),(167,sH),(168,Am)] ⟨lY,uK,yt,Ih,trivial⟩ Tryz.func103 .no
theorem rJ:FOk Tryz.prog 191 nl:=PU PW (by kernel_rfl) (by kernel_rfl) (enters_of Tryz.func191 (by kernel_rfl) rfl)
theorem Cy (n a b:Int) (w:World):Calls Tryz.prog 59 #[.int .i64 n,.int .i64 a,.int .i64 b] w fun e c=>e= .returned (.bool (decide (a<=n/\n<=b)))/\c=w:=by
 by_cases h:a<=n
 ·go_enter Tryz.func59,Tryz.ntmps59
  go_wp2
  go_ret
  simp[h]
 ·go_enter Tryz.func59,Tryz.ntmps59
  go_wp2
  go_ret
  simp
  try (intro k;omega)
theorem JN (s:ByteArray) (r:Int×Bool) (w:World) (hr:tX s=some r) (hL:LayW Tryz.prog w):Calls Tryz.prog 192 #[.string s] w fun e w'=>e= .returned (.tuple #[.int .i64 r.1,.bool r.2])/\Below w.heap.size w w':=by
 unfold tX at hr
 by_cases h10:10<s.size
 ·rw[if_pos h10] at hr
  obtain rfl:=ae hr
  go_enter Tryz.func192,Tryz.ntmps192
  go_wp2
  go_ret2
  exact ⟨rfl,Below.refl _ _⟩
 ·rw[if_neg h10] at hr
  have h18:s.size<=18:=by omega
  cases ha:Lib.atoi s.data.toList with
  | none =>
   rw[ha] at hr
   obtain rfl:=ae hr
   obtain ⟨tp,p,hv⟩:=hL.syn
   have hcon:=Any.strconv_Atoi_err_var Lr s h18 ha tp p w hv
   go_enter Tryz.func192,Tryz.ntmps192
   go_wp2_with (go_at_call 246;refine hcon.mono ?_;rintro e w' ⟨N,rfl,hN,hh,hb⟩)
   go_ret2
   exact ⟨rfl,hb⟩
  | some n =>
   rw[ha] at hr
   have hB:=Lib.atoi_bound ha (by simpa using h18)
   have hA:=Any.strconv_Atoi { Lr with } s n h18 ha w
   have hI:=fun t=>Any.strconv_Itoa Lq n (by omega) (by omega) (Lib.bytesWorld w 5 t) (Lib.bytesWorld_var w 5 t hL.tab)
   have hz: ∀t k os,Below w.heap.size w (Go.Sort.grow ((Lib.bytesWorld w 5 t).drewN k) os):=fun t k os=>by
    have h1:=Lib.bytesWorld_below w 5 t
    exact ⟨h1.os,h1.tape,h1.output,by have:=h1.size;simp only[Go.Sort.grow,Array.size_append];exact Nat.le_trans this (Nat.le_add_right _ _),fun b hb=>(Go.Sort.heap_grow_old ((Lib.bytesWorld w 5 t).drewN k) os (aL hb h1.size:b<((Lib.bytesWorld w 5 t).drewN k).heap.size)).trans (h1.block b hb)⟩
   replace hr:(if (⟨(Lib.itoa n).toArray⟩:ByteArray)=s/\ -999999999<=n/\n<=999999999 then some (n,true) else some (0,false))=some r:=hr
   generalize (⟨(Lib.itoa n).toArray⟩:ByteArray)=q at hr hI
   by_cases e1:q=s
   ·subst e1
    by_cases e2: -999999999<=n/\n<=999999999
    ·rw[if_pos ⟨rfl,e2.1,e2.2⟩] at hr
     obtain rfl:=ae hr
     go_enter Tryz.func192,Tryz.ntmps192
     go_wp2_with (first | (go_at_call 246;refine hA.mono ?_;rintro e w' ⟨rfl,t,rfl⟩) | (go_at_call 234;refine (hI _).mono ?_;rintro e w' ⟨rfl,k,os,rfl⟩) | (go_at_call 59;refine (Cy _ _ _ _).mono ?_;rintro e w' ⟨rfl,rfl⟩))
     go_ret2
     exact ⟨rfl,hz _ _ _⟩
    ·rw[if_neg fun k=>e2 k.2] at hr
     obtain rfl:=ae hr
     go_enter Tryz.func192,Tryz.ntmps192
     go_wp2_with (first | (go_at_call 246;refine hA.mono ?_;rintro e w' ⟨rfl,t,rfl⟩) | (go_at_call 234;refine (hI _).mono ?_;rintro e w' ⟨rfl,k,os,rfl⟩) | (go_at_call 59;refine (Cy _ _ _ _).mono ?_;rintro e w' ⟨rfl,rfl⟩))
     go_ret2
     exact ⟨rfl,hz _ _ _⟩
   ·rw[if_neg fun k=>e1 k.1] at hr
    obtain rfl:=ae hr
    have e2: ¬q.toList=s.toList:=fun k=>e1 (Go.WideShapes.bytes_inj (by rw[<-ByteArray.toList_eq,<-ByteArray.toList_eq];exact k))
    go_enter Tryz.func192,Tryz.ntmps192
    go_wp2_with (first | (go_at_call 246;refine hA.mono ?_;rintro e w' ⟨rfl,t,rfl⟩) | (go_at_call 234;refine (hI _).mono ?_;rintro e w' ⟨rfl,k,os,rfl⟩) | (go_at_call 59;refine (Cy _ _ _ _).mono ?_;rintro e w' ⟨rfl,rfl⟩))
    go_ret2
    exact ⟨rfl,hz _ _ _⟩
theorem Av:FOk Tryz.prog 192 ur:=PV (enters_of Tryz.func192 (by kernel_rfl) rfl) JN
theorem Cz:FOk Tryz.prog 304 uu:=XW XY (by kernel_rfl) (enters_of Tryz.func304 (by kernel_rfl) rfl)
theorem FX:FOk Tryz.prog 247 yg:=fk [(192,ur),(232,qY),(304,uu)] ⟨Av,wt,Cz,trivial⟩ Tryz.func247 .no
theorem DC:FOk Tryz.prog 193 we:=fk [(166,pS),(191,nl),(247,yg)] ⟨uK,rJ,FX,trivial⟩ Tryz.func193 (.t (.t (.t (.two (.t (.loop [.s 16,.box 4 [(.own 191 (.prod y4 vp))]] .no)) .no))))
theorem AM:FOk Tryz.prog 124 tg:=fk [(103,ou),(191,nl),(192,ur),(193,we)] ⟨tn,rJ,Av,DC,trivial⟩ Tryz.func124 .no
theorem CA:FOk Tryz.prog 61 wX:=Lp (ps:=[.rd y9]) (A:=y70) (E:=84) (t:=y84) (B:=y3) (m:=m_i_ScanLog) (fk [(123,oh),(124,tg)] ⟨uJ,AM,trivial⟩ Tryz.func61 (.t (.t (.t (.t (.two (.loop [.slot 5 (.own 3 y3),.slot 6 (.own 84 y84),.s 7] .no) .no))))))
theorem kI:FOk Tryz.prog 17 iw:=fk [(41,fp),(57,mK),(58,pR),(59,kH),(60,yf),(61,wX)] ⟨iy,qF,xf,lY,FW,CA,trivial⟩ Tryz.func17 (.t (.t (.t (.two (.t (.loop [.s 37] .no)) .no))))
theorem Aw:FOk Tryz.prog 210 uv:=fk [] trivial Tryz.func210 .no
theorem oY:FOk Tryz.prog 148 mM:=fk [(210,uv)] ⟨Aw,trivial⟩ Tryz.func148 .no
theorem uL:FOk Tryz.prog 100 pT:=fk [(148,mM)] ⟨oY,trivial⟩ Tryz.func100 (.t (.t (.two (.t (.loop [.s 12,.box 3 [(.num .i64),(.own 73 y73)]] .no)) .no)))
theorem zK:FOk Tryz.prog 163 rC:=fk [(210,uv)] ⟨Aw,trivial⟩ Tryz.func163 (.t (.t (.two (.t (.loop [.s 16,.box 3 [(.num .i64),(.own 4 y4),(.own 70 y70)]] .no)) .no)))
theorem AN:FOk Tryz.prog 101 th:=fk [(163,rC),(164,ui)] ⟨zK,As,trivial⟩ Tryz.func101 (.t (.t (.two (.t (.loop [.s 12,.box 3 [(.own 141 jE),(.own 126 xn)]] .no)) (.two (.t (.loop [.s 27,.box 3 [(.own 141 jE),(.own 126 xn)]] .no)) .no))))
theorem wu:FOk Tryz.prog 38 qZ:=fk [(100,pT),(101,th)] ⟨uL,AN,trivial⟩ Tryz.func38 .no
theorem pZ:FOk Tryz.prog 40 lK:=fk [(41,fp)] ⟨iy,trivial⟩ Tryz.func40 .no
theorem mT:FOk Tryz.prog 316 gL:=fk [] trivial Tryz.func316 (.t (.two (.t (.loop [.s 8] .no)) .no))
theorem CB:FOk Tryz.prog 317 uw:=fk [] trivial Tryz.func317 .no
theorem yu:FOk Tryz.prog 273 sI:=fk [(316,gL),(317,uw)] ⟨mT,CB,trivial⟩ Tryz.func273 .no
theorem oA:FOk Tryz.prog 274 iY:=XT (n:=3) (z:=(⟨.int .i64 0,rfl⟩,⟨.int .i64 0,rfl⟩,⟨.int .i64 0,rfl⟩,⟨.int .i64 0,rfl⟩)) rfl rfl (fok (V:=⟨tt,[(318,⟨[],[],none,some (124,0)⟩)],[(12,.raw),(34,.raw),(43,.raw),(50,.raw),(53,.raw),(60,.str),(66,.raw),(73,.raw),(76,.raw),(80,.raw),(86,.raw),(91,.raw)],95,[]⟩) Jz ⟨aaa (aca (fn:=Tryz.f318) (tS:=71) (tR:=4) (E:=124) Tryz.func318 (by kernel_rfl) (by kernel_rfl) (by kernel_rfl) (by kernel_rfl) Tryz.underlying71 (TTok.get Jz rfl).ti),trivial⟩ mixed Tryz.func274 rfl rfl (enters_of Tryz.func274 (by kernel_rfl) rfl) rfl (bA rfl) rfl .no (fun d=>by kernel_rfl))
theorem DD:FOk Tryz.prog 229 wg:=fk [(118,iX),(148,mM),(186,vv),(273,sI),(274,iY)] ⟨lC,oY,zG,yu,oA,trivial⟩ Tryz.func229 (.t (.t (.t (.t (.two (.loop [.s 7] .no) .no)))))
theorem oZ:FOk Tryz.prog 275 jx:=fk [] trivial Tryz.func275 (.t (.two (.t (.loop [.s 8] .no)) .no))
theorem nw:FOk Tryz.prog 230 ix:=fk [(275,jx)] ⟨oZ,trivial⟩ Tryz.func230 .no
theorem oB:FOk Tryz.prog 276 iZ:=XQ (n:=3) (z:=(⟨.int .i64 0,rfl⟩,⟨.int .i64 0,rfl⟩,⟨.int .i64 0,rfl⟩,⟨.int .i64 0,rfl⟩)) rfl rfl (fok (V:=⟨tt,[],[(13,.raw),(22,.raw),(25,.raw),(31,.raw)],33,[]⟩) Jz trivial mixed Tryz.func276 rfl rfl (enters_of Tryz.func276 (by kernel_rfl) rfl) rfl (bA rfl) rfl .no (fun d=>by kernel_rfl))
theorem DE:FOk Tryz.prog 231 wh:=fk [(118,iX),(148,mM),(273,sI),(276,iZ)] ⟨lC,oY,yu,oB,trivial⟩ Tryz.func231 .no
theorem DF:FOk Tryz.prog 165 wi:=fk [(118,iX),(148,mM),(229,wg),(230,ix),(231,wh)] ⟨lC,oY,DD,nw,DE,trivial⟩ Tryz.func165 (.t (.t (.t (.two (.t (.loop [.s 25,.box 6 [(.own 3 y3),(.own 124 vp)]] (.t (.t (.two (.t (.t (.join [.slot 9 .boo,.box 6 [(.own 3 y3),(.own 124 vp)]] .no .no))) .no))))) .no))))
theorem CC:FOk Tryz.prog 102 uy:=fk [(41,fp),(100,pT),(165,wi)] ⟨iy,uL,DF,trivial⟩ Tryz.func102 (.t (.t (.t (.t (.t (.t (.t (.two (.t (.at [.box 6 [(.num .i64),(.own 73 y73)]] .no)) .no)))))))) (an:=[(49,.bool)])
theorem CD:FOk Tryz.prog 43 uz:=fk [(17,iw),(38,qZ),(41,fp),(102,uy),(103,ou)] ⟨kI,wu,iy,CC,tn,trivial⟩ Tryz.func43 .no
theorem p7:FOk Tryz.prog 42 lL:=fk [(43,uz)] ⟨CD,trivial⟩ Tryz.func42 .no
theorem Nh:FOk Tryz.prog 39 Es:=fk [(40,lK),(42,lL),(61,wX)] ⟨pZ,p7,CA,trivial⟩ Tryz.func39 (.t (.t (.t (.two (.t (.loop [.s 10,.s 21,.row 8 84 (.bag y84),.pbx 3 [(.num .i64),(.own 73 y73),(.own 141 jE),(.own 126 xn),(.own 93 y93),.str]] (.t (.t (.two (.atX [.s 10,.row 8 84 (.bag y84),.pbx 3 [(.num .i64),(.own 73 y73),(.own 141 jE),(.own 126 xn),(.own 93 y93),.str]] .no) .no))))) .no))))
theorem rK:FOk Tryz.prog 9 np:=fk [(17,iw),(38,qZ),(39,Es),(40,lK),(42,lL)] ⟨kI,wu,Nh,pZ,p7,trivial⟩ Tryz.func9 .no
theorem rL:FOk Tryz.prog 10 nr:=fk [(14,cC),(18,bu),(44,j8),(45,pL),(46,mI)] ⟨cW,bF,lM,sJ,pV,trivial⟩ Tryz.func10 (.t (.t (.t (.t (.t (.two (.t (.loop [.s 10,.s 11,.row 8 84 (.bag y84),.box 6 [(.num .i64),(.own 73 y73),(.own 141 jE),(.own 126 xn),(.own 93 y93),.str]] (.t (.two (.atX [.s 10,.row 8 84 (.bag y84),.box 6 [(.num .i64),(.own 73 y73),(.own 141 jE),(.own 126 xn),(.own 93 y93),.str]] .no) .no)))) .no))))))
theorem gy:FOk Tryz.prog 107 c8:=fk [] trivial Tryz.func107 (.t (.t (.two (.t (.loop [.s 17] .no)) .no)))
theorem o0:FOk Tryz.prog 177 jy:=fk [] trivial Tryz.func177 (.t (.t (.two (.t (.loop [.s 13] .no)) .no)))
theorem CE:FOk Tryz.prog 108 uA:=fk [(119,cX),(177,jy)] ⟨dO,o0,trivial⟩ Tryz.func108 .no
theorem yw:FOk Tryz.prog 47 qA:=fk [(107,c8),(108,uA)] ⟨gy,CE,trivial⟩ Tryz.func47 .no
theorem jD:FOk Tryz.prog 49 eu:=fk [] trivial Tryz.func49 (.t (.t (.two (.t (.loop [.s 13] .no)) .no)))
theorem AO:FOk Tryz.prog 11 tj:=fk [(47,qA),(48,lJ),(49,eu)] ⟨yw,pW,jD,trivial⟩ Tryz.func11 .no
theorem vK:FOk Tryz.prog 12 oK:=fk [(9,np),(17,iw),(41,fp)] ⟨rK,kI,iy,trivial⟩ Tryz.func12 .no
theorem vL:FOk Tryz.prog 13 oL:=fk [(10,nr),(14,cC),(18,bu)] ⟨rL,cW,bF,trivial⟩ Tryz.func13 .no
theorem FY:FOk Tryz.prog 15 yh:=fk [(18,bu),(45,pL),(50,cF),(54,rv),(55,mH)] ⟨bF,sJ,da,vy,pU,trivial⟩ Tryz.func15 (.t (.t (.t (.t (.t (.two (.t (.loop [.s 7,.s 11,.row 9 84 (.bag y84),.box 6 [(.num .i64),(.own 73 y73)]] (.t (.two (.atX [.s 7,.row 9 84 (.bag y84),.box 6 [(.num .i64),(.own 73 y73)]] .no) .no)))) .no))))))
theorem CF:FOk Tryz.prog 56 uB:=fk [(113,tZ)] ⟨yi,trivial⟩ Tryz.func56 (.t (.t (.two (.t (.loop [.s 5] .no)) .no)))
theorem yx:FOk Tryz.prog 16 qB:=fk [(56,uB)] ⟨CF,trivial⟩ Tryz.func16 (.t (.t (.two (.t (.loop [.s 5] .no)) .no)))
theorem DG:FOk Tryz.prog 3 Dk:=fk [(7,P1),(8,oc),(9,np),(10,nr),(11,tj),(12,oK),(13,oL),(14,cC),(15,yh),(16,qB),(17,iw),(18,bu)] ⟨X0,uF,rK,rL,AO,vK,vL,cW,FY,yx,kI,bF,trivial⟩ Tryz.func3 .no
end R
namespace D
open Go.RowKit
theorem DH (c:List Int) (r:Bool) (k:nO c=some r) {I:Hp} {w0:World} (a:Value) (b:(ay 5 rU8).rd I [a] c) (i:Lay Tryz.prog I):Con Tryz.prog 3 #[a] I w0 [] (fun v=>v= .bool r) (fun _=>[]):=fun w C f =>
 ((R.DG).con rfl w0 I undef [a] (c,()) r i ⟨_,_,rfl,⟨[a],rfl,b⟩,rfl⟩ k w C f).mono fun e j ⟨v,g,_,d⟩=>by
  obtain ⟨h1,h⟩:=R.xC (h1:=fun _=>rfl) (show St I w0 j (Ch.own R.Ty.bool.rep [v] r::C) from d);exact ⟨v,g,(List.cons.inj h1).1,h⟩
def I64 (n:Int):Prop:= -9223372036854775808<=n/\n<=9223372036854775807
class Data (α:Type) where
 lim:α->Prop
 sm:α->Prop
instance:Data Int:=⟨I64,fun _=>True⟩
instance:Data Bool:=⟨fun _=>True,fun _=>True⟩
instance:Data ByteArray:=⟨fun s=>s.size<=9223372036854775807,fun s=>s.size<=1048576⟩
instance {α β:Type} [Data α] [Data β] :Data (α×β):=⟨fun x=>Data.lim x.1/\Data.lim x.2,fun x=>Data.sm x.1/\Data.sm x.2⟩
instance {α:Type} [Data α] :Data (List α):=⟨fun xs=>xs.length<=9223372036854775807/\ ∀x,x∈xs->Data.lim x,fun xs=>xs.length<=1048576/\ ∀x,x∈xs->Data.sm x⟩
structure Opens (P:Program) (t:TypeId) {α:Type} [Data α] (R:Rep α):Prop where
 out: ∀ {H:Type} (enc:TypeId×Value->H) (w:World) (fuel:Nat) (cs:List Value) (x:DataW H×List MemPlace),DataW.trod enc P w 0 (fun _=>true) true fuel t cs=some x-> ∃a:α,R.rd (hp w) cs a/\Data.lim a
theorem TM {P:Program} {t:TypeId} (h:P.underlying t=some (.int .u8)):Opens P t rU8:=by
 constructor;intro H a w fuel d x c;obtain ⟨n,rfl,-,b⟩:=DataW.trod_int h c;refine ⟨n,rfl,show I64 n from ?_⟩;simp[Lit.wf,IntKind.min,IntKind.max,IntKind.signed,IntKind.bits] at b;unfold I64;omega
theorem JO {P:Program} {t e:TypeId} {α:Type} [Data α] {R:Rep α} {E:TypeId} (h:P.underlying t=some (.slice e)) (hc:P.cellsOf e=R.size) (U:0<R.size) (L:Opens P e R):Opens P t (ay E R):=by
 constructor;intro H N w fuel cs x C;rcases Go.Deep.open_slice h C with ⟨rfl,-⟩ | ⟨a,len,cap,m,n,D,Pl,rfl,-,hl,S,J,-,F⟩
 ·exact ⟨[],⟨none,0,rfl,by simp,.inl rfl⟩,Nat.zero_le _,fun x C=>by cases C⟩
 have K:m=cap:=by simpa using J
 subst K;rw[hc] at F;by_cases hz:len=0
 ·subst hz;exact ⟨[],⟨some a,m,rfl,by simp,.inl rfl⟩,Nat.zero_le _,fun x C=>by cases C⟩
 ·have q: ∀i,i<len-> ∃c:List Value,∃y:α,c.length=R.size/\(∀j,j<R.size->w.cell? ((a.add (i*R.size)).add j)=c[j]?)/\R.rd (hp w) c y/\Data.lim y:=by
   intro i k;obtain ⟨c,B,A⟩:=F i (by omega);obtain ⟨-,M,h4⟩:=World.cells?_some B;obtain ⟨y,l⟩:=L.out N w _ _ _ A;exact ⟨c,y,M,h4,l⟩
  obtain ⟨c0,V,Y,I,-⟩:=q 0 (by omega);have d:=I 0 U;have r: ∃v,c0[0]? =some v:=⟨_,List.getElem?_eq_getElem (by omega)⟩;obtain ⟨v,hv⟩:=r;rw[hv] at d;have ha:(a.add (0*R.size)).add 0=a:=by simp[Addr.add]
  rw[ha] at d;obtain ⟨b,off,spot⟩:=a;have Z: ∃f T z,w.heap[b]? =some (.cells f T z)/\spot=none:=by
   simp only[World.cell?] at d;split at d
   ·rename_i f T z G;cases spot with
    | none=>exact ⟨f,T,z,G,rfl⟩
    | some s=>simp at d
   ·simp at d
  obtain ⟨f,T,z,Q,rfl⟩:=Z;have u: ∀i j,(Addr.add ⟨b,off,none⟩ i).add j=⟨b,off+i+j,none⟩:=by
   intro i j;by_cases B:i=0 <;> by_cases A:j=0 <;> simp[Addr.add,B,A,Nat.add_assoc]
  haveI:Inhabited α:=⟨V⟩
  obtain ⟨X,O⟩:=Go.Deep.choose_lt (α:=α) (n:=len) (p:=fun i y=> ∃c:List Value,c.length=R.size/\(∀j,j<R.size->f.toList[off+i*R.size+j]? =c[j]?)/\R.rd (hp w) c y/\Data.lim y) (fun i k=>by
   obtain ⟨c,y,B,A,M⟩:=q i k;refine ⟨y,c,B,fun j hj=>?_,M⟩
   have:=A j hj
   rw[u] at this;simp only[World.cell?,Q] at this;simpa using this)
  have g:((List.range len).map X).length=len:=by simp
  have o: ∀i y,((List.range len).map X)[i]? =some y->i<len/\y=X i:=fun i y l=>by
   have k:i<len:=by have:=(List.getElem?_eq_some_iff.1 l).1;omega
   exact ⟨k,by simpa [k] using l.symm⟩
  refine ⟨(List.range len).map X,⟨some ⟨b,off,none⟩,m,by rw[g],by rw[g];unfold maxLen at S;unfold lim;omega,.inr ⟨b,off,f,T,z,rfl,Q,fun i y l=>?_⟩⟩,by rw[g];unfold maxLen at S;omega,fun y l=>?_⟩
  ·obtain ⟨k,rfl⟩:=o i y l;obtain ⟨c,W,e2,e3,-⟩:=O i k;exact ⟨c,W,e2,e3⟩
  ·obtain ⟨i,k,L⟩:=List.mem_iff_getElem?.1 l |>.imp fun i k=>o i y k;obtain ⟨-,-,-,-,e4⟩:=O i k;rw[L];exact e4
theorem St.below {w0 w:World} {cs:List Ch} (h:St (hp w0) w0 w cs):Below w0.heap.size w0 w:=by
 obtain ⟨⟨c,a,g,i⟩,f,-⟩:=h;refine ⟨c,a,g,i,fun b d=>?_⟩;have e:w0.heap[b]? =some w0.heap[b]:=Array.getElem?_eq_getElem d;rw[e];exact f b _ e
theorem br {n:Int} (h1: -9223372036854775808<=n) (a:n<=9223372036854775807):i64.wrap n=n:=by
 simp only[IntKind.wrap,IntKind.bits,IntKind.signed,Bool.true_and];split <;> rename_i h <;> simp at h <;> omega
theorem af {i:Nat} (h:i<9223372036854775807):i64.wrap ((i:Int)+1)=((i+1:Nat):Int):=by
 rw[br (by omega) (by omega)];rfl
theorem aM {α:Type} {xs:List α} {i:Nat} (h:i<xs.length):aS xs (i:Int)=some (xs[i]):=by
 unfold aS;rw[if_pos (Int.natCast_nonneg _)];simp[h]
theorem bL {i n:Nat} (h:i<n):decide ((i:Int)<(n:Int))=true:=by simp[h]
theorem bG {n:Nat} :decide ((n:Int)<(n:Int))=false:=by simp
theorem dq (k:Nat) (h:k<=9223372036854775807):k<aU:=by unfold aU;omega
theorem Ii {R S:Type} {f:S->Option (Out R S)} (inv:Nat->S) (N:Nat) (h: ∀i,i<N->f (inv i)=some (.nxt (inv (i+1)))): ∀(m i k:Nat),i+m=N->ah f (k+m) (inv i)=ah f k (inv N)
 | 0,i,k,e=>by rw[show i=N by omega];rfl
 | m+1,i,k,e=>by
  rw[<-Nat.add_assoc,ah,h i (by omega)];exact Ii inv N h m (i+1) k (by omega)
theorem P8 {R S:Type} {f:S->Option (Out R S)} (inv:Nat->S) (N:Nat) {s:S} (h: ∀i,i<N->f (inv i)=some (.nxt (inv (i+1)))) (a:f (inv N)=some (.brk s)) (b:N<aU):ah f aU (inv 0)=some (.brk s):=by
 have e:aU=(aU - N - 1)+1+N:=by omega
 rw[e,Ii inv N h N 0 _ (by omega),ah,a]
theorem adt {α:Type} [Data α] {f:Int×Int->Option (Out Int (Int×Int))} (xs:List α)
  (a: ∀i (h:i<xs.length) l,0<=l->l<=1048576-> ∃r,f (l,(i:Int))=some (if r<0 then .ret (-1) else .nxt (r,((i+1:Nat):Int)))/\(r<0\/(0<=r/\r<=l/\Data.sm xs[i])))
  (b: ∀l,f (l,(xs.length:Int))=some (.brk (l,(xs.length:Int)))): ∀(m i k:Nat) (l:Int),i+m=xs.length->m<k->0<=l->l<=1048576->
   ah f k (l,(i:Int))=some (.ret (-1))\/ ∃r,ah f k (l,(i:Int))=some (.brk (r,(xs.length:Int)))/\0<=r/\r<=l/\ ∀j (h:j<xs.length),i<=j->Data.sm xs[j]
 | 0,i,k,l,e,hk,h0,h1=>by
  obtain ⟨k,rfl⟩: ∃q,k=q+1:=⟨k - 1,by omega⟩;obtain rfl:i=xs.length:=by omega
  exact .inr ⟨l,by rw[ah,b],h0,Int.le_refl _,fun j g n=>by omega⟩
 | m+1,i,k,l,e,hk,h0,h1=>by
  obtain ⟨k,rfl⟩: ∃q,k=q+1:=⟨k - 1,by omega⟩;obtain ⟨r,o,c⟩:=a i (by omega) l h0 h1;rw[ah,o];rcases c with c | ⟨c,w,p⟩
  ·rw[if_pos c];exact .inl rfl
  ·rw[if_neg (by omega)];rcases adt xs a b m (i+1) k r (by omega) (by omega) c (by omega) with h | ⟨q,s,t,v,u⟩
   ·exact .inl h
   ·refine .inr ⟨q,s,t,by omega,fun j g n=>?_⟩;by_cases d:j=i
    ·subst d;exact p
    ·exact u j g (by omega)
theorem szL {α:Type} [Data α] {f:Int×Int->Option (Out Int (Int×Int))} (xs:List α) {l:Int} (g:xs.length<=9223372036854775807)
  (a: ∀i (h:i<xs.length) l,0<=l->l<=1048576-> ∃r,f (l,(i:Int))=some (if r<0 then .ret (-1) else .nxt (r,((i+1:Nat):Int)))/\(r<0\/(0<=r/\r<=l/\Data.sm xs[i])))
  (b: ∀l,f (l,(xs.length:Int))=some (.brk (l,(xs.length:Int)))) (o:0<=l) (h1:l<=1048576) :
  ∃r,(if decide (i64.wrap (l - (xs.length:Int))<0) then (some (-1)) else (aO (ah f aU (i64.wrap (l - (xs.length:Int)),0)) (fun r=>some r) (fun c=>some c.1)))=some r/\(r<0\/(0<=r/\r<=l/\Data.sm xs)):=by
 rw[br (by omega) (by omega)];by_cases h:l - (xs.length:Int)<0
 ·exact ⟨-1,by rw[if_pos (decide_eq_true h)],.inl (by decide)⟩
 ·rw[if_neg (by simpa using h)];rcases adt xs a b xs.length 0 aU (l - xs.length) (by omega) (dq _ g) (by omega) (by omega) with e | ⟨r,e,m,p,d⟩
  ·exact ⟨-1,by rw[show ((0:Int))=((0:Nat):Int) from rfl,e];rfl,.inl (by decide)⟩
  ·refine ⟨r,by rw[show ((0:Int))=((0:Nat):Int) from rfl,e];rfl,.inr ⟨m,by omega,by omega,fun x n=>?_⟩⟩;obtain ⟨j,k,rfl⟩:=List.getElem_of_mem n;exact d j k (Nat.zero_le _)
theorem acw {α:Type} [DecidableEq α] {f:Int->Option (Out Bool Int)} (xs ys:List α) (l:xs.length=ys.length)
  (a: ∀i (h:i<xs.length) (n:i<ys.length),f (i:Int)=some (if xs[i] =ys[i] then .nxt ((i+1:Nat):Int) else .ret false)) (b:f (xs.length:Int)=some (.brk (xs.length:Int))): ∀(m i k:Nat),i+m=xs.length->m<k->
   ah f k (i:Int)=some (if xs.drop i=ys.drop i then .brk (xs.length:Int) else .ret false)
 | 0,i,k,e,hk=>by
  obtain ⟨k,rfl⟩: ∃q,k=q+1:=⟨k - 1,by omega⟩;obtain rfl:i=xs.length:=by omega
  rw[ah,b,List.drop_of_length_le (aH _),List.drop_of_length_le (by omega),if_pos rfl]
 | m+1,i,k,e,hk=>by
  obtain ⟨k,rfl⟩: ∃q,k=q+1:=⟨k - 1,by omega⟩;have d:i<xs.length:=by omega
  have c:i<ys.length:=by omega
  have g:=List.drop_eq_getElem_cons d;have j:=List.drop_eq_getElem_cons c;rw[ah,a i d c,g,j];by_cases h:xs[i] =ys[i]
  ·rw[if_pos h];simp only;rw[acw xs ys l a b m (i+1) k (by omega) (by omega)];simp only[List.cons.injEq,h,true_and]
  ·rw[if_neg h];simp only[List.cons.injEq,h,false_and,if_false]
theorem eqL {α:Type} [DecidableEq α] {f:Int->Option (Out Bool Int)} (xs ys:List α) (d:xs.length<=9223372036854775807)
  (a: ∀i (h:i<xs.length) (g:i<ys.length),f (i:Int)=some (if xs[i] =ys[i] then .nxt ((i+1:Nat):Int) else .ret false)) (b:f (xs.length:Int)=some (.brk (xs.length:Int))) :
  (if (xs.length:Int) !=(ys.length:Int) then (some false) else (aO (ah f aU 0) (fun r=>some r) (fun j=>some true)))=some (decide (xs=ys)):=by
 by_cases c:xs.length=ys.length
 ·rw[if_neg (by rw[c];simp),show ((0:Int))=((0:Nat):Int) from rfl,acw xs ys c a b xs.length 0 aU (by omega) (dq _ d)];by_cases h:xs=ys
  ·subst h;simp[aO]
  ·simp[aO,h]
 ·have:xs≠ys:=fun e=>c (by rw[e])
  rw[if_pos (by simp;omega)];simp[this]
theorem P9 {α:Type} {c d:Prop} [Decidable c] [Decidable d] {a b:α} (h:c↔d):(if c then some a else some b)=some (if d then a else b):=by
 by_cases k:c
 ·rw[if_pos k,if_pos (h.1 k)]
 ·rw[if_neg k,if_neg (fun e=>k (h.2 e))]
theorem eqB {α:Type} [DecidableEq α] {f:Int->Option (Out Bool Int)} {K:Option Bool} (xs ys:List α) (d:xs.length<=9223372036854775807) (c:xs.length=ys.length)
  (a: ∀i (h:i<xs.length) (e:i<ys.length),f (i:Int)=some (if xs[i] =ys[i] then .nxt ((i+1:Nat):Int) else .ret false)) (b:f (xs.length:Int)=some (.brk (xs.length:Int))) :
  aO (ah f aU 0) (fun r=>some r) (fun g=>K)=(if xs=ys then K else some false):=by
 rw[show ((0:Int))=((0:Nat):Int) from rfl,acw xs ys c a b xs.length 0 aU (by omega) (dq _ d)];by_cases h:xs=ys
 ·subst h;simp[aO]
 ·simp[aO,h]
theorem aal {f:Int->Option (Out Int Int)} (xs ys:List Int)
  (a: ∀i (h:i<xs.length) (u:i<ys.length),f (i:Int)=some (if xs[i] < ys[i] then .ret (-1) else if xs[i] > ys[i] then .ret 1 else .nxt ((i+1:Nat):Int))) (b: ∀i,xs.length<=i\/ys.length<=i->f (i:Int)=some (.brk (i:Int))): ∀(m i k:Nat),i+m=xs.length->m<k->
   (∃r,ah f k (i:Int)=some (.ret r)/\r≠0/\xs≠ys)\/ ∃s,ah f k (i:Int)=some (.brk s)/\(xs.length=ys.length->xs.drop i=ys.drop i)
 | 0,i,k,e,hk=>by
  obtain ⟨k,rfl⟩: ∃q,k=q+1:=⟨k - 1,by omega⟩;exact .inr ⟨_,by rw[ah,b i (.inl (by omega))],fun h=>by rw[List.drop_of_length_le (by omega),List.drop_of_length_le (by omega)]⟩
 | m+1,i,k,e,hk=>by
  obtain ⟨k,rfl⟩: ∃q,k=q+1:=⟨k - 1,by omega⟩;have g:i<xs.length:=by omega
  by_cases d:i<ys.length
  ·have c: ∀h:xs[i] ≠ys[i],xs≠ys:=fun h e=>h (by subst e;rfl);rw[ah,a i g d];by_cases l:xs[i] < ys[i]
   ·rw[if_pos l];exact .inl ⟨-1,rfl,by decide,c (by omega)⟩
   ·rw[if_neg l];by_cases j:xs[i] > ys[i]
    ·rw[if_pos j];exact .inl ⟨1,rfl,by decide,c (by omega)⟩
    ·rw[if_neg j];rcases aal xs ys a b m (i+1) k (by omega) (by omega) with h | ⟨s,o,p⟩
     ·exact .inl h
     ·refine .inr ⟨s,o,fun n=>?_⟩;have t:xs[i] =ys[i]:=by omega
      rw[List.drop_eq_getElem_cons g,List.drop_eq_getElem_cons d,p n,t]
  ·exact .inr ⟨_,by rw[ah,b i (.inr (by omega))],fun h=>by omega⟩
instance:LawfulBEq ByteArray where
 eq_of_beq {a b} h:=ByteArray.ext (eq_of_beq (show (a.data==b.data)=true from h))
 rfl {a}:=beq_self_eq_true a.data
theorem adP {α β γ:Type} {a b:α×β×γ} :(a.1=b.1/\a.2.1=b.2.1/\a.2.2=b.2.2)↔a=b:=by rw[Prod.ext_iff,Prod.ext_iff]
theorem adQ {α β γ δ:Type} {a b:α×β×γ×δ} :(a.1=b.1/\a.2.1=b.2.1/\a.2.2.1=b.2.2.1/\a.2.2.2=b.2.2.2)↔a=b:=by rw[Prod.ext_iff,Prod.ext_iff,Prod.ext_iff]
theorem fM {α β:Type} (p:α×β):(p.1,p.2)=p:=rfl
theorem aR {α:Type} [Data α] {xs:List α} (h:Data.sm xs):xs.length<=1048576/\ ∀x,x∈xs->Data.sm x:=h
theorem b9 {R S:Type} {f:S->Option (Out R S)} (Inv:Nat->S->Prop) (Q:Out R S->Prop) (N:Nat)
  (h: ∀i s,i<=N->Inv i s->(i<N/\ ∃a,f s=some (.nxt a)/\Inv (i+1) a)\/ ∃o,f s=some o/\(∀a,o≠ .nxt a)/\Q o) {s:S} (j:Inv 0 s) (q:N<aU): ∃o,ah f aU s=some o/\Q o:=by
 have key: ∀(k i:Nat) (s:S),i<=N->N<i+k->Inv i s-> ∃o,ah f k s=some o/\Q o:=by
  intro k;induction k with
  | zero=>intro i s d m;omega
  | succ k ih =>
   intro i s d m l;rcases h i s d l with ⟨p,a,e,b⟩ | ⟨o,e,g,c⟩
   ·obtain ⟨o,n,c⟩:=ih (i+1) a (by omega) (by omega) b;exact ⟨o,by rw[ah,e];exact n,c⟩
   ·refine ⟨o,?_,c⟩;rw[ah,e];cases o with
    | nxt a=>exact absurd rfl (g a)
    | brk a=>rfl
    | ret r=>rfl
 exact key aU 0 s (by omega) (by omega) j
theorem gz {R S:Type} {f:S->Option (Out R S)} (Inv:Nat->S->Prop) (N:Nat) (h: ∀i s,i<N->Inv i s-> ∃a,f s=some (.nxt a)/\Inv (i+1) a) (d: ∀s,Inv N s->f s=some (.brk s)) {s:S} (j:Inv 0 s) (g:N<aU): ∃a,ah f aU s=some (.brk a)/\Inv N a:=by
 obtain ⟨o,e,a,rfl,h⟩:=b9 (f:=f) Inv (fun o=> ∃a,o= .brk a/\Inv N a) N (fun i s k b=>by
  by_cases c:i<N
  ·exact .inl ⟨c,h i s c b⟩
  ·obtain rfl:i=N:=by omega
   exact .inr ⟨_,d s b,(fun a e=>by cases e),s,rfl,b⟩) j g
 exact ⟨a,e,h⟩
theorem aY {R S:Type} {f:S->Option (Out R S)} (a:Nat->S) (N:Nat) (h: ∀i,i<N->f (a i)=some (.nxt (a (i+1)))) (b:f (a N)=some (.brk (a N))) (c:N<aU):ah f aU (a 0)=some (.brk (a N)):=P8 a N h b c
theorem pa {k:Nat} (h:k<=9223372036854775807):k<aU:=dq k h
theorem FZ {i:Nat} (h:i<=9223372036854775807):i64.wrap (i:Int)=(i:Int):=br (by omega) (by omega)
theorem fG {i:Nat} (h:i<=9223372036854775807):i64.wrap ((i:Int) - 1)=(i:Int) - 1:=br (by omega) (by omega)
theorem ax {α:Type} {b:Nat} {xs ys:List α} (h:(xs.length+ys.length)*b<=140737488355328):bw b xs ys=some (xs++ys):=by unfold bw;rw[if_pos h]
theorem X1 {i n:Nat} :decide ((i:Int)<(n:Int))=decide (i<n):=by simp
theorem bD {R S T:Type} {x:Option (Out R S)} {r:R} {a:R->Option T} {k:S->Option T} (h:x=some (.ret r)):aO x a k=a r:=by rw[h];rfl
theorem aj {R S T:Type} {x:Option (Out R S)} {s:S} {a:R->Option T} {k:S->Option T} (h:x=some (.brk s)):aO x a k=k s:=by rw[h];rfl
def nth {α:Type} [Inhabited α] (xs:List α) (i:Int):α:=xs.getD i.toNat default
section
variable {α:Type} [Inhabited α] {xs ys:List α}
theorem aw {i:Int} (a:0<=i) (h1:i<xs.length):aS xs i=some (nth xs i):=by
 unfold aS nth;rw[if_pos a]
 have:i.toNat<xs.length:=by omega
 simp[List.getD_eq_getElem?_getD,this]
theorem bH {i:Nat} (h:i<xs.length):nth xs (i:Int)=xs[i]:=by simp[nth,List.getD_eq_getElem?_getD,h]
theorem cw {i:Int} (a:0<=i) (h1:i<xs.length):nth xs i∈xs:=by
 have:i.toNat<xs.length:=by omega
 have e:nth xs i=xs[i.toNat]:=by simp[nth,List.getD_eq_getElem?_getD,this]
 rw[e];exact List.getElem_mem this
theorem ke {i:Int} (a:0<=i) (h1:i<xs.length):nth (xs++ys) i=nth xs i:=by
 have:i.toNat<xs.length:=by omega
 simp[nth,List.getD_eq_getElem?_getD,List.getElem?_append_left this]
theorem X2 {β:Type} [Inhabited β] {f:α->β} {i:Int} (a:0<=i) (h1:i<xs.length):nth (xs.map f) i=f (nth xs i):=by
 have:i.toNat<xs.length:=by omega
 simp[nth,List.getD_eq_getElem?_getD,this]
theorem CG {x:α} (h:x∈xs): ∃i:Nat,i<xs.length/\nth xs (i:Int)=x:=by
 obtain ⟨i,a,rfl⟩:=List.getElem_of_mem h;exact ⟨i,a,bH a⟩
theorem qG {i:Int} {x:α} (a:0<=i) (h1:i<xs.length):nth (xs.set i.toNat x) i=x:=by
 have:i.toNat<xs.length:=by omega
 simp[nth,List.getD_eq_getElem?_getD,this]
theorem vz {i j:Int} {x:α} (b:0<=i) (a:0<=j) (h:i≠j):nth (xs.set i.toNat x) j=nth xs j:=by
 have:i.toNat≠j.toNat:=by omega
 simp[nth,List.getD_eq_getElem?_getD,List.getElem?_set_ne this]
theorem X3 (h:xs.length=ys.length) (k: ∀i:Nat,i<xs.length->nth xs (i:Int)=nth ys (i:Int)):xs=ys:=by
 refine List.ext_getElem h fun i a b=>?_
 have:=k i a
 rwa [bH a,bH b] at this
end
section
variable {κ:Type} [DecidableEq κ]
def nbL (l:List κ):Option κ->List κ
 | none=>l
 | some x=>if x∈l then l else l++ [x]
def nbI (l:List κ):Option κ->Int
 | none=> -1
 | some x=>(l.idxOf x:Int)
def nbS (l:List κ) (os:List (Option κ)):List κ:=os.foldl nbL l
def nbR (l:List κ):List (Option κ)->List Int
 | [] =>[]
 | o::os=>nbI l o::nbR (nbL l o) os
theorem yy (l:List κ) (os:List (Option κ)) (o:Option κ):nbS l (os++ [o])=nbL (nbS l os) o:=by simp[nbS]
theorem vA: ∀(l:List κ) (os:List (Option κ)) (o:Option κ),nbR l (os++ [o])=nbR l os++ [nbI (nbS l os) o]
 | l,[],o=>rfl
 | l,p::os,o=>by
  show nbI l p::nbR (nbL l p) (os++ [o])=nbI l p::nbR (nbL l p) os++ [nbI (nbS (nbL l p) os) o];rw[vA (nbL l p) os o];rfl
theorem jk: ∀(l:List κ) (os:List (Option κ)),(nbR l os).length=os.length
 | l,[] =>rfl
 | l,o::os=>by show (nbR (nbL l o) os).length+1=_;rw[jk];rfl
theorem Ni (l : List κ) (o : Option κ) : l <+: nbL l o := by
  cases o with
  | none => exact List.prefix_refl l
  | some x => unfold nbL; simp only; split
              · exact List.prefix_refl l
              · exact List.prefix_append l [x]
theorem ny: ∀(l:List κ) (os:List (Option κ)),l <+:nbS l os
 | l,[] =>List.prefix_refl l
 | l,o::os=>(Ni l o).trans (ny (nbL l o) os)
theorem Qa {l : List κ} {o : Option κ} (h : l.Nodup) : (nbL l o).Nodup := by
  cases o with
  | none => exact h
  | some x => unfold nbL; simp only; split
              · exact h
              · rename_i e; exact List.nodup_append.2 ⟨h, by simp, by rintro a d b c rfl; simp at c; exact e (c ▸ d)⟩
theorem uM: ∀ {l:List κ} {os:List (Option κ)},l.Nodup->(nbS l os).Nodup
 | l,[],h=>h
 | l,o::os,h=>uM (l:=nbL l o) (os:=os) (Qa h)
theorem Qb {l : List κ} {o : Option κ} {x : κ} : x ∈ nbL l o ↔ x ∈ l \/ o = some x := by
  cases o with
  | none => simp [nbL]
  | some y => unfold nbL; simp only; split
              · rename_i h; constructor
                · exact .inl
                · rintro (a | a)
                  · exact a
                  · simp at a; exact a ▸ h
              · simp; exact or_congr Iff.rfl eq_comm
theorem zL: ∀ {l:List κ} {os:List (Option κ)} {x:κ},x∈nbS l os↔x∈l\/some x∈os
 | l,[],x=>by simp[nbS]
 | l,o::os,x=>by
  show x∈nbS (nbL l o) os↔_;rw[zL,Qb,List.mem_cons,or_assoc];exact or_congr Iff.rfl (or_congr eq_comm Iff.rfl)
theorem oC {l:List κ} {x:κ} (h:x∈l):nbL l (some x)=l:=by simp[nbL,h]
theorem oD {l:List κ} {x:κ} (h:x∉l):nbL l (some x)=l++ [x]:=by simp[nbL,h]
theorem rM {l:List κ} {x:κ} (h:x∉l):l.idxOf x=l.length:=List.idxOf_eq_length h
def bfS (nx:κ->List (Option κ)) (first:κ):Nat->List κ
 | 0=>[first]
 | i+1=>match (bfS nx first i)[i]? with
  | some x=>nbS (bfS nx first i) (nx x)
  | none=>bfS nx first i
def bfR (nx:κ->List (Option κ)) (first:κ):Nat->List (List Int)
 | 0=>[]
 | i+1=>bfR nx first i++(match (bfS nx first i)[i]? with
  | some x=>[nbR (bfS nx first i) (nx x)]
  | none=>[])
variable {nx:κ->List (Option κ)} {first:κ}
theorem F5 {i:Nat} (h:i<(bfS nx first i).length):bfS nx first (i+1)=nbS (bfS nx first i) (nx ((bfS nx first i)[i])):=by
 rw[bfS,List.getElem?_eq_getElem h]
theorem yz {i:Nat} (h:i<(bfS nx first i).length):bfR nx first (i+1)=bfR nx first i++ [nbR (bfS nx first i) (nx ((bfS nx first i)[i]))]:=by
 rw[bfR,List.getElem?_eq_getElem h]
theorem cg (i:Nat):bfS nx first i <+:bfS nx first (i+1):=by
 rw[bfS];split
 ·exact ny _ _
 ·exact List.prefix_refl _
theorem zM {i j:Nat} (h:i<=j):bfS nx first i <+:bfS nx first j:=by
 induction h with
 | refl=>exact List.prefix_refl _
 | step _ ih=>exact ih.trans (cg _)
theorem p8: ∀i,(bfS nx first i).Nodup
 | 0=>by simp[bfS]
 | i+1=>by
  rw[bfS];split
  ·exact uM (p8 i)
  ·exact p8 i
theorem mO {G:κ->Prop} (b:G first) (h: ∀x,G x-> ∀y,some y∈nx x->G y): ∀i,∀x∈bfS nx first i,G x
 | 0=>by simp[bfS];exact b
 | i+1=>by
  rw[bfS];split
  ·rename_i y c;intro x a;rcases zL.1 a with a | a
   ·exact mO b h i x a
   ·exact h y (mO b h i y (List.mem_of_getElem? c)) x a
  ·exact mO b h i
theorem Ij (i:Nat):(bfS nx first i)[0]? =some first:=by
 obtain ⟨t,a⟩:=zM (nx:=nx) (first:=first) (Nat.zero_le i);rw[<-a];rfl
theorem lZ: ∀ {i:Nat},(∀j,j<i->j<(bfS nx first j).length)->(bfR nx first i).length=i
 | 0,_=>rfl
 | i+1,h=>by rw[yz (h i (by omega)),az,lZ fun j a=>h j (by omega)];rfl
def bfE (nx:κ->List (Option κ)) (first:κ) (N:Nat):Prop:=N=(bfS nx first N).length/\ ∀i,i<N->i<(bfS nx first i).length
theorem Vs {B:Nat} (f: ∀i,(bfS nx first i).length<=B): ∃N,N<=B/\bfE nx first N:=by
 have key: ∀m i,i+m=B->(∀j,j<i->j<(bfS nx first j).length)-> ∃N,N<=B/\bfE nx first N:=by
  intro m;induction m with
  | zero =>
   intro i c a;have g:=f i;have b:i<=(bfS nx first i).length:=by
    cases i with
    | zero=>omega
    | succ i =>
     have:=a i (by omega)
     have hp:=(cg (nx:=nx) (first:=first) i).length_le;omega
   exact ⟨i,by omega,by omega,a⟩
  | succ m ih =>
   intro i c a;by_cases h:i<(bfS nx first i).length
   ·exact ih (i+1) (by omega) fun j d=>by
     by_cases e:j=i
     ·subst e;exact h
     ·exact a j (by omega)
   ·have b:i<=(bfS nx first i).length:=by
     cases i with
     | zero=>omega
     | succ i =>
      have:=a i (by omega)
      have hp:=(cg (nx:=nx) (first:=first) i).length_le;omega
    exact ⟨i,by omega,by omega,a⟩
 exact key B 0 (by omega) (by omega)
theorem TN {N M:Nat} (h:bfE nx first N) (k:bfE nx first M):N=M:=by
 rcases Nat.lt_trichotomy N M with e | e | e
 ·have:=k.2 N e;have:=h.1;omega
 ·exact e
 ·have:=h.2 M e;have:=k.1;omega
end
theorem Lu (x:Int):0<=rU x 255/\rU x 255<=255:=by
 have h:(BitVec.ofInt 64 x &&& BitVec.ofInt 64 255).toNat<=255:=by
  rw[BitVec.toNat_and];exact Nat.le_trans Nat.and_le_right (by decide)
 unfold rU;rw[br (by omega) (by omega)];omega
def gJ (xs:List Int) (i:Int):Prop:=0<=i/\i<=(xs.length:Int)
section
variable {xs:List Int} {i h:Int}
theorem acx (n:xs.length<=1048576): ∃r:Int×Int,xS xs=some r/\gJ xs r.1:=by
 have key: ∃s,ah (qo xs) aU (i64.wrap (10101+(xs.length:Int)),0)=some (.brk s):=by
  obtain ⟨o,e,s,rfl⟩:=b9 (f:=qo xs) (fun j s=>s.2=(j:Int)) (fun o=> ∃s,o= .brk s) xs.length (fun j s m g=>by
   obtain ⟨a,b⟩:=s;obtain rfl:b=(j:Int):=g;unfold qo;simp only;rw[X1];by_cases d:j<xs.length
   ·rw[if_pos (by simpa using d)];by_cases c:((j:Nat):Int)<4000
    ·rw[if_pos (by simpa using c),aw (by omega) (by omega)];simp only[aa];exact .inl ⟨d,_,rfl,by show i64.wrap ((j:Int)+1)=_;rw[br (by omega) (by omega)];omega⟩
    ·rw[if_neg (by simpa using c)];exact .inr ⟨_,rfl,(fun k e=>by cases e),_,rfl⟩
   ·rw[if_neg (by simpa using d)];exact .inr ⟨_,rfl,(fun k e=>by cases e),_,rfl⟩) (s:=(i64.wrap (10101+(xs.length:Int)),0)) rfl (pa (by omega))
  exact ⟨s,e⟩
 obtain ⟨s,l⟩:=key;unfold xS;rw[aj l];exact ⟨_,rfl,by show (0:Int)<=0;omega,by show (0:Int)<=_;omega⟩
theorem CH (b:xs.length<=1048576) (a:gJ xs i): ∃r:Int×Int×Int,jf (xs,i,h)=some r/\(0<=r.1/\r.1<=255)/\gJ xs r.2.1:=by
 unfold jf;simp only;by_cases c:i<(xs.length:Int)
 ·rw[if_pos (by simpa using c),aw a.1 c];simp only[aa];refine ⟨_,rfl,Lu _,?_⟩;show gJ xs (i64.wrap (i+1))
  have:=a.1
  rw[br (by omega) (by omega)];exact ⟨by omega,by omega⟩
 ·rw[if_neg (by simpa using c)];simp only[aa];exact ⟨_,rfl,Lu _,a⟩
theorem bp (g:xs.length<=1048576) (o:gJ xs i) {n:Int} (j:0<n): ∃r:Int×Int×Int,aK (xs,i,h) n=some r/\(0<=r.1/\r.1<n)/\gJ xs r.2.1:=by
 unfold aK;simp only;rw[if_neg (by simpa using j)];have f:chk (n≠0)=some ():=by unfold chk;rw[if_pos (by omega)]
 by_cases c:n<=256
 ·rw[if_pos (by simpa using c)];obtain ⟨r,e,m,l⟩:=CH (h:=h) g o;rw[e,f];simp only[aa];exact ⟨_,rfl,⟨Int.tmod_nonneg _ m.1,Int.tmod_lt_of_pos _ j⟩,l⟩
 ·rw[if_neg (by simpa using c)];obtain ⟨a,x,m,w⟩:=CH (h:=h) g o;rw[x];simp only[aa];obtain ⟨b,C,l,q⟩:=CH (h:=a.2.2) g w;rw[C];simp only[aa];obtain ⟨d,B,E,z⟩:=CH (h:=b.2.2) g q;rw[B];simp only[aa];obtain ⟨k,A,F,t⟩:=CH (h:=d.2.2) g z;rw[A,f];simp only[aa];have v:i64.wrap (a.1*16777216)=a.1*16777216:=br (by omega) (by omega);have D:i64.wrap (b.1*65536)=b.1*65536:=br (by omega) (by omega);have s:i64.wrap (d.1*256)=d.1*256:=br (by omega) (by omega);have p:i64.wrap (a.1*16777216+b.1*65536)=a.1*16777216+b.1*65536:=br (by omega) (by omega);have u:i64.wrap (a.1*16777216+b.1*65536+d.1*256)=a.1*16777216+b.1*65536+d.1*256:=br (by omega) (by omega);have y:i64.wrap (a.1*16777216+b.1*65536+d.1*256+k.1)=a.1*16777216+b.1*65536+d.1*256+k.1:=br (by omega) (by omega);rw[v,D,s,p,u,y];exact ⟨_,rfl,⟨Int.tmod_nonneg _ (by omega),Int.tmod_lt_of_pos _ j⟩,t⟩
theorem wv (c:xs.length<=1048576) (b:gJ xs i) {n:Int} (a:0<n): ∃r:Bool×Int×Int,cA (xs,i,h) n=some r/\gJ xs r.2.1:=by
 obtain ⟨r,e,-,k⟩:=bp (h:=h) c b a;unfold cA;simp only;rw[e];exact ⟨_,rfl,k⟩
theorem eN (d:xs.length<=1048576) (c:gJ xs i) {l:List Int} (b:l≠ []): ∃r:Int×Int×Int,bW (xs,i,h) l=some r/\r.1∈l/\gJ xs r.2.1:=by
 have hp:0<(l.length:Int):=by have:=List.length_pos_iff.2 b;omega
 obtain ⟨r,e,a,k⟩:=bp (h:=h) d c hp;unfold bW;simp only;rw[e];simp only[aa];rw[aw a.1 a.2];simp only[aa];exact ⟨_,rfl,cw a.1 a.2,k⟩
theorem aam (d:xs.length<=1048576) (c:gJ xs i) {l:List ByteArray} (b:l≠ []): ∃r:ByteArray×Int×Int,ve (xs,i,h) l=some r/\r.1∈l/\gJ xs r.2.1:=by
 have hp:0<(l.length:Int):=by have:=List.length_pos_iff.2 b;omega
 obtain ⟨r,e,a,k⟩:=bp (h:=h) d c hp;unfold ve;simp only;rw[e];simp only[aa];rw[aw a.1 a.2];simp only[aa];exact ⟨_,rfl,cw a.1 a.2,k⟩
end
abbrev AutT:=Int×(List Bool)×(List (List Int))
structure VA (a:AutT) (n:Nat):Prop where
 len:a.2.1.length=n
 start:0<=a.1/\a.1<n
 nlen:a.2.2.length=n
 row: ∀r∈a.2.2,r.length=9
 ent: ∀r∈a.2.2,∀t∈r,-1<=t/\t<n
def mv (a:AutT) (s:Int) (k:Nat):Int:=nth (nth a.2.2 s) k
theorem AP (x l h:Int):cy x l h=some (decide (l<=x/\x<=h)):=by
 unfold cy;by_cases c:l<=x
 ·simp[c]
 ·have: ¬l<=x/\True:=⟨c,trivial⟩
  simp[c]
theorem JP (x l h:Int):cO x l h=some (decide (l<=x/\x<=h)):=by
 unfold cO;by_cases c:l<=x
 ·simp[c]
 ·simp[c]
theorem scan {α R:Type} [Inhabited α] {f:Int->Option (Out R Int)} (xs:List α) (p:α->Prop) [DecidablePred p] (r:R) (k:xs.length<=9223372036854775807)
  (h: ∀i:Nat,i<xs.length->f (i:Int)=some (if p (nth xs i) then .nxt ((i+1:Nat):Int) else .ret r)) (m:f (xs.length:Int)=some (.brk (xs.length:Int))) :
  (ah f aU 0=some (.brk (xs.length:Int))/\ ∀x∈xs,p x)\/(ah f aU 0=some (.ret r)/\ ¬ ∀x∈xs,p x):=by
 obtain ⟨o,e,a⟩:=b9 (f:=f) (fun i s=>s=(i:Int)/\ ∀j:Nat,j<i->p (nth xs j)) (fun o=>(o= .brk (xs.length:Int)/\ ∀x∈xs,p x)\/(o= .ret r/\ ¬ ∀x∈xs,p x)) xs.length (s:=0) (by
  rintro i s n ⟨rfl,hp⟩;by_cases b:i<xs.length
  ·by_cases c:p (nth xs i)
   ·refine .inl ⟨b,_,by rw[h i b,if_pos c],rfl,fun j g=>?_⟩;by_cases e:j=i
    ·subst e;exact c
    ·exact hp j (by omega)
   ·refine .inr ⟨_,by rw[h i b,if_neg c],(fun l e=>by cases e),.inr ⟨rfl,fun d=>c (d _ (cw (by omega) (by omega)))⟩⟩
  ·obtain rfl:i=xs.length:=by omega
   refine .inr ⟨_,m,(fun l e=>by cases e),.inl ⟨rfl,fun x d=>?_⟩⟩;obtain ⟨j,g,rfl⟩:=CG d;exact hp j g) ⟨rfl,by omega⟩ (pa k)
 rcases a with ⟨rfl,a⟩ | ⟨rfl,a⟩
 ·exact .inl ⟨e,a⟩
 ·exact .inr ⟨e,a⟩
section
variable {a:AutT} {n:Nat} (V:VA a n)
include V
theorem VA.pos:0<n:=by have:=V.start;omega
theorem VA.rowAt {s:Int} (b:0<=s) (h1:s<n):(nth a.2.2 s).length=9:=V.row _ (cw b (by rw[V.nlen];exact h1))
theorem VA.mv {s:Int} {k:Nat} (b:0<=s) (h1:s<n) (c:k<9): -1<=mv a s k/\mv a s k<n:=
 V.ent _ (cw b (by rw[V.nlen];exact h1)) _ (cw (by omega) (by rw[V.rowAt b h1];omega))
theorem VA.get {s:Int} (b:0<=s) (h1:s<n):aS a.2.2 s=some (nth a.2.2 s):=aw b (by rw[V.nlen];exact h1)
theorem VA.get2 {s:Int} {k:Nat} (b:0<=s) (h1:s<n) (c:k<9):aS (nth a.2.2 s) (k:Int)=some (D.mv a s k):=aw (by omega) (by rw[V.rowAt b h1];omega)
theorem VA.acc {s:Int} (b:0<=s) (h1:s<n):aS a.2.1 s=some (nth a.2.1 s):=aw b (by rw[V.len];exact h1)
theorem aan {s:Int} {k:Nat} (b:0<=s) (h1:s<n) (c:k<9):gl a s (k:Int)=some (mv a s k):=by
 unfold gl lR;rw[if_neg (by simp;omega),JP];simp only[aa];rw[if_pos (by simp;omega),V.get b h1];simp only[aa];rw[V.get2 b h1 c];rfl
end
abbrev Tok:=Int×Int×Int×Int
def ar (t:Tok):Int:=
 if t.1=1\/t.1=2 then (if t.2.1=0/\t.2.2.1=0/\t.2.2.2=0 then 0 else -1)
 else if t.1=3 then (if (0<=t.2.1/\t.2.1<=8)/\t.2.2.1=0/\t.2.2.2=0 then 0 else -1)
 else if t.1=4\/t.1=5 then (if t.2.1=0/\t.2.2.1=0/\t.2.2.2=0 then 2 else -1)
 else if t.1=6 then (if t.2.1=0/\t.2.2.1=0/\t.2.2.2=0 then 1 else -1)
 else if t.1=7 then (if t.2.1=0/\(0<=t.2.2.1/\t.2.2.1<=t.2.2.2)/\(1<=t.2.2.2/\t.2.2.2<=3) then 1 else -1)
 else -1
theorem TO (x:Int):nU x=some (decide (0<=x/\x<=8)):=by unfold nU;rw[AP];rfl
theorem TP (x:Int):lR x=some (decide (0<=x/\x<=8)):=by unfold lR;rw[JP];rfl
theorem adu (t:Tok):pw t=some (ar t):=by
 obtain ⟨k,l,i,h⟩:=t;unfold pw ar;simp only[TO,AP,aa];by_cases b:k=1
 ·subst b;simp;grind
 by_cases a:k=2
 ·subst a;simp;grind
 by_cases f:k=3
 ·subst f;simp;grind
 by_cases g:k=4
 ·subst g;simp;grind
 by_cases d:k=5
 ·subst d;simp;grind
 by_cases e:k=6
 ·subst e;simp;grind
 by_cases c:k=7
 ·subst c;simp;grind
 simp[b,a,f,g,d,e,c]
theorem aao (t:Tok):su t=some (decide (0<=ar t)):=by
 obtain ⟨k,l,e,d⟩:=t;unfold su ar;simp only[TP,JP,aa];by_cases g:k=1
 ·subst g;simp;grind
 by_cases f:k=2
 ·subst f;simp;grind
 by_cases m:k=3
 ·subst m;simp only[];by_cases a:0<=l/\l<=8 <;> by_cases b:e=0 <;> by_cases c:d=0 <;> simp[a,b,c]
 by_cases n:k=4
 ·subst n;simp;grind
 by_cases i:k=5
 ·subst i;simp;grind
 by_cases j:k=6
 ·subst j;simp;grind
 by_cases h:k=7
 ·subst h;simp only[];by_cases a:l=0 <;> by_cases b:0<=e/\e<=d <;> by_cases c:1<=d/\d<=3 <;> simp[a,b,c]
 simp[g,f,m,n,i,j,h]
theorem yA (t:Tok): -1<=ar t/\ar t<=2:=by
 unfold ar;grind
theorem nz {t:Tok} (h:0<=ar t):(ar t=2/\(t.1=4\/t.1=5))\/(ar t=1/\(t.1=6\/t.1=7))\/(ar t=0/\(t.1=1\/t.1=2\/t.1=3)):=by
 unfold ar at h⊢;grind
theorem CI {t:Tok} (h:0<=ar t) (k:t.1=7):(0<=t.2.2.1/\t.2.2.1<=t.2.2.2)/\(1<=t.2.2.2/\t.2.2.2<=3):=by
 unfold ar at h;grind
mutual
def flat:Tr Tok->List Tok
 | .nil=>[]
 | .node t ks=>lN ks++ [t]
def lN:List (Tr Tok)->List Tok
 | [] =>[]
 | k::ks=>flat k++lN ks
end
inductive WT:Tr Tok->Prop
 | node {t:Tok} {ks:List (Tr Tok)} :ar t=(ks.length:Int)->(∀k,k∈ks->WT k)->WT (.node t ks)
theorem rN: ∀(a b:List (Tr Tok)),lN (a++b)=lN a++lN b
 | [],b=>rfl
 | k::a,b=>by rw[List.cons_append,lN,lN,rN a b,aC]
theorem oj (x:Tr Tok):lN [x] =flat x:=by rw[lN,lN,List.append_nil]
theorem Qc (x y:Tr Tok):lN [x,y] =flat x++flat y:=by rw[lN,oj]
theorem WT.cases {x:Tr Tok} (h:WT x):(∃t,x= .node t [] /\ar t=0)\/(∃t a,x= .node t [a] /\ar t=1/\WT a)\/ ∃t a b,x= .node t [a,b] /\ar t=2/\WT a/\WT b:=by
 cases h with
 | @node t e c d =>
  have:=(yA t).2
  match e,c,d with
  | [],c,d=>exact .inl ⟨t,rfl,c⟩
  | [a],c,d=>exact .inr (.inl ⟨t,a,rfl,c,d a (by simp)⟩)
  | [a,b],c,d=>exact .inr (.inr ⟨t,a,b,rfl,c,d a (by simp),d b (by simp)⟩)
  | _::_::_::_,c,d=>simp at c;omega
theorem WT.ind {p:Tr Tok->Prop} (g: ∀t,ar t=0->p (.node t [])) (h1: ∀t a,ar t=1->WT a->p a->p (.node t [a])) (d: ∀t a b,ar t=2->WT a->WT b->p a->p b->p (.node t [a,b])) {x:Tr Tok} (h:WT x):p x:=by
 induction h with
 | @node t f e k c =>
  have:=(yA t).2
  match f,e,k,c with
  | [],e,k,c=>exact g t e
  | [a],e,k,c=>exact h1 t a e (k a (by simp)) (c a (by simp))
  | [a,b],e,k,c=>exact d t a b e (k a (by simp)) (k b (by simp)) (c a (by simp)) (c b (by simp))
  | _::_::_::_,e,_,_=>simp at e;omega
theorem F6 (t:Tok):flat (.node t [])= [t]:=by rw[flat,lN];rfl
theorem DI (t:Tok) (a:Tr Tok):flat (.node t [a])=flat a++ [t]:=by rw[flat,oj]
theorem yB (t:Tok) (a b:Tr Tok):flat (.node t [a,b])=(flat a++flat b)++ [t]:=by rw[flat,Qc]
theorem WT.pos {x:Tr Tok} (h:WT x):1<=(flat x).length:=by
 cases h with
 | node b a=>rw[flat];simp
def stp (s:List (Tr Tok)) (t:Tok):Option (List (Tr Tok)):=if ar t<0\/(s.length:Int)<ar t then none else some (s.take (s.length - (ar t).toNat)++ [.node t (s.drop (s.length - (ar t).toNat))])
def run:List (Tr Tok)->List Tok->Option (List (Tr Tok))
 | s,[] =>some s
 | s,t::l=>(stp s t).bind fun s'=>run s' l
theorem F7: ∀(a:List Tok) {b:List Tok} {s:List (Tr Tok)},run s (a++b)=(run s a).bind fun c=>run c b
 | [],b,s=>rfl
 | t::a,b,s=>by
  rw[List.cons_append,run,run];cases stp s t with
  | none=>rfl
  | some c=>exact F7 a
theorem yC {a:List Tok} {t:Tok} {s:List (Tr Tok)} :run s (a++ [t])=(run s a).bind fun b=>stp b t:=by
 rw[F7];congr 1;funext b;rw[run];cases stp b t <;> rfl
theorem Vt: ∀ {l:List Tok} {s b:List (Tr Tok)},run s l=some b->(∀k,k∈s->WT k)->(∀k,k∈b->WT k)/\lN b=lN s++l
 | [],s,b,h,hs=>by
  obtain rfl:=ae h;exact ⟨hs,by simp⟩
 | t::l,s,b,h,hs=>by
  rw[run] at h;unfold stp at h;by_cases c:ar t<0\/(s.length:Int)<ar t
  ·rw[if_pos c] at h;cases h
  ·rw[if_neg c] at h;have d:(s.drop (s.length - (ar t).toNat)).length=(ar t).toNat:=by rw[aZ];omega
   obtain ⟨e,f⟩:=Vt (show run _ l=some b from h) fun k a=>by
    rcases aE a with a | a
    ·exact hs k (List.mem_of_mem_take a)
    ·obtain rfl:=al a;exact .node (by rw[d];omega) fun k a=>hs k (List.mem_of_mem_drop a)
   refine ⟨e,?_⟩;rw[f,rN,oj,flat,<-aC,<-rN,List.take_append_drop];simp
theorem TQ {x:Tr Tok} (h:WT x): ∀s,run s (flat x)=some (s++ [x]):=by
 refine WT.ind (p:=fun x=> ∀s,run s (flat x)=some (s++ [x])) ?_ ?_ ?_ h
 ·intro t e s;rw[F6,run,stp,if_neg (by omega),e];simp[run]
 ·intro t a e _ c s;rw[DI,yC,c];show stp (s++ [a]) t=_;rw[stp,if_neg (by simp;omega),e];simp
 ·intro t a b e _ _ c d s;rw[yB,yC,F7,c];show ((run (s++ [a]) (flat b)).bind fun f=>stp f t)=_;rw[d];show stp (s++ [a] ++ [b]) t=_;rw[stp,if_neg (by simp;omega),e]
  have:(s++ [a] ++ [b]).length - (2:Int).toNat=s.length:=by simp
  rw[this];simp
def isX (e:List Tok):Bool:=match run [] e with
 | some [_] =>true
 | _=>false
theorem Lv {e:List Tok} (h:isX e=true): ∃x,run [] e=some [x] /\WT x/\flat x=e:=by
 unfold isX at h;split at h
 ·rename_i x a;obtain ⟨c,b⟩:=Vt a (fun k d=>by cases d);refine ⟨x,a,c x (by simp),?_⟩;rw[oj] at b;rw[b];rfl
 ·cases h
theorem Qd {l:List Tok} : ∀ {s b:List (Tr Tok)},run s l=some b->b.length<=s.length+l.length:=by
 induction l with
 | nil=>intro s b h;obtain rfl:=ae h;simp
 | cons t l ih =>
  intro s b h;rw[run] at h;obtain ⟨e,a,d⟩:=Option.bind_eq_some_iff.1 h;have c:=ih d;unfold stp at a;split at a
  ·cases a
  ·obtain rfl:=ae a;simp only[az,aB,aq,aD] at c⊢;omega
theorem CJ {e:List Tok} {i:Nat} (h:i<e.length):e.take (i+1)=e.take i++ [nth e (i:Int)]:=by
 rw[List.take_succ_eq_append_getElem h,bH h]
theorem Ba {e:List Tok} {i:Nat} (h:i<e.length) {a:List (Tr Tok)} (h1:run [] (e.take i)=some a) (b:stp a (nth e (i:Int))=none):run [] e=none:=by
 have:run [] (e.take (i+1))=none:=by rw[CJ h,yC,h1];exact b
 rw[<-List.take_append_drop (i+1) e,F7,this];rfl
theorem TS {e:List Tok} (q:e.length<=1048576):vc e=some (isX e):=by
 obtain ⟨o,j,m⟩:=b9 (f:=sf e) (fun i s=> ∃a,s=((a.length:Int),(i:Int))/\run [] (e.take i)=some a) (fun o=>(o= .ret false/\run [] e=none)\/ ∃a,o= .brk ((a.length:Int),(e.length:Int))/\run [] e=some a) e.length (s:=(0,0)) (by
  rintro i s r ⟨a,rfl,b⟩;have l:=Qd b;simp only[aD,aB] at l;unfold sf;simp only[fM];by_cases c:i<e.length
  ·rw[if_pos (by simp;omega),aw (by omega) (by omega)];simp only[aa];rw[adu];simp only[aa];have p:=yA (nth e (i:Int));by_cases d:ar (nth e (i:Int))<0
   ·refine .inr ⟨_,by rw[if_pos (by simpa using d)],(fun k e=>by cases e),.inl ⟨rfl,Ba c b ?_⟩⟩;rw[stp,if_pos (.inl d)]
   ·rw[if_neg (by simpa using d)];by_cases g:ar (nth e (i:Int))>(a.length:Int)
    ·refine .inr ⟨_,by rw[if_pos (by simpa using g)],(fun k e=>by cases e),.inl ⟨rfl,Ba c b ?_⟩⟩;rw[stp,if_pos (.inr g)]
    ·rw[if_neg (by simpa using g)];refine .inl ⟨c,_,rfl,a.take (a.length - (ar (nth e (i:Int))).toNat)++ [.node (nth e (i:Int)) (a.drop (a.length - (ar (nth e (i:Int))).toNat))],?_,?_⟩
     ·rw[br (n:=(a.length:Int) - ar (nth e (i:Int))) (by omega) (by omega),br (by omega) (by omega),af (by omega)];congr 1;simp only[az,aB,aq,aD];omega
     ·rw[CJ c,yC,b];show stp a _=_;rw[stp,if_neg (by omega)]
  ·obtain rfl:i=e.length:=by omega
   rw[List.take_of_length_le (by omega)] at b;exact .inr ⟨_,by rw[if_neg (by simp)],(fun k e=>by cases e),.inr ⟨a,rfl,b⟩⟩) ⟨[],rfl,rfl⟩ (pa (by omega))
 unfold vc;rcases m with ⟨rfl,h⟩ | ⟨a,rfl,h⟩
 ·rw[bD j];unfold isX;rw[h]
 ·rw[aj j];unfold isX;rw[h]
  match a with
  | [] =>rfl
  | [_] =>rfl
  | _::_::_=>simp;omega
theorem acy {t:Tok} (h:0<=ar t):(Option.bind ((if t.1==4 then (some (t.1==4)) else (some (t.1==5)):Option Bool)) (fun a=>if a then (some 2) else (Option.bind ((if t.1==6 then (some (t.1==6)) else (some (t.1==7)):Option Bool)) (fun b=>if b then (some 1) else (some 0)))):Option Int)=some (ar t):=by
 rcases nz h with ⟨e,k | k⟩ | ⟨e,k | k⟩ | ⟨e,k | k | k⟩ <;> rw[e] <;> simp[k]
theorem X4 (t:Tok): ∃n:Int,(Option.bind ((if t.1==4 then (some (t.1==4)) else (some (t.1==5)):Option Bool)) (fun e=>if e then (some 2) else (Option.bind ((if t.1==6 then (some (t.1==6)) else (some (t.1==7)):Option Bool)) (fun f=>if f then (some 1) else (some 0)))):Option Int)=some n:=by
 by_cases d:t.1=4
 ·exact ⟨2,by simp[d]⟩
 by_cases c:t.1=5
 ·exact ⟨2,by simp[c]⟩
 by_cases b:t.1=6
 ·exact ⟨1,by simp[b]⟩
 by_cases a:t.1=7
 ·exact ⟨1,by simp[a]⟩
 exact ⟨0,by simp[d,c,b,a]⟩
def AQ (e:List Tok):Tr Tok:=match run [] e with
 | some [x] =>x
 | _=>.nil
theorem F8 {e:List Tok} (u:e.length<=1048576):o9 e=some (AQ e):=by
 obtain ⟨o,g,r⟩:=b9 (f:=sw e) (fun i s=> ∃a,s=(a,(i:Int))/\run [] (e.take i)=some a) (fun o=>(o= .ret Tr.nil/\run [] e=none)\/ ∃a,o= .brk (a,(e.length:Int))/\run [] e=some a) e.length (s:=([],0)) (by
  rintro i s t ⟨a,rfl,b⟩;have q:=Qd b;simp only[aD,aB] at q;unfold sw;simp only[fM];by_cases c:i<e.length
  ·rw[if_pos (by simp;omega),aw (by omega) (by omega)];simp only[aa];have v:=yA (nth e (i:Int));by_cases l:ar (nth e (i:Int))<0
   ·obtain ⟨n,k⟩:=X4 (nth e (i:Int));rw[k];simp only[aa];rw[aao];simp only[aa];refine .inr ⟨_,by rw[if_neg (by simp;omega)],(fun d e=>by cases e),.inl ⟨rfl,Ba c b ?_⟩⟩;rw[stp,if_pos (.inl l)]
   ·rw[acy (by omega)];simp only[aa];rw[aao];simp only[aa];rw[if_pos (by simp;omega),br (n:=(a.length:Int) - ar (nth e (i:Int))) (by omega) (by omega)];by_cases j:ar (nth e (i:Int))>(a.length:Int)
    ·refine .inr ⟨_,by rw[if_pos (by simp;omega)],(fun d e=>by cases e),.inl ⟨rfl,Ba c b ?_⟩⟩;rw[stp,if_pos (.inr j)]
    ·rw[if_neg (by simp;omega),show∀p:Prop,∀ [Decidable p],p->chk p=some () from fun p _ hp=>by unfold chk;rw[if_pos hp]]
     ·simp only[aa];have m:((a.length:Int) - ar (nth e (i:Int))).toNat=a.length - (ar (nth e (i:Int))).toNat:=by omega
      rw[m,ax (by simp;omega)];simp only[aa];rw[ax (by simp;omega)];simp only[aa,List.nil_append,af (show i<9223372036854775807 by omega)];refine .inl ⟨c,_,rfl,_,rfl,?_⟩;rw[CJ c,yC,b];show stp a _=_;rw[stp,if_neg (by omega)]
     ·omega
  ·obtain rfl:i=e.length:=by omega
   rw[List.take_of_length_le (by omega)] at b;exact .inr ⟨_,by rw[if_neg (by simp)],(fun d e=>by cases e),.inr ⟨a,rfl,b⟩⟩) ⟨[],rfl,rfl⟩ (pa (by omega))
 unfold o9;rcases r with ⟨rfl,h⟩ | ⟨a,rfl,h⟩
 ·rw[bD g];unfold AQ;rw[h]
 ·rw[aj g];unfold AQ;rw[h]
  match a with
  | [] =>rfl
  | [x] =>rfl
  | _::_::_ =>
   simp only;rw[if_pos (by simp;omega)]
theorem vB {x:Tr Tok} (h:WT x):AQ (flat x)=x:=by unfold AQ;rw[TQ h];rfl
theorem TU {e:List Tok} (a:e.length<=1048576):vn e=some (isX e):=by
 unfold vn;rw[F8 a];simp only[aa];congr 1;by_cases h:isX e=true
 ·rw[h];obtain ⟨x,c,b,f⟩:=Lv h
  have:AQ e=x:=by unfold AQ;rw[c]
  rw[this];cases b with
  | node _ _=>rfl
 ·have:AQ e= .nil:=by
   unfold AQ;unfold isX at h;split
   ·rename_i x d;rw[d] at h;exact absurd rfl h
   ·rfl
  rw[this,Bool.eq_false_iff.2 h];rfl
theorem CK {e:List Tok} (a:e.length<=1048576):jK e=some (decide (e.length<=24)&&isX e):=by
 unfold jK;rw[TS a];by_cases c:e.length<=24
 ·rw[if_pos (by simp;omega)];simp[c]
 ·rw[if_neg (by simp;omega)];simp[c]
theorem JQ {e:List Tok} (a:e.length<=1048576):my e=some (decide (e.length<=24)&&isX e):=by
 unfold my;rw[TU a];by_cases c:e.length<=24
 ·rw[if_pos (by simp;omega)];simp[c]
 ·rw[if_neg (by simp;omega)];simp[c]
theorem chk_of {p:Prop} [Decidable p] (h:p):chk p=some ():=by unfold chk;rw[if_pos h]
theorem X5 {A:List Tok} {x:Tr Tok} (J:WT x) (C:(A++flat x).length<=1000000):jL (A++flat x)=some (A.length:Int):=by
 obtain ⟨g,e,b,L,G,M⟩: ∃g,ah (nC (A++flat x)) aU (1,((A++flat x).length:Int))=some (.brk g)/\ ∃b:List (Tr Tok),b= [] /\g.2=(A.length:Int)/\True:=by
  obtain ⟨o,H,I⟩:=b9 (f:=nC (A++flat x)) (fun i s=> ∃b:List (Tr Tok),(∀k,k∈b->WT k)/\s=((b.length:Int),(((A++lN b).length:Nat):Int))/\i+(lN b).length=(flat x).length/\(A++flat x).take (A++lN b).length=A++lN b) (fun o=> ∃g,o= .brk g/\g.2=(A.length:Int)) (flat x).length (s:=(1,((A++flat x).length:Int))) (by
   rintro i s K ⟨b,w,rfl,m,j⟩;unfold nC;simp only[fM];rcases List.eq_nil_or_concat b with rfl | ⟨a,y,rfl⟩
   ·refine .inr ⟨_,by rw[if_neg (by simp)],(fun g e=>by cases e),_,rfl,?_⟩;simp[lN]
   ·have F:=w y (by simp);cases F with
    | @node t c z v =>
     have B:lN (a++ [.node t c])=lN (a++c)++ [t]:=by rw[rN,oj,flat,rN,aC]
     rw[List.concat_eq_append,B] at m j⊢;simp only[az,aq,aD] at m j C⊢;rw[if_pos (by simp <;> omega)];have u:i64.wrap (((A.length+((lN (a++c)).length+1):Nat):Int) - 1)=((A.length+(lN (a++c)).length:Nat):Int):=by
      rw[br (by omega) (by omega)];omega
     have q:nth (A++flat x) ((A.length+(lN (a++c)).length:Nat):Int)=t:=by
      have r:A.length+(lN (a++c)).length<(A++flat x).length:=by rw[az];omega
      have p:=congrArg (fun l:List Tok=>l[A.length+(lN (a++c)).length]?) j;rw[List.getElem?_take_of_lt (by omega),List.getElem?_eq_getElem r,<-aC,List.getElem?_append_right (by rw[az];omega),az] at p;rw[bH r];simpa using p
     rw[u,aw (by omega) (by simp only[az];omega),q];simp only[aa];rw[adu,z];simp only[aa];have E:(c.length:Int)<=2:=by rw[<-z];exact (yA t).2
     have D:a.length<=(lN (a++c)).length+1000000:=by
      have: ∀l:List (Tr Tok),(∀k,k∈l->WT k)->l.length<=(lN l).length:=by
       intro l;induction l with
       | nil=>intro _;simp
       | cons k l ih =>
        intro h;have z:=(h k (by simp)).pos;have v:=ih fun k d=>h k (by simp[d]);rw[lN];simp only[aq,az];omega
      have:=this a fun k d=>w k (by simp[d])
      rw[rN,az];omega
     refine .inl ⟨by omega,_,rfl,a++c,fun k d=>?_,?_,by omega,?_⟩
     ·rcases aE d with d | d
      ·exact w k (by simp[d])
      ·exact v k d
     ·rw[br (n:=((a.length+1:Nat):Int) - 1) (by omega) (by omega),br (by omega) (by omega)];congr 1
      (simp only[az]) <;> omega
     ·have p:=congrArg (List.take (A++lN (a++c)).length) j;rw[List.take_take,Nat.min_eq_left (by rw[az];omega),<-aC,List.take_left] at p;rw[az] at p;exact p) ⟨[x],fun k d=>by (obtain rfl:=al d;exact J),by rw[oj];rfl,by rw[oj];omega,by rw[oj,List.take_length]⟩ (pa (by rw[az] at C;omega))
  obtain ⟨g,rfl,v⟩:=I;exact ⟨g,H,[],rfl,v,trivial⟩
 unfold jL;rw[aj e,G]
instance trInh {α:Type} :Inhabited (Tr α):=⟨.nil⟩
def szX:Tr Tok->Int
 | .nil=>0
 | .node t ks=>min (szL t 1 ks) 100000
where szL (t:Tok) (acc:Int):List (Tr Tok)->Int
 | [] =>acc
 | k::ks=>szL t (acc+(if t.1=7 then (szX k+3)*t.2.2.2 else szX k)) ks
theorem om {x:Tr Tok} (h:WT x):1<=szX x/\szX x<=100000:=by
 refine WT.ind (p:=fun x=>1<=szX x/\szX x<=100000) ?_ ?_ ?_ h
 ·intro t _;show 1<=min (1:Int) 100000/\min (1:Int) 100000<=100000;omega
 ·intro t a e _ g;show 1<=min ((1:Int)+(if t.1=7 then (szX a+3)*t.2.2.2 else szX a)) 100000/\min ((1:Int)+(if t.1=7 then (szX a+3)*t.2.2.2 else szX a)) 100000<=100000;split
  ·rename_i k;have f:=CI (show 0<=ar t by omega) k
   have:0<=(szX a+3)*t.2.2.2:=Int.mul_nonneg (by omega) (by omega)
   omega
  ·omega
 ·intro t a b e _ _ d c;have k:t.1≠7:=by
   grind[nz,ar]
  show 1<=min ((1:Int)+(if t.1=7 then (szX a+3)*t.2.2.2 else szX a)+(if t.1=7 then (szX b+3)*t.2.2.2 else szX b)) 100000/\min ((1:Int)+(if t.1=7 then (szX a+3)*t.2.2.2 else szX a)+(if t.1=7 then (szX b+3)*t.2.2.2 else szX b)) 100000<=100000;omega
theorem Ik {a h:Int} (h1:1<=a/\a<=100000) (b:1<=h/\h<=3):i64.wrap ((i64.wrap (a+3))*h)=(a+3)*h:=by
 have c:0<=(a+3)*h:=Int.mul_nonneg (by omega) (by omega);have d:(a+3)*h<=100003*3:=Int.mul_le_mul (by omega) (by omega) (by omega) (by omega);grind[br]
theorem Qe {a h:Int} (h1:1<=a/\a<=100000) (b:1<=h/\h<=3):0<=(a+3)*h/\(a+3)*h<=300009:=by
 have c:0<=(a+3)*h:=Int.mul_nonneg (by omega) (by omega);have d:(a+3)*h<=100003*3:=Int.mul_le_mul (by omega) (by omega) (by omega) (by omega);omega
theorem tq {t:Tok} {a:List (Tr Tok)} :Tr.get (.node t a)=some (t,a):=rfl
theorem zN {f:Tr Tok->Option Int} {t:Tok} {a:List (Tr Tok)} {i:Nat} {acc:Int} (hi:i<a.length) (d:f (nth a (i:Int))=some (szX (nth a (i:Int)))) (g:WT (nth a (i:Int))) (e:0<=ar t) (j:0<=acc/\acc<=1000000) (h:i<=1000000) :
  dX f (.node t a) (t,a) (acc,(i:Int))=some (.nxt (acc+(if t.1=7 then (szX (nth a (i:Int))+3)*t.2.2.2 else szX (nth a (i:Int))),((i+1:Nat):Int))):=by
 unfold dX;simp only[tq];have b:=om g;rw[if_pos (by grind),aw (by omega) (by omega)];simp only[aa];by_cases k:t.1=7
 ·have c:=CI e k;have l:=Qe b c.2;rw[if_pos (by grind),if_pos k,d];simp only[aa];rw[Ik b c.2,br (by omega) (by omega),af (by omega)]
 ·rw[if_neg (by grind),if_neg k,d];simp only[aa];rw[br (by omega) (by omega),af (by omega)]
theorem Bb {α:Type} [Inhabited α] {a:α} {l:List α} :nth (a::l) ((0:Nat):Int)=a:=rfl
theorem Qf {α:Type} [Inhabited α] {a b:α} {l:List α} :nth (a::b::l) ((1:Nat):Int)=b:=rfl
theorem X6 {x:Tr Tok} (h:WT x): ∀n,(flat x).length<=n->de n x=some (szX x):=by
 refine WT.ind (p:=fun x=> ∀n,(flat x).length<=n->de n x=some (szX x)) ?_ ?_ ?_ h
 ·intro t e n c
  match n,c with
  | n+1,_ =>
   rfl
 ·intro t a e d q n c;rw[DI,az] at c
  match n,c with
  | n+1,c =>
   rw[de];simp[tq,aa];have l:ah (dX (de n) (.node t [a]) (t,[a])) aU (1,0)=some (.brk (szX.szL t 1 [a],1)):=aY (f:=dX (de n) (.node t [a]) (t,[a])) (fun i=>(szX.szL t 1 ([a].take i),(i:Int))) 1 (fun i o=>by
    obtain rfl:i=0:=by omega
    exact zN (acc:=1) (i:=0) (by simp) (q n (by grind)) d (by omega) (by omega) (by omega)) (by rfl) (by unfold aU;omega)
   rw[aj l]
   rfl
 ·intro t a b e d m j g n c;rw[yB,az,az] at c
  match n,c with
  | n+1,c =>
   have r:=om d;have k:t.1≠7:=by
    grind[nz,ar]
   rw[de];simp[tq,aa];have l:ah (dX (de n) (.node t [a,b]) (t,[a,b])) aU (1,0)=some (.brk (szX.szL t 1 [a,b],2)):=aY (f:=dX (de n) (.node t [a,b]) (t,[a,b])) (fun i=>(szX.szL t 1 ([a,b].take i),(i:Int))) 2 (fun i o=>by
    have:i=0\/i=1:=by omega
    rcases this with rfl | rfl
    ·exact zN (acc:=1) (i:=0) (by simp) (j n (by grind)) d (by omega) (by omega) (by omega)
    ·exact zN (acc:=1+(if t.1=7 then (szX a+3)*t.2.2.2 else szX a)) (i:=1) (by simp) (g n (by grind)) m (by omega) (by omega) (by omega)) (by rfl) (by unfold aU;omega)
   rw[aj l]
   rfl
theorem lD {A:List Tok} {t:Tok} (h:A.length<=1000000):aS (A++ [t]) (i64.wrap (((A++ [t]).length:Int) - 1))=some t/\i64.wrap (((A++ [t]).length:Int) - 1)=(A.length:Int):=by
 have e:i64.wrap (((A++ [t]).length:Int) - 1)=(A.length:Int):=by
  rw[br (by omega) (by grind)];simp only[az,aq,aD];omega
 grind[aw,az,aq,aD,bH]
theorem adv {t:Tok} (h:ar t=2):(if t.1==4 then (some (t.1==4)) else (some (t.1==5)):Option Bool)=some true:=by
 grind[nz,ar]
theorem TV {t:Tok} (h:ar t=1\/ar t=0):(if t.1==4 then (some (t.1==4)) else (some (t.1==5)):Option Bool)=some false:=by
 rcases nz (show 0<=ar t by omega) with ⟨e,k⟩ | ⟨e,k | k⟩ | ⟨e,k | k | k⟩
 ·omega
 all_goals simp[k]
theorem aap {t:Tok} (h:ar t=0):(t.1==6)=false/\(t.1==7)=false:=by
 grind[nz,ar]
theorem Qg {t:Tok} (h:ar t=1):((t.1==6)=true/\t.1=6)\/((t.1==6)=false/\(t.1==7)=true/\t.1=7):=by
 grind[nz,ar]
theorem yD {a b:Tr Tok} {t:Tok} (c:WT b) (d:((flat a++flat b)++ [t]).length<=1000000) :
  (((flat a++flat b)++ [t]).take ((((flat a++flat b).length:Nat):Int)).toNat)=flat a++flat b /\
  jL (flat a++flat b)=some (((flat a).length:Nat):Int) /\
  (((flat a++flat b)++ [t]).take ((((flat a).length:Nat):Int)).toNat)=flat a /\
  (flat a++flat b).drop ((((flat a).length:Nat):Int)).toNat=flat b:=by
 grind[X5,az,aq,aD,Int.toNat_natCast,List.take_left,aC,List.drop_left]
theorem Vu {x:Tr Tok} (h:WT x): ∀n,(flat x).length<=n->(flat x).length<=1000000->fu n (flat x)=some (szX x):=by
 refine WT.ind (p:=fun x=> ∀n,(flat x).length<=n->(flat x).length<=1000000->fu n (flat x)=some (szX x)) ?_ ?_ ?_ h
 ·intro t e n c d;rw[F6] at c d⊢
  match n,c with
  | n+1,_ =>
   have u:=aap e;rw[fu]
   have:=(lD (A:=[]) (t:=t) (by simp)).1
   rw[List.nil_append] at this;rw[this];simp only[aa];rw[TV (.inr e)];simp[aa,u.1,u.2,Bool.false_eq_true,if_false]
   rfl
 ·intro t a e g v n c d;rw[DI] at c d⊢;simp[az,aq,aD] at c d
  match n,c with
  | n+1,c =>
   have r:=om g;rw[fu];have ⟨j,l⟩:=lD (A:=flat a) (t:=t) (by omega);rw[j];simp only[aa];rw[TV (.inl e)];simp only[aa,Bool.false_eq_true,if_false];rw[l,Int.toNat_natCast,List.take_left,chk_of (by grind)];simp only[aa];rw[v n (by omega) (by omega)];simp only[aa];rcases Qg e with ⟨q,o⟩ | ⟨q,o,z⟩
   ·rw[if_pos q,br (by omega) (by omega)];show some (min 100000 (szX a+1))=some (min ((1:Int)+(if t.1=7 then (szX a+3)*t.2.2.2 else szX a)) 100000);grind
   ·have s:=CI (show 0<=ar t by omega) z;have F:=Qe r s.2;rw[if_neg (by grind),if_pos o,Ik r s.2,br (by omega) (by omega)];show some (min 100000 ((szX a+3)*t.2.2.2+1))=some (min ((1:Int)+(if t.1=7 then (szX a+3)*t.2.2.2 else szX a)) 100000);grind
 ·intro t a b e g m i f n c d;rw[yB] at c d⊢;have ⟨y,D,B,E⟩:=yD (a:=a) (t:=t) m d;simp[az,aq,aD] at c d
  match n,c with
  | n+1,c =>
   have C:=om g;have w:=om m;have k:t.1≠7:=by
    rcases nz (show 0<=ar t by omega) with ⟨_,k⟩ | ⟨k,_⟩ | ⟨k,_⟩ <;> omega
   rw[fu];have ⟨j,l⟩:=lD (A:=flat a++flat b) (t:=t) (by grind);rw[j];simp only[aa];rw[adv e];rw[l,y,D,chk_of (by grind)];simp only[aa];rw[chk_of (by grind),B,E];rw[i n (by omega) (by omega),chk_of (by simp[az,aq,aD];omega)];rw[f n (by omega) (by omega)];simp only[aa];rw[br (n:=szX a+szX b) (by omega) (by omega),br (by omega) (by omega)];show some (min 100000 (szX a+szX b+1))=some (min ((1:Int)+(if t.1=7 then (szX a+3)*t.2.2.2 else szX a)+(if t.1=7 then (szX b+3)*t.2.2.2 else szX b)) 100000);grind
def TW:Tr Tok:=.node (2,0,0,0) []
def Nj (x:Tr Tok):Nat->Int->Tr Tok
 | 0,_=>TW
 | h+1,low=>if 0<low then .node (4,0,0,0) [x,Nj x h (max 0 (low - 1))] else .node (5,0,0,0) [.node (4,0,0,0) [x,Nj x h (max 0 (low - 1))],TW]
mutual
def zO:Tr Tok->Tr Tok
 | .nil=>.nil
 | .node t ks=>if t.1=7 then Nj ((aaq ks).headD .nil) t.2.2.2.toNat t.2.2.1 else .node t (aaq ks)
def aaq:List (Tr Tok)->List (Tr Tok)
 | [] =>[]
 | k::ks=>zO k::aaq ks
end
theorem ar4:ar (4,0,0,0)=2:=by decide
theorem ar5:ar (5,0,0,0)=2:=by decide
theorem ar2:ar (2,0,0,0)=0:=by decide
theorem Qh:WT TW:=.node ar2 fun k a=>by cases a
theorem CL:flat TW= [(2,0,0,0)]:=F6 _
theorem WT.two {t:Tok} {a b:Tr Tok} (h:ar t=2) (d:WT a) (c:WT b):WT (.node t [a,b]):=.node h fun k e=>by
 grind
theorem WT.one {t:Tok} {a:Tr Tok} (h:ar t=1) (b:WT a):WT (.node t [a]):=.node h fun k c=>by
 grind
theorem JR {x:Tr Tok} (a:WT x): ∀(h:Nat) (low:Int),WT (Nj x h low)
 | 0,_=>Qh
 | h+1,low=>by
  rw[Nj];split
  ·exact .two ar4 a (JR a h _)
  ·exact .two ar5 (.two ar4 a (JR a h _)) Qh
theorem F9 (x:Tr Tok): ∀(h:Nat) (low:Int),(flat (Nj x h low)).length<=((flat x).length+3)*h+1
 | 0,_=>by rw[Nj,CL];simp
 | h+1,low=>by
  have a:=F9 x h (max 0 (low - 1));grind[Nj,yB,az,aq,aD,Nat.mul_succ,CL]
theorem abM {t:Tok} {a:Tr Tok} :zO (.node t [a])=if t.1=7 then Nj (zO a) t.2.2.2.toNat t.2.2.1 else .node t [zO a]:=by rfl
theorem exp2 {t:Tok} {a b:Tr Tok} (h:t.1≠7):zO (.node t [a,b])= .node t [zO a,zO b]:=by simp_all[zO,if_neg,aaq]
theorem abN {t:Tok} (h:t.1≠7):zO (.node t [])= .node t []:=by rw[zO,if_neg h,aaq]
theorem no7 {t:Tok} (h:ar t=2\/ar t=0):t.1≠7:=by
 grind[nz,ar]
theorem Vv {x:Tr Tok} (h:WT x):WT (zO x):=by
 refine WT.ind (p:=fun x=>WT (zO x)) ?_ ?_ ?_ h
 ·intro t e;rw[abN (no7 (.inr e))];exact .node e fun k g=>by cases g
 ·intro t a e _ f;rw[abM];split
  ·exact JR f _ _
  ·exact .one e f
 ·intro t a b e _ _ d c;rw[exp2 (no7 (.inl e))];exact .two e d c
theorem CM {x:Tr Tok} (h:WT x):szX x<100000->((flat (zO x)).length:Int)<=szX x:=by
 refine WT.ind (p:=fun x=>szX x<100000->((flat (zO x)).length:Int)<=szX x) ?_ ?_ ?_ h
 ·intro t e _;rw[abN (no7 (.inr e)),F6];show (1:Int)<=min 1 100000;omega
 ·intro t a e j o d;have f:min ((1:Int)+(if t.1=7 then (szX a+3)*t.2.2.2 else szX a)) 100000<100000:=d;show _<=min ((1:Int)+(if t.1=7 then (szX a+3)*t.2.2.2 else szX a)) 100000;rw[abM];by_cases k:t.1=7
  ·have m:=CI (show 0<=ar t by omega) k;have g:szX a+3<=(szX a+3)*t.2.2.2:=by
    have:=Int.mul_le_mul_of_nonneg_left (c:=szX a+3) m.2.1 (by omega)
    omega
   have q:=F9 (zO a) t.2.2.2.toNat t.2.2.1;have r:(((flat (zO a)).length+3)*t.2.2.2.toNat:Int)<=(szX a+3)*t.2.2.2:=by
    rw[Int.toNat_of_nonneg (by omega)];exact Int.mul_le_mul_of_nonneg_right (by omega) (by omega)
   grind
  ·rw[if_neg k,DI];grind
 ·intro t a b e j n l i d;have k:=no7 (.inl e);have f:min ((1:Int)+(if t.1=7 then (szX a+3)*t.2.2.2 else szX a)+(if t.1=7 then (szX b+3)*t.2.2.2 else szX b)) 100000<100000:=d;show _<=min ((1:Int)+(if t.1=7 then (szX a+3)*t.2.2.2 else szX a)+(if t.1=7 then (szX b+3)*t.2.2.2 else szX b)) 100000;grind[exp2,yB,az,aq,aD]
theorem Ew {x:Tr Tok} : ∀(h n:Nat) (low:Int),h<n->h<=3->0<=low->low<=3->nZ n x low (h:Int)=some (Nj x h low)
 | 0,n+1,low,_,_,_,_=>by
  rfl
 | h+1,n+1,low,h1,h2,h3,h4=>by
  rw[nZ,if_neg (by grind),br (n:=low - 1) (by omega) (by omega),br (n:=((h+1:Nat):Int) - 1) (by omega) (by omega)];rw[show ((h+1:Nat):Int) - 1=(h:Int) from by omega,Ew h n (max 0 (low - 1)) (by omega) (by omega) (by omega) (by omega)];simp[aa];rw[Nj];by_cases c:0<low
  ·grind
  ·rw[if_neg (by grind),if_neg c];rfl
theorem CN {a b:List Tok} {t:Tok} (h:a.length+b.length<=1000000):fm a b t=some ((a++b)++ [t]):=by
 unfold fm fR;rw[ax (by simp[az,aq,aD];omega)];simp only[aa,List.nil_append];rw[ax (by omega)];simp only[aa];rw[ax (by simp[az,aq,aD];omega)];rfl
theorem Qi {x:Tr Tok} : ∀(h n:Nat) (low:Int),h<n->h<=3->0<=low->low<=3->(flat x).length<=100000->nV n (flat x) low (h:Int)=some (flat (Nj x h low))
 | 0,n+1,low,_,_,_,_,_=>by
  rfl
 | h+1,n+1,low,h1,h2,h3,h4,h5=>by
  rw[nV,if_neg (by grind),br (n:=low - 1) (by omega) (by omega),br (n:=((h+1:Nat):Int) - 1) (by omega) (by omega)];rw[show ((h+1:Nat):Int) - 1=(h:Int) from by omega,Qi h n (max 0 (low - 1)) (by omega) (by omega) (by omega) (by omega) h5];simp only[aa];have b:=F9 x h (max 0 (low - 1));have a:((flat x).length+3)*h<=100003*3:=Nat.mul_le_mul (by omega) (by omega);rw[CN (by omega),Nj];simp only[aa];by_cases c:0<low
  ·simp_all[if_pos,yB]
  ·rw[if_neg (by grind),if_neg c,yB,yB,CL];unfold rk;simp only[aa];rw[CN (by simp[az,aq,aD];omega)];rfl
theorem p9:1000000000000<=fP:=by rw[RY];unfold aU;omega
theorem TX {x:Tr Tok} (h:WT x): ∀n,(flat x).length<=n->cJ n x=some (zO x):=by
 have z:=p9;refine WT.ind (p:=fun x=> ∀n,(flat x).length<=n->cJ n x=some (zO x)) ?_ ?_ ?_ h
 ·intro t e n c;have k:=no7 (.inr e)
  match n,c with
  | n+1,_ =>
   rw[cJ];simp[tq,aa];rw[if_neg (by grind),abN k]
   rfl
 ·intro t a e o r n c;rw[DI,az] at c
  match n,c with
  | n+1,c =>
   have d:=r n (by grind);rw[cJ,abM];simp only[tq,aa];rcases Qg e with ⟨u,l⟩ | ⟨u,l,m⟩
   ·have v:=aY (f:=eS (cJ n) (t,[a])) (fun i=>((i:Int),t.1,t.2.1,t.2.2.1,t.2.2.2,[zO a].take i)) 1 (fun i q=>by
     obtain rfl:i=0:=by omega
     unfold eS;rw[if_pos (by simp),aw (by omega) (by simp),Bb];simp[aa];rw[d];rfl) (by rfl) (by unfold aU;omega)
    grind[aj]
   ·have y:=CI (show 0<=ar t by omega) m;rw[if_pos l,if_pos m,show aS [a] 0=some a from rfl];simp only[aa];rw[d];simp only[aa]
    have:=Ew (x:=zO a) t.2.2.2.toNat fP t.2.2.1 (by omega) (by omega) (by omega) (by omega)
    rw[Int.toNat_of_nonneg (by omega)] at this;rw[this];rfl
 ·intro t a b e o w j g n c;rw[yB,az,az] at c;have k:=no7 (.inl e)
  match n,c with
  | n+1,c =>
   have d:=j n (by grind);have s:=g n (by grind);rw[cJ,exp2 k];simp[tq,aa];have v:=aY (f:=eS (cJ n) (t,[a,b])) (fun i=>((i:Int),t.1,t.2.1,t.2.2.1,t.2.2.2,[zO a,zO b].take i)) 2 (fun i q=>by
    have:i=0\/i=1:=by omega
    rcases this with rfl | rfl
    ·unfold eS;rw[if_pos (by simp),aw (by omega) (by simp),Bb];simp[aa];rw[d];rfl
    ·unfold eS;rw[if_pos (by simp),aw (by omega) (by simp),Qf];simp[aa];rw[s];rfl) (by rfl) (by unfold aU;omega)
   grind[aj]
theorem Qj {x:Tr Tok} (h:WT x): ∀n out,(flat x).length<=n->out.length+(flat x).length<=1000000->cx n x out=some (out++flat x):=by
 refine WT.ind (p:=fun x=> ∀n out,(flat x).length<=n->out.length+(flat x).length<=1000000->cx n x out=some (out++flat x)) ?_ ?_ ?_ h
 ·intro t e n out c d;rw[F6] at c d⊢
  match n,c with
  | n+1,_ =>
   rw[cx];simp[tq,aa];have l:=aY (f:=dt (cx n) (t,[])) (fun i=>((i:Int),out)) 0 (fun i k=>by omega) (by rfl) (by unfold aU;omega);grind[aj,ax]
 ·intro t a e m o n out c d;rw[DI] at c d⊢;simp[az,aq,aD] at c d
  match n,c with
  | n+1,c =>
   rw[cx];simp[tq,aa];have l:=aY (f:=dt (cx n) (t,[a])) (fun i=>((i:Int),if i=0 then out else out++flat a)) 1 (fun i k=>by
    obtain rfl:i=0:=by omega
    unfold dt;rw[if_pos (by simp),aw (by omega) (by simp),Bb];simp[aa,if_true];rw[o n _ (by omega) (by omega)];rfl) (by rfl) (by unfold aU;omega)
   grind[aj,ax]
 ·intro t a b e m q j g n out c d;rw[yB] at c d⊢;simp[az,aq,aD] at c d
  match n,c with
  | n+1,c =>
   rw[cx];simp[tq,aa];have l:=aY (f:=dt (cx n) (t,[a,b])) (fun i=>((i:Int),if i=0 then out else if i=1 then out++flat a else (out++flat a)++flat b)) 2 (fun i k=>by
    have:i=0\/i=1:=by omega
    rcases this with rfl | rfl
    ·unfold dt;rw[if_pos (by simp),aw (by omega) (by simp),Bb];simp[aa,if_true];rw[j n _ (by omega) (by omega)];rfl
    ·unfold dt;rw[if_pos (by simp),aw (by omega) (by simp),Qf];simp only[aa,if_true];rw[g n _ (by omega) (by grind)];rfl) (by rfl) (by unfold aU;omega)
   grind[aj,ax]
theorem Lw {x:Tr Tok} (h:WT x): ∀n,(flat x).length<=n->(flat x).length<=1000000->szX x<=50000->dD n (flat x)=some (flat (zO x)):=by
 have M:=p9;refine WT.ind (p:=fun x=> ∀n,(flat x).length<=n->(flat x).length<=1000000->szX x<=50000->dD n (flat x)=some (flat (zO x))) ?_ ?_ ?_ h
 ·intro t e n d f j;rw[F6] at d f⊢
  match n,d with
  | n+1,_ =>
   have L:=aap e;rw[dD]
   have:=(lD (A:=[]) (t:=t) (by simp)).1
   rw[List.nil_append] at this;rw[this];simp only[aa];rw[TV (.inr e)];simp_all[aa,Bool.false_eq_true,if_false,abN,no7,F6]
 ·intro t a e i C n d f j;have g:min ((1:Int)+(if t.1=7 then (szX a+3)*t.2.2.2 else szX a)) 100000<=50000:=j;rw[DI] at d f⊢;simp[az,aq,aD] at d f
  match n,d with
  | n+1,d =>
   have K:=om i;have u:szX a<=50000:=by
    by_cases k:t.1=7
    ·rw[if_pos k] at g;have z:=CI (show 0<=ar t by omega) k;have B:szX a+3<=(szX a+3)*t.2.2.2:=by
      have:=Int.mul_le_mul_of_nonneg_left (c:=szX a+3) z.2.1 (by omega)
      omega
     omega
    ·omega
   have s:=CM i (by omega);rw[dD];have ⟨q,r⟩:=lD (A:=flat a) (t:=t) (by omega);rw[q];simp only[aa];rw[TV (.inl e)];simp only[aa,Bool.false_eq_true,if_false];rw[r,Int.toNat_natCast,List.take_left,chk_of (by grind)];simp only[aa];rw[C n (by omega) (by omega) u,abM];simp only[aa];rcases Qg e with ⟨w,v⟩ | ⟨w,v,y⟩
   ·rw[if_pos w,if_neg (by omega),CN (by grind),DI];simp
   ·have z:=CI (show 0<=ar t by omega) y;rw[if_neg (by grind),if_pos v,if_pos y];grind[Qi,zO,fP,Int.toNat_of_nonneg]
 ·intro t a b e i m o l n d f j;have k:=no7 (.inl e);have g:min ((1:Int)+(if t.1=7 then (szX a+3)*t.2.2.2 else szX a)+(if t.1=7 then (szX b+3)*t.2.2.2 else szX b)) 100000<=50000:=j;rw[if_neg k,if_neg k] at g;rw[yB] at d f⊢;have ⟨E,I,G,J⟩:=yD (a:=a) (t:=t) m f;simp[az,aq,aD] at d f
  match n,d with
  | n+1,d =>
   have H:=om i;have D:=om m;have s:=CM i (by omega);have F:=CM m (by omega);rw[dD];have ⟨q,r⟩:=lD (A:=flat a++flat b) (t:=t) (by grind);rw[q];simp only[aa];rw[adv e];simp only[aa,if_true];rw[r,E,I,chk_of (by grind)];simp only[aa];rw[chk_of (by grind),G,J];simp only[aa];rw[o n (by omega) (by omega) (by omega),chk_of (by grind)];simp only[aa];rw[l n (by omega) (by omega) (by omega)];simp only[aa];rw[CN (by omega),exp2 k,yB];rfl
def Lx (e:List Tok):List Tok×Bool:=
 if decide (e.length<=24)&&isX e then (if 5000<szX (AQ e) then ([],false) else (if 400<(flat (zO (AQ e))).length then ([],false) else (flat (zO (AQ e)),true))) else ([],false)
theorem JS {e:List Tok} (b:e.length<=1048576):jc e=some (Lx e)/\nK e=some (Lx e):=by
 have i:=p9;unfold jc nK Lx;rw[CK b,JQ b];simp only[aa];by_cases c:(decide (e.length<=24)&&isX e)=true
 ·rw[if_pos c,if_pos c,if_pos c,F8 b];simp[aa];rw[ak] at c;obtain ⟨x,g,a,rfl⟩:=Lv c.2;have d:(flat x).length<=24:=by simpa using c.1
  rw[vB a,Vu a fP (by omega) (by omega),X6 a fP (by omega)];by_cases f:5000<szX x
  ·grind
  ·have h:=CM a (by omega);rw[Lw a fP (by omega) (by omega) (by omega),TX a fP (by omega)];simp[aa];unfold sA;rw[Qj (Vv a) fP [] (by omega) (by grind)];grind
 grind
theorem Qk {e:List Tok} (h:(Lx e).2=true): ∃y,WT y/\(Lx e).1=flat y/\(flat y).length<=400:=by
 unfold Lx at h⊢;split at h
 ·rename_i c;rw[ak] at c;obtain ⟨x,b,a,rfl⟩:=Lv c.2;rw[vB a] at h⊢;split at h
  ·cases h
  ·split at h
   ·cases h
   ·grind[Vv]
 grind
def Ql (out:List Bool) (t:Int):Bool:=decide (t≥0)&&nth out t
def hit (out:List Bool) (row:List Int):Bool:=row.any (Ql out)
def Ax (a:AutT) (out:List Bool) (s:Nat):List Bool:=if hit out (nth a.2.2 s) then out.set s true else out
def mP (a:AutT) (out:List Bool):Nat->List Bool
 | 0=>out
 | s+1=>Ax a (mP a out s) s
def cnt (out:List Bool):Nat:=out.count true
theorem aar (out:List Bool):cnt out<=out.length:=List.count_le_length
theorem Ly {out:List Bool} {s:Nat} (h:s<out.length) (k:out[s] =true):out.set s true=out:=by
 refine List.ext_getElem (by simp) fun i b a=>?_;grind
theorem X7 {out:List Bool} {s:Nat} (h:s<out.length) (k:out[s] =false):cnt (out.set s true)=cnt out+1:=by
 unfold cnt;rw[List.count_set h];simp[k]
section
variable {a:AutT} {n:Nat}
theorem Gc (a:AutT) (out:List Bool) (s:Nat):(Ax a out s).length=out.length:=by grind[Ax]
theorem mQ (a:AutT) (out:List Bool): ∀s,(mP a out s).length=out.length
 | 0=>rfl
 | s+1=>by rw[mP,Gc,mQ a out s]
theorem Ay {out:List Bool} {s:Nat} (h:s<out.length):(Ax a out s=out/\ ¬(hit out (nth a.2.2 s)=true/\nth out s=false))\/(cnt (Ax a out s)=cnt out+1/\hit out (nth a.2.2 s)=true/\nth out s=false):=by
 grind[Ax,bH,hit,nth,Ly,X7]
theorem zP {out:List Bool} : ∀s,s<=out.length->(mP a out s=out/\cnt (mP a out s)=cnt out)\/cnt out<cnt (mP a out s)
 | 0,_=>.inl ⟨rfl,rfl⟩
 | s+1,hs=>by
  have c:s<(mP a out s).length:=by rw[mQ];omega
  have b:=zP (out:=out) s (by omega);grind[mP,Ay]
def it (a:AutT):Nat->List Bool
 | 0=>a.2.1
 | j+1=>mP a (it a j) a.2.1.length
theorem rO (a:AutT): ∀j,(it a j).length=a.2.1.length
 | 0=>rfl
 | j+1=>by rw[it,mQ,rO a j]
theorem Vx (a:AutT) (j:Nat):cnt (it a j)<=a.2.1.length:=by grind[rO,aar]
theorem JT (a:AutT) (j:Nat):(it a (j+1)=it a j)\/cnt (it a j)<cnt (it a (j+1)):=by
 rcases zP (a:=a) (out:=it a j) a.2.1.length (by rw[rO];omega) with h | h
 ·exact .inl h.1
 ·exact .inr h
theorem aas {j k:Nat} (h:it a (j+1)=it a j) (b:j<=k):it a k=it a j:=by
 induction b with
 | refl=>rfl
 | step _ ih=>rw[it,ih];exact h
theorem Qm {j k:Nat} (h:it a (j+1)=it a j) (b:it a (k+1)=it a k):it a j=it a k:=by
 grind[Nat.le_total,aas]
theorem X8 (a:AutT):it a (a.2.1.length+1)=it a a.2.1.length:=by
 have key: ∀j,it a (j+1)=it a j\/j+1<=cnt (it a (j+1)):=by
  intro j;induction j with
  | zero=>grind[JT]
  | succ j ih =>
   grind[JT,it]
 grind[Vx]
def live (a:AutT):List Bool:=it a a.2.1.length
theorem xg (a:AutT):(live a).length=a.2.1.length:=rO a _
theorem Lz {α:Type} [Inhabited α] {row:List α} {p:α->Bool} {k:Nat} (h:k<row.length):(row.take (k+1)).any p=((row.take k).any p || p (nth row (k:Int))):=by
 rw[List.take_succ_eq_append_getElem h,List.any_append,bH h];simp
section
variable (V:VA a n) (hn:n<=1000000)
include V hn
theorem Qn {out:List Bool} {s:Nat} (hs:s<n) (h:out.length=n):ah (nE a (out,(s:Int))) aU (out,0)=some (.brk (Ax a out s,9)):=by
 have i:=V.rowAt (s:=s) (by omega) (by omega)
 have:=aY (f:=nE a (out,(s:Int))) (fun k=>(if ((nth a.2.2 (s:Int)).take k).any (Ql out) then out.set s true else out,(k:Int))) 9 (fun k b=>by
  unfold nE;rw[if_pos (by grind),V.get (by omega) (by omega)];simp only[aa];rw[V.get2 (by omega) (by omega) b];rw[Lz (by omega),show nth (nth a.2.2 (s:Int)) (k:Int)=mv a s k from rfl];simp only[af (show k<9223372036854775807 by omega)];by_cases c:mv a s k≥0
  ·have g:=(V.mv (s:=s) (k:=k) (by omega) (by omega) b).2;by_cases q:((nth a.2.2 (s:Int)).take k).any (Ql out)=true
   ·simp_all[if_true,Bool.true_or,aw,aa,Int.toNat_natCast]
   ·simp[q,Bool.false_eq_true,if_false,Bool.false_or,Ql];rw[aw c (by rw[h];exact g),aw (by omega) (by omega)];cases e:nth out (mv a s k) <;> simp[e,c]
  ·simp[Ql,c]) (by rfl) (by unfold aU;omega)
 have d:(nth a.2.2 (s:Int)).take 9=nth a.2.2 (s:Int):=List.take_of_length_le (by omega);rw[d] at this;exact this
theorem Il {out:List Bool} (d:out.length=n):ah (kN a) aU (out,0)=some (.brk (mP a out n,(n:Int))):=by
 have b:=V.len;refine aY (f:=kN a) (fun s=>(mP a out s,(s:Int))) n (fun s c=>?_) ?_ (pa (by omega))
 ·unfold kN;rw[if_pos (by grind),aj (Qn V hn c (by rw[mQ];exact d)),af (by omega)]
  rfl
 simp_all[kN,if_neg]
theorem Vy:na a=some (live a):=by
 have b:=V.len;unfold na;rw[ax (by grind)];have:=aY (f:=nF a) (fun j=>(it a j,(j:Int))) n (fun j c=>by
  unfold nF;rw[if_pos (by grind),aj (Il V hn (by grind[rO])),af (by omega),it,b]) (by
  simp_all[nF,if_neg]) (pa (by omega))
 exact (aj this).trans (by simp[live,b])
theorem Qo {out:List Bool} {g:Bool} {s:Nat} (hs:s<n) (l:out.length=n):ah (eK (g,(s:Int),out) (nth a.2.2 (s:Int))) aU (g,0,out)=some (.brk (g || (hit out (nth a.2.2 (s:Int)) && !nth out (s:Int)),9,Ax a out s)):=by
 have m:=V.rowAt (s:=s) (by omega) (by omega);have b:s<out.length:=by omega
 have:=aY (f:=eK (g,(s:Int),out) (nth a.2.2 (s:Int))) (fun k=>(g || (((nth a.2.2 (s:Int)).take k).any (Ql out) && !nth out (s:Int)),(k:Int),if ((nth a.2.2 (s:Int)).take k).any (Ql out) then out.set s true else out)) 9 (fun k e=>by
  unfold eK;rw[if_pos (by grind),V.get2 (by omega) (by omega) e];rw[Lz (by omega),show nth (nth a.2.2 (s:Int)) (k:Int)=mv a s k from rfl];simp only[af (show k<9223372036854775807 by omega)];by_cases c:mv a s k≥0
  ·have j:=(V.mv (s:=s) (k:=k) (by omega) (by omega) e).2;by_cases q:((nth a.2.2 (s:Int)).take k).any (Ql out)=true
   ·simp[q,if_true,Bool.true_or];simp_all[nth,qG,aw,aa,Int.toNat_natCast,if_true]
   ·simp[q,Bool.false_eq_true,if_false,Bool.false_or,Ql,Bool.false_and,Bool.or_false];rw[aw c (by rw[l];exact j),aw (by omega) (by omega)];cases o:nth out (mv a s k) with
    | false=>simp[c]
    | true =>
     cases d:nth out (s:Int) with
     | false=>simp[c]
     | true =>
      rw[bH b] at d;simp[c,Ly b d]
  ·simp[Ql,c]) (by grind[eK]) (by unfold aU;omega)
 have i:(nth a.2.2 (s:Int)).take 9=nth a.2.2 (s:Int):=List.take_of_length_le (by omega);rw[i] at this;have h:(g || (((nth a.2.2 (s:Int)).take 0).any (Ql out) && !nth out (s:Int)))=g:=by simp
 rw[h] at this;exact this
theorem Im {out:List Bool} (j:out.length=n): ∃g,ah (eL a) aU (false,0,out)=some (.brk (g,(n:Int),mP a out n))/\(g=true↔cnt out<cnt (mP a out n)):=by
 have h:=V.nlen;obtain ⟨k,e,⟨g,rfl,d⟩⟩:=gz (f:=eL a) (fun s c=> ∃g,c=(g,(s:Int),mP a out s)/\(g=true↔cnt out<cnt (mP a out s))) n (by
  rintro s c i ⟨g,rfl,d⟩;have b:(mP a out s).length=n:=by rw[mQ];exact j
  unfold eL;simp only;rw[if_pos (by grind),V.get (by omega) (by omega)];simp only[aa];rw[aj (Qo V hn i b),af (by omega)];refine ⟨_,rfl,_,rfl,?_⟩;grind[zP,Ay,mP,id,absurd]) (by
  simp_all[eL,if_neg]) ⟨false,rfl,by simp[mP]⟩ (pa (by omega))
 exact ⟨g,e,d⟩
theorem aat:gk a=some (live a):=by
 have c:=V.len;unfold gk;rw[ax (by grind)];obtain ⟨o,e,i,rfl,k⟩:=b9 (f:=jY a) (fun i s=> ∃b,s=(b,it a i)/\(b=true->i<=cnt (it a i))/\(b=false->it a (i+1)=it a i)) (fun o=> ∃i,o= .brk (false,it a i)/\it a (i+1)=it a i) (n+1) (s:=(true,a.2.1)) (by
  rintro i s k ⟨b,rfl,d,m⟩;unfold jY;cases b with
  | false=>grind
  | true =>
   have p:=Vx a i;have d:=d rfl;have ⟨g,e,l⟩:=Im V hn (out:=it a i) (by grind[rO]);have j:mP a (it a i) n=it a (i+1):=by rw[it,c]
   rw[j] at e l;refine .inl ⟨by omega,(g,it a (i+1)),by rw[if_pos rfl,aj e],g,rfl,fun h=>?_,fun h=>?_⟩
   ·grind
   grind[it,JT]) ⟨true,rfl,fun _=>Nat.zero_le _,fun h=>by cases h⟩ (pa (by omega))
 grind[aj,Qm,X8,live]
end
end
def nothing:AutT:=(0,[false],[[-1,-1,-1,-1,-1,-1,-1,-1,-1]])
theorem Qp:qS=some nothing:=by kernel_rfl
theorem Qq:wP=some nothing:=by kernel_rfl
theorem Qr {n:Nat} (h:n<=1000000):iOk (n:Int)=true:=by
 have a:i64.min= -9223372036854775808:=by decide
 have b:i64.max=9223372036854775807:=by decide
 simp[iOk,Lit.wf,a,b,ak,decide_eq_true_eq];omega
theorem take_one {α:Type} [Inhabited α] {xs:List α} {k:Nat} (h:k<xs.length):xs.take (k+1)=xs.take k++ [nth xs (k:Int)]:=by
 rw[List.take_succ_eq_append_getElem h,bH h]
theorem l5 {α:Type} [Inhabited α] {xs ys:List α} (h:xs <+:ys) {i:Int} (a:0<=i) (h1:i<xs.length):nth ys i=nth xs i:=by
 obtain ⟨t,rfl⟩:=h;exact ke a h1
structure NumOk {κ:Type} [DecidableEq κ] (nx:κ->List (Option κ)) (first:κ) (G:κ->Prop) (B:Nat):Prop where
 g0:G first
 gn: ∀x,G x-> ∀y,some y∈nx x->G y
 len: ∀x,G x->(nx x).length=9
 bound: ∀l:List κ,l.Nodup->(∀x∈l,G x)->l.length<=B
section
variable {κ:Type} [DecidableEq κ] [Inhabited κ] {nx:κ->List (Option κ)} {first:κ} {G:κ->Prop} {B:Nat}
theorem NumOk.le (H:NumOk nx first G B) (i:Nat):(bfS nx first i).length<=B:=H.bound _ (p8 i) (mO H.g0 H.gn i)
theorem NumOk.at (H:NumOk nx first G B) {i:Nat} (h:i<(bfS nx first i).length):G (nth (bfS nx first i) (i:Int)):=mO H.g0 H.gn i _ (cw (by omega) (by omega))
theorem mR {i:Nat} (h:i<(bfS nx first i).length):bfS nx first (i+1)=nbS (bfS nx first i) (nx (nth (bfS nx first i) (i:Int))):=by rw[F5 h,bH h]
theorem yE {i:Nat} (h:i<(bfS nx first i).length):bfR nx first (i+1)=bfR nx first i++ [nbR (bfS nx first i) (nx (nth (bfS nx first i) (i:Int)))]:=by rw[yz h,bH h]
theorem Bc {β:Type} {acc:κ->β} {i:Nat} (h:i<(bfS nx first i).length):((bfS nx first (i+1)).take (i+1)).map acc=((bfS nx first i).take i).map acc++ [acc (nth (bfS nx first i) (i:Int))]:=by
 have hp:=cg (nx:=nx) (first:=first) i;have b:=hp.length_le;have e:(bfS nx first (i+1)).take i=(bfS nx first i).take i:=by
  have ⟨t,a⟩:=hp;grind
 rw[take_one (by omega),aX,e,l5 hp (by omega) (by omega)];rfl
def MapOf (M:List (κ×Int)) (l:List κ):Prop:=M.length=l.length/\ ∀x,M.lookup x=if x∈l then some (l.idxOf x:Int) else none
theorem MapOf.one (x:κ):MapOf [(x,0)] [x]:=by
 refine ⟨rfl,fun y=>?_⟩;grind
theorem MapOf.put {M:List (κ×Int)} {l:List κ} (h:MapOf M l) {x:κ} (a:x∉l):MapOf ((x,(l.length:Int))::M) (l++ [x]):=by
 refine ⟨by simp[h.1],fun y=>?_⟩;rw[List.lookup_cons];by_cases e:y=x
 ·grind
 ·simp[show (y==x)=false from by simp[e],h.2 y,List.mem_append,List.mem_singleton,e,or_false];grind
end
section
variable {nx:Int->List (Option Int)} {first:Int} {G:Int->Prop} {B:Nat}
theorem Io {p3:Int->Int->Option (Int×Bool)} {l:List Int} {M:List (Int×Int)} {os:List (Option Int)} {acs:List Bool} {rws:List (List Int)} {i:Nat}
  (hi:i<l.length) (x:os.length=9) (v:MapOf M l) (m: ∀y,some y∈os->iOk y=true) (z: ∀k,(nbS l (os.take k)).length<=1000000)
  (hp: ∀(k:Nat) (p:k<9),∃j,p3 (nth l (i:Int)) (k:Int)=some (match nth os (k:Int) with | some y=>(y,true) | none=>(j,false))) :
  ∃d,ah (fy p3 (l,M,(i:Int),0,acs,rws)) aU (l,M,[],0)=some (.brk (nbS l os,d,nbR l os,9))/\MapOf d (nbS l os):=by
 obtain ⟨A,e,d,rfl,q⟩:=gz (f:=fy p3 (l,M,(i:Int),0,acs,rws)) (fun k s=> ∃d,s=(nbS l (os.take k),d,nbR l (os.take k),(k:Int))/\MapOf d (nbS l (os.take k))) 9 (by
  rintro k s p ⟨g,rfl,a⟩;have b:=ny l (os.take k);have o:=b.length_le;have n:=z k;have ⟨j,w⟩:=hp k p;have r:(nbR l (os.take k)).length<=9:=by rw[jk,aB];omega
  unfold fy;simp only;rw[if_pos (by grind),aw (by omega) (by omega)];simp only[aa];rw[l5 b (by omega) (by omega),w,take_one (by omega),yy,vA];simp only[aa,af (show k<9223372036854775807 by omega)];cases t:nth os (k:Int) with
  | none =>
   simp only[Bool.false_eq_true,if_false];rw[ax (by grind)];exact ⟨_,rfl,g,rfl,a⟩
  | some y =>
   have u:=m y (t ▸ cw (by omega) (by omega));rw[show chk (iOk y=true)=some () from by unfold chk;grind];rw[show lkM g y=_ from a.2 y];by_cases c:y∈nbS l (os.take k)
   ·simp only[c,if_true,Option.isSome_some,Option.getD_some,aa];rw[ax (by grind)];exact ⟨_,rfl,g,by rw[oC c];rfl,by grind[oC]⟩
   ·have h:RB g iOk iOk y ((nbS l (os.take k)).length:Int)=some ((y,((nbS l (os.take k)).length:Int))::g):=by
     unfold RB;rw[if_pos ⟨by have:=a.1;omega,u,Qr n⟩]
    simp only[c,if_false,Option.isSome_none,Bool.false_eq_true,h,aa];rw[ax (by grind)];simp only[aa];rw[ax (by grind)];refine ⟨_,rfl,(y,((nbS l (os.take k)).length:Int))::g,?_,?_⟩
    ·grind[oD,nbI,rM]
    ·rw[oD c];exact a.put c) (by
  grind[fy]) (s:=(l,M,[],0)) ⟨M,rfl,v⟩ (by unfold aU;omega)
 grind
theorem aau {most:Int} {p2:Int->Option Bool} {p3:Int->Int->Option (Int×Bool)} {acc:Int->Bool} (H:NumOk nx first G B) (E:B<=1000000) (m:(B:Int)<=most) (c: ∀x,G x->iOk x=true)
  (v: ∀x,G x->p2 x=some (acc x)) (w: ∀x (k:Nat),G x->k<9-> ∃j,p3 x (k:Int)=some (match nth (nx x) (k:Int) with | some y=>(y,true) | none=>(j,false))) :
  ∃N,bfE nx first N/\fX first most p2 p3=some ((0,(bfS nx first N).map acc,bfR nx first N),true):=by
 have ⟨N,q,d⟩:=Vs (nx:=nx) (first:=first) (H.le);refine ⟨N,d,?_⟩;unfold fX;rw[show RB ([] :List (Int×Int)) iOk iOk first 0=some [(first,0)] from by unfold RB;rw[if_pos ⟨by simp,c _ H.g0,by decide⟩]];simp[aa];obtain ⟨A,e,n,rfl,b⟩:=gz (f:=cK most p2 p3) (fun i s=> ∃M,s=(bfS nx first i,M,(i:Int),0,((bfS nx first i).take i).map acc,bfR nx first i)/\MapOf M (bfS nx first i)) N (by
  rintro i s r ⟨M,rfl,o⟩;have a:=d.2 i r;have g:=H.at a;have p:=H.le (i+1);have ⟨n,e,b⟩:=Io (p3:=p3) (l:=bfS nx first i) (M:=M) (os:=nx (nth (bfS nx first i) (i:Int))) (acs:=((bfS nx first i).take i).map acc) (rws:=bfR nx first i) a (H.len _ g) o (fun y t=>c y (H.gn _ g y t))
   (fun k=>by
    have:(nbS (bfS nx first i) ((nx (nth (bfS nx first i) (i:Int))).take k)).length<=B:=H.bound _ (uM (p8 i)) fun x h=>by
     rcases zL.1 h with h | h
     ·exact mO H.g0 H.gn i x h
     ·exact H.gn _ g x (List.mem_of_mem_take h)
    omega) (fun k z=>w _ k g z)
  unfold cK;rw[if_pos (by grind),aj e,<-mR a];rw[<-mR a] at b;have u:=(cg (nx:=nx) (first:=first) i).length_le;simp only;rw[if_neg (by grind),aw (by omega) (by omega)];simp only[aa];rw[l5 (cg i) (by omega) (by omega),v _ g];simp only[aa];have D:(bfR nx first i).length=i:=lZ fun j C=>d.2 j (by omega);rw[ax (by simp;omega)];rw[ax (by simp;omega)];simp only[aa,af (show i<9223372036854775807 by omega)];exact ⟨_,rfl,n,by rw[Bc a,yE a],b⟩) (by
  rintro s ⟨M,rfl,o⟩;unfold cK;rw[if_neg (by have:=d.1;grind)]) (s:=([first],[(first,0)],0,0,[],[])) ⟨_,rfl,MapOf.one first⟩ (pa (by omega))
 rw[aj e];rw[List.take_of_length_le (by have:=d.1;omega)]
end
theorem Vz {l:List Int} {x:Int} (h:l.length<=9223372036854775807):py l x=some (if x∈l then (l.idxOf x:Int) else -1):=by
 unfold py;have ⟨o,e,d⟩:=b9 (f:=qR l x) (fun i s=>s=(i:Int)/\x∉l.take i) (fun o=>(x∈l/\o= .ret (l.idxOf x:Int))\/(x∉l/\ ∃s,o= .brk s)) l.length (s:=0) (by
  rintro i s g ⟨rfl,a⟩;unfold qR;by_cases b:i<l.length
  ·rw[if_pos (by grind),aw (by omega) (by omega)];simp[aa];by_cases c:nth l (i:Int)=x
   ·refine .inr ⟨_,by rw[if_pos (by grind)],(fun j e=>by cases e),.inl ?_⟩;have e:l=l.take i++(x::l.drop (i+1)):=by
     grind[bH,List.drop_eq_getElem_cons,List.take_append_drop]
    grind
   ·refine .inl ⟨b,_,by rw[if_neg (by grind)],by grind[af],?_⟩;rw[take_one b,List.mem_append,List.mem_singleton];rintro (h | h)
    ·exact a h
    ·exact c h.symm
  simp_all[if_neg,List.take_of_length_le]) ⟨rfl,by simp⟩ (pa h)
 rcases d with ⟨a,rfl⟩ | ⟨a,s,rfl⟩
 ·rw[bD e,if_pos a]
 ·rw[aj e,if_neg a]
section
variable {a:AutT} {n:Nat} {c:List Int} {lv:List Bool} {nx:Int->List (Option Int)} {G:Int->Prop} {B:Nat} {acc:Int->Bool}
def good (n:Nat) (lv:List Bool) (r:Int):Prop:=0<=r/\r<n/\nth lv r=true
def zQ (a:AutT) (c:List Int) (lv:List Bool) (r:Int):List (Option Int):=(List.range 9).map fun k=>if mv a r k≥0/\nth lv (mv a r k)=true then some (nth c (mv a r k)) else none
theorem LA {r:Int} {k:Nat} (b:k<9):nth (zQ a c lv r) (k:Int)=if mv a r k≥0/\nth lv (mv a r k)=true then some (nth c (mv a r k)) else none:=by
 grind[zQ,bH]
def RepsOf (n:Nat) (lv:List Bool) (c:List Int) (rs l:List Int):Prop:=rs.length=l.length/\ ∀j:Nat,j<l.length->good n lv (nth rs j)/\nth c (nth rs j)=nth l (j:Int)
theorem RepsOf.snoc {rs l:List Int} (h:RepsOf n lv c rs l) {t:Int} (b:good n lv t):RepsOf n lv c (rs++ [t]) (l++ [nth c t]):=by
 refine ⟨by simp[h.1],fun j f=>?_⟩;by_cases e:j<l.length
 ·rw[ke (by omega) (by have:=h.1;omega),ke (by omega) (by omega)];exact h.2 j e
 ·have d:nth (rs++ [t]) (l.length:Int)=t:=by rw[bH (by simp[h.1])];simp[<-h.1]
  grind[nth,bH]
theorem Qs (V:VA a n) (M:n<=1000000) (O:c.length=n) (L:lv.length=n) {l rs:List Int} {acs:List Bool} {rws:List (List Int)} {i:Nat} (hi:i<l.length) (I:RepsOf n lv c rs l) {os:List (Option Int)} (J:os.length=9)
  (D: ∀r,good n lv r->nth c r=nth l (i:Int)->zQ a c lv r=os) (K: ∀k,(nbS l (os.take k)).length<=1000000) :
  ∃b,ah (iU a c lv (l,rs,(i:Int),0,acs,rws)) aU (l,rs,[],0)=some (.brk (nbS l os,b,nbR l os,9))/\RepsOf n lv c b (nbS l os):=by
 obtain ⟨N,e,b,rfl,H⟩:=gz (f:=iU a c lv (l,rs,(i:Int),0,acs,rws)) (fun k s=> ∃b,s=(nbS l (os.take k),b,nbR l (os.take k),(k:Int))/\RepsOf n lv c b (nbS l (os.take k))) 9 (by
  rintro k s x ⟨g,rfl,j⟩;have m:=ny l (os.take k);have y:=m.length_le;have C:=K k;have A:(nbR l (os.take k)).length<=9:=by rw[jk,aB];omega
  have E:=j.1;have ⟨⟨q,u,F⟩,z⟩:=j.2 i (by omega);rw[l5 m (by omega) (by omega)] at z;have v:=D _ ⟨q,u,F⟩ z;have d:nth os (k:Int)=if mv a (nth g (i:Int)) k≥0/\nth lv (mv a (nth g (i:Int)) k)=true then some (nth c (mv a (nth g (i:Int)) k)) else none:=by
   rw[<-v];exact LA x
  have w:=V.mv (s:=nth g (i:Int)) (k:=k) q u x;unfold iU;simp only;rw[if_pos (by grind),aw (xs:=g) (by omega) (by omega)];simp only[aa];rw[V.get q u];simp only[aa];rw[V.get2 q u x,take_one (by omega),yy,vA];simp only[aa,af (show k<9223372036854775807 by omega)];by_cases p:mv a (nth g (i:Int)) k≥0
  ·rw[if_pos (by grind),aw (xs:=lv) p (by omega)];simp only[aa];by_cases o:nth lv (mv a (nth g (i:Int)) k)=true
   ·rw[if_pos ⟨p,o⟩] at d;rw[if_pos o,aw (xs:=c) p (by omega),d];simp only[aa];rw[Vz (by omega)];simp only[aa];by_cases t:nth c (mv a (nth g (i:Int)) k)∈nbS l (os.take k)
    ·rw[if_pos t,if_neg (by simp)];simp only[aa];rw[ax (by grind)];exact ⟨_,rfl,g,by rw[oC t];rfl,by grind[oC]⟩
    ·rw[if_neg t,if_pos (by decide)];rw[ax (by grind)];rw[ax (by grind)];simp only[aa];rw[ax (by grind)];refine ⟨_,rfl,g++ [mv a (nth g (i:Int)) k],?_,?_⟩
     ·grind[oD,nbI,rM]
     ·rw[oD t];exact j.snoc ⟨p,w.2,o⟩
   ·rw[if_neg (fun h=>o h.2)] at d;rw[if_neg o,d];simp only[aa];rw[ax (by grind)];exact ⟨_,rfl,g,rfl,j⟩
  ·rw[if_neg (fun h=>p h.1)] at d;rw[if_neg (by grind),d];simp only[aa];rw[ax (by grind)];exact ⟨_,rfl,g,rfl,j⟩) (by
  grind[iU]) (s:=(l,rs,[],0)) ⟨rs,rfl,I⟩ (by unfold aU;omega)
 grind
theorem aav (V:VA a n) (E:n<=1000000) (L:c.length=n) (t:lv.length=n) (hs:nth lv a.1=true) (H:NumOk nx (nth c a.1) G B) (O:B<=1000000)
  (A: ∀r,good n lv r->nx (nth c r)=zQ a c lv r) (h: ∀r,good n lv r->acc (nth c r)=nth a.2.1 r) :
  ∃N,bfE nx (nth c a.1) N/\kz a c lv=some (0,(bfS nx (nth c a.1) N).map acc,bfR nx (nth c a.1) N):=by
 have ⟨N,C,m⟩:=Vs (nx:=nx) (first:=nth c a.1) (H.le);refine ⟨N,m,?_⟩;have d:=V.start;unfold kz;rw[aw d.1 (by omega)];simp[aa];rw[if_pos hs,aw d.1 (by omega)];simp[aa];obtain ⟨M,e,o,rfl,q⟩:=gz (f:=lh a c lv) (fun i s=> ∃o,s=(bfS nx (nth c a.1) i,o,(i:Int),0,((bfS nx (nth c a.1) i).take i).map acc,bfR nx (nth c a.1) i)/\RepsOf n lv c o (bfS nx (nth c a.1) i)) N (by
  rintro i s D ⟨o,rfl,q⟩;have b:=m.2 i D;have v:=H.at b;have ⟨l,e,g⟩:=Qs (acs:=((bfS nx (nth c a.1) i).take i).map acc) (rws:=bfR nx (nth c a.1) i) V E L t b q (os:=nx (nth (bfS nx (nth c a.1) i) (i:Int))) (H.len _ v) (fun r K e=>by grind) (fun k=>by
    have:(nbS (bfS nx (nth c a.1) i) ((nx (nth (bfS nx (nth c a.1) i) (i:Int))).take k)).length<=B:=H.bound _ (uM (p8 i)) fun x p=>by
     rcases zL.1 p with p | p
     ·exact mO H.g0 H.gn i x p
     ·exact H.gn _ v x (List.mem_of_mem_take p)
    omega)
  unfold lh;simp only;rw[if_pos (by grind),aj e];rw[<-mR b] at g;have F:=(cg (nx:=nx) (first:=nth c a.1) i).length_le;have I:=g.1;have ⟨⟨u,y,J⟩,z⟩:=g.2 i (by omega);rw[l5 (cg i) (by omega) (by omega)] at z;rw[aw (xs:=l) (by omega) (by omega)];simp only[aa];rw[V.acc u y,<-h _ ⟨u,y,J⟩,z];simp only[aa];have K:(bfR nx (nth c a.1) i).length=i:=lZ fun j w=>m.2 j (by omega);rw[ax (by simp;omega)];rw[ax (by simp;omega)];simp only[aa,af (show i<9223372036854775807 by omega)];exact ⟨_,rfl,l,by rw[<-mR b,Bc b,yE b],g⟩) (by
  rintro s ⟨o,rfl,q⟩;unfold lh;rw[if_neg (by have:=m.1;grind)]) (s:=([nth c a.1],[a.1],0,0,[],[])) ⟨[a.1],rfl,rfl,fun j w=>by
   obtain rfl:j=0:=by simpa [bfS] using w
   exact ⟨⟨d.1,d.2,hs⟩,rfl⟩⟩ (pa (by omega))
 rw[aj e];rw[List.take_of_length_le (by have:=m.1;omega)]
theorem JU (V:VA a n) (d:lv.length=n) (hs:nth lv a.1=false):kz a c lv=some nothing:=by
 have b:=V.start;simp_all[kz,aw,aa,Qp]
end
abbrev Ex:=(List Int)×Int×Int×(List Int)×Bool
abbrev X9 (x:Int) (j:Nat):Bool:=(rU (qc x (j:Int)) 1)==1
def TY (F:List Int) (set m0:Int):Nat->Int
 | 0=>m0
 | i+1=>if X9 set (i+1) then orI (TY F set m0 i) (nth F (i:Int)) else TY F set m0 i
def pick (L:List Int) (m letter:Int):Nat->Int
 | 0=>0
 | i+1=>if nth L (i:Int)=letter/\X9 m i=true then orI (pick L m letter i) (Dc 1 ((i+1:Nat):Int)) else pick L m letter i
def aft (p:Ex) (set letter:Int):Int:=pick p.1 (TY p.2.2.2.1 set (if (rU set 1)==1 then p.2.1 else 0) p.2.2.2.1.length) letter p.1.length
def uN (p:Ex) (set:Int):Bool:=if (rU set 1)==1 then (if p.2.2.2.2 then true else (rU (qc set 1) p.2.2.1) !=0) else (rU (qc set 1) p.2.2.1) !=0
theorem uO (i:Nat):chk (0<=(i:Int))=some ():=by rfl
theorem Ya {p:Ex} {set letter:Int} (j:p.2.2.2.1.length=p.1.length) (g:p.1.length<=1000000):qm p set letter=some (aft p set letter):=by
 have h: ∀b,ah (jM p set) aU (b,0)=some (.brk (TY p.2.2.2.1 set b p.1.length,(p.1.length:Int))):=fun b =>
  aY (f:=jM p set) (fun i=>(TY p.2.2.2.1 set b i,(i:Int))) p.1.length (fun i d=>by
   unfold jM;rw[if_pos (by grind),af (by omega),uO];rw[TY];by_cases c:X9 set (i+1)=true
   ·simp_all[if_pos,aw]
   grind) (by unfold jM;simp) (pa (by omega))
 have e: ∀a:Int×Int,ah (jN p letter a) aU (0,0)=some (.brk (pick p.1 a.1 letter p.1.length,(p.1.length:Int))):=fun a =>
  aY (f:=jN p letter a) (fun i=>(pick p.1 a.1 letter i,(i:Int))) p.1.length (fun i d=>by
   unfold jN;rw[if_pos (by grind),af (by omega),uO,uO];rw[pick];by_cases c:X9 a.1 i=true
   ·rw[if_pos c,aw (by omega) (by omega)];grind
   grind) (by unfold jN;simp) (pa (by omega))
 unfold qm aft;by_cases c:((rU set 1)==1)=true
 ·simp_all[if_pos,aa,aj]
 simp_all[if_neg,aa,aj]
theorem Yb {p:Ex} {set letter:Int} (j:p.2.2.2.1.length=p.1.length) (g:p.1.length<=1000000):iN p set letter=some (aft p set letter):=by
 have h: ∀b,ah (dP p set) aU (b,0)=some (.brk (TY p.2.2.2.1 set b p.2.2.2.1.length,(p.2.2.2.1.length:Int))):=fun b =>
  aY (f:=dP p set) (fun i=>(TY p.2.2.2.1 set b i,(i:Int))) p.2.2.2.1.length (fun i d=>by
   unfold dP;rw[if_pos (by grind),aw (by omega) (by omega)];rw[af (by omega),uO];rw[TY];grind) (by unfold dP;simp) (pa (by omega))
 have e: ∀a:Int×Int,ah (dQ p letter a) aU (0,0)=some (.brk (pick p.1 a.1 letter p.1.length,(p.1.length:Int))):=fun a =>
  aY (f:=dQ p letter a) (fun i=>(pick p.1 a.1 letter i,(i:Int))) p.1.length (fun i d=>by
   unfold dQ;rw[if_pos (by grind),aw (by omega) (by omega)];rw[af (by omega),uO,uO];rw[pick];grind) (by unfold dQ;simp) (pa (by omega))
 unfold iN aft;by_cases c:((rU set 1)==1)=true
 ·simp_all[if_pos,aa,aj]
 simp_all[if_neg,aa,aj]
theorem aaw (p:Ex) (x:Int):nD p x=some (uN p x):=by
 grind[nD,uN]
theorem aax (p:Ex) (x:Int):eJ p x=some (uN p x):=by
 grind[eJ,uN]
theorem Nk (x:Int): -9223372036854775808<=i64.wrap x/\i64.wrap x<=9223372036854775807:=by
 simp[IntKind.wrap,IntKind.bits,IntKind.signed,Bool.true_and];grind
theorem Yc (x:Int):iOk (i64.wrap x)=true:=by
 have a:i64.min= -9223372036854775808:=by decide
 simp_all[Nk,iOk,Lit.wf,ak,decide_eq_true_eq]
theorem aay (m n:Int):iOk (orI m n)=true:=Yc _
theorem Qt (L:List Int) (m letter:Int): ∀i,iOk (pick L m letter i)=true
 | 0=>by rfl
 | i+1=>by
  rw[pick];split
  ·exact aay _ _
  ·exact Qt L m letter i
def nxS (p:Ex) (x:Int):List (Option Int):=(List.range 9).map fun k:Nat=>if aft p x (k:Int)=0 then none else some (aft p x (k:Int))
theorem VB {p:Ex} {x:Int} {k:Nat} (a:k<9):nth (nxS p x) (k:Int)=if aft p x k=0 then none else some (aft p x k):=by
 grind[nxS,bH]
theorem CO (p:Ex) (x:Int):(nxS p x).length=9:=by simp[nxS]
theorem aaz {p:Ex} {x y:Int} (h:some y∈nxS p x):iOk y=true:=by
 have ⟨k,a,e⟩:=List.mem_map.1 h;split at e
 ·cases e
 ·cases ae e;exact Qt _ _ _ _
theorem Qu {κ:Type} [DecidableEq κ] : ∀(l:List κ) (os:List (Option κ)),(nbS l os).length<=l.length+os.length
 | l,[] =>by simp[nbS]
 | l,o::os=>by
  have h:=Qu (nbL l o) os;have a:(nbL l o).length<=l.length+1:=by
   cases o with
   | none=>simp[nbL]
   | some x=>grind[nbL]
  grind[nbS,nbL,aq]
section
variable {κ:Type} [DecidableEq κ] (nx:κ->List (Option κ)) (first:κ) (acc:κ->Bool) (most:Nat)
def goM:Nat->Nat->AutT×Bool
 | 0,i=>((0,[],[]),false)
 | f+1,i=>if i<(bfS nx first i).length then (if (bfS nx first (i+1)).length>most then ((0,[],[]),false) else goM f (i+1)) else ((0,((bfS nx first i).take i).map acc,bfR nx first i),true)
end
section
variable {κ:Type} [DecidableEq κ] {nx:κ->List (Option κ)} {first:κ} {acc:κ->Bool} {most:Nat}
theorem Qv {i:Nat} (h: ∀j,j<i->j<(bfS nx first j).length):i<=(bfS nx first i).length:=by
 cases i with
 | zero=>omega
 | succ i =>
  have a:=h i (by omega);grind[cg]
theorem LB {S:Type} {f:S->Option (Out (AutT×Bool) S)} (u:most<=1000000) (h1:1<=most) (b:Nat->S->Prop)
  (hs: ∀i s,b i s->(∀j,j<i->j<(bfS nx first j).length)->(bfS nx first i).length<=most->i<(bfS nx first i).length->((bfS nx first (i+1)).length>most->f s=some (.ret ((0,[],[]),false)))/\((bfS nx first (i+1)).length<=most-> ∃a,f s=some (.nxt a)/\b (i+1) a))
  (m: ∀i s,b i s-> ¬i<(bfS nx first i).length->f s=some (.brk s)) {s:S} (k:b 0 s) :
  (ah f aU s=some (.ret ((0,[],[]),false))/\goM nx first acc most (most+2) 0=((0,[],[]),false)) \/
  ∃N a,ah f aU s=some (.brk a)/\b N a/\bfE nx first N/\N<=most/\goM nx first acc most (most+2) 0=((0,(bfS nx first N).map acc,bfR nx first N),true):=by
 have ⟨o,e,t⟩:=b9 (f:=f) (fun i s=>b i s/\(∀j,j<i->j<(bfS nx first j).length)/\(bfS nx first i).length<=most/\goM nx first acc most (most+2) 0=goM nx first acc most (most+2 - i) i)
  (fun o=>(o= .ret ((0,[],[]),false)/\goM nx first acc most (most+2) 0=((0,[],[]),false))\/ ∃N a,o= .brk a/\b N a/\bfE nx first N/\N<=most/\goM nx first acc most (most+2) 0=((0,(bfS nx first N).map acc,bfR nx first N),true)) most (s:=s) (by
  rintro i s h ⟨g,d,p,l⟩;have n:=Qv d;rw[show most+2 - i=(most+1 - i)+1 from by omega] at l;have r:goM nx first acc most (most+1 - i+1) i=if i<(bfS nx first i).length then (if (bfS nx first (i+1)).length>most then ((0,[],[]),false) else goM nx first acc most (most+1 - i) (i+1)) else ((0,((bfS nx first i).take i).map acc,bfR nx first i),true):=rfl
  by_cases c:i<(bfS nx first i).length
  ·grind
  ·refine .inr ⟨_,m i s g c,(fun a e=>by cases e),.inr ⟨i,s,rfl,g,⟨by omega,d⟩,h,?_⟩⟩;grind) ⟨k,fun j q=>by omega,by simp[bfS];omega,rfl⟩ (pa (by omega))
 grind
end
section
variable {p:Ex} {most:Nat} (hl:p.2.2.2.1.length=p.1.length) (hb:p.1.length<=1000000) (hm:most<=900000) (h1:1<=most)
include hl hb hm h1
theorem acz:jX p most=some (goM (nxS p) 1 (uN p) most (most+2) 0):=by
 have m: ∀(l:List Int) (i k:Nat),k<9-> ∃j,(fun b g=>dY b g (p.1,p.2.1,p.2.2.1,p.2.2.2.1,p.2.2.2.2)) (nth l (i:Int)) (k:Int)=some (match nth (nxS p (nth l (i:Int))) (k:Int) with | some y=>(y,true) | none=>(j,false)):=by
  intro l i k n;refine ⟨0,?_⟩;show dY _ _ p=_;unfold dY;rw[Yb hl hb,VB n];by_cases c:aft p (nth l (i:Int)) k=0
  ·grind
  ·grind
 unfold jX fX;rw[show RB ([] :List (Int×Int)) iOk iOk 1 0=some [(1,0)] from by rfl];simp[aa];rcases LB (nx:=nxS p) (first:=1) (acc:=uN p) (most:=most) (f:=cK most (fun b=>eJ (p.1,p.2.1,p.2.2.1,p.2.2.2.1,p.2.2.2.2) b) (fun b g=>dY b g (p.1,p.2.1,p.2.2.1,p.2.2.2.1,p.2.2.2.2)))
  (by omega) h1 (fun i s=> ∃M,s=(bfS (nxS p) 1 i,M,(i:Int),0,((bfS (nxS p) 1 i).take i).map (uN p),bfR (nxS p) 1 i)/\MapOf M (bfS (nxS p) 1 i)) (by
   rintro i s ⟨M,rfl,h⟩ x z a;have ⟨r,e,d⟩:=Io (p3:=fun b g=>dY b g (p.1,p.2.1,p.2.2.1,p.2.2.2.1,p.2.2.2.2)) (l:=bfS (nxS p) 1 i) (M:=M) (os:=nxS p (nth (bfS (nxS p) 1 i) (i:Int))) (acs:=((bfS (nxS p) 1 i).take i).map (uN p)) (rws:=bfR (nxS p) 1 i) a (CO _ _) h (fun y v=>aaz v)
    (fun k=>by
     grind[Qu,bfS,nxS,nth,CO,aB]) (fun k n=>m _ i k n)
   rw[<-mR a] at d;have w:=(cg (nx:=nxS p) (first:=1) i).length_le;constructor
   ·simp_all[cK,if_pos,aj,mR]
   ·intro q;unfold cK;rw[if_pos (by grind),aj e,<-mR a];simp only;rw[if_neg (by grind),aw (by omega) (by omega)];simp only[aa];rw[l5 (cg i) (by omega) (by omega)];rw[aax];simp only[aa];have C:=lZ x;rw[ax (by simp;omega)];rw[ax (by simp;omega)];simp only[aa,af (show i<9223372036854775807 by omega)];exact ⟨_,rfl,r,by rw[Bc a,yE a],d⟩) (by
   rintro i s ⟨M,rfl,h⟩ A;simp_all[cK,if_neg]) (s:=([1],[(1,0)],0,0,[],[])) ⟨_,rfl,MapOf.one 1⟩ with ⟨e,o⟩ | ⟨N,B,e,⟨M,rfl,h⟩,u,t,o⟩
 ·grind[bD]
 ·rw[aj e,o];simp only[aa];rw[List.take_of_length_le (by have:=u.1;omega)]
theorem T0 {l:List Int} {acs:List Bool} {rws:List (List Int)} {i:Nat} (hi:i<l.length) (g:l.length<=most) :
  ah (ky p (l,(i:Int),0,acs,rws)) aU (l,[],0)=some (.brk (nbS l (nxS p (nth l (i:Int))),nbR l (nxS p (nth l (i:Int))),9)):=by
 have m:=CO p (nth l (i:Int))
 have:=aY (f:=ky p (l,(i:Int),0,acs,rws)) (fun k=>(nbS l ((nxS p (nth l (i:Int))).take k),nbR l ((nxS p (nth l (i:Int))).take k),(k:Int))) 9 (fun k j=>by
  have a:=ny l ((nxS p (nth l (i:Int))).take k);have b:=a.length_le;have h:=Qu l ((nxS p (nth l (i:Int))).take k);rw[aB] at h;have e:(nbR l ((nxS p (nth l (i:Int))).take k)).length<=9:=by rw[jk,aB];omega
  unfold ky;simp only[fM];rw[if_pos (by grind),aw (by omega) (by omega)];simp only[aa];rw[l5 a (by omega) (by omega),Ya hl hb];simp only[aa];rw[take_one (by omega),yy,vA,VB j];simp only[af (show k<9223372036854775807 by omega)];by_cases c:aft p (nth l (i:Int)) k=0
  ·rw[if_pos c,if_neg (by simp[c])];simp[aa];rw[ax (by grind)];rfl
  ·rw[if_neg c,if_pos (by grind),Vz (by omega)];simp[aa];by_cases d:aft p (nth l (i:Int)) k∈nbS l ((nxS p (nth l (i:Int))).take k)
   ·rw[if_pos d,if_neg (by simp),oC d];simp[aa];rw[ax (by grind)];rfl
   ·rw[if_neg d,if_pos (by decide),ax (by grind),oD d];simp[aa];rw[ax (by simp;omega)];simp[nbI,rM d,aa]) (by
  rfl) (by unfold aU;omega)
 exact this
theorem aaA:fj p most=some (goM (nxS p) 1 (uN p) most (most+2) 0):=by
 unfold fj;rcases LB (nx:=nxS p) (first:=1) (acc:=uN p) (most:=most) (f:=gU p most)
  (by omega) h1 (fun i s=>s=(bfS (nxS p) 1 i,(i:Int),0,((bfS (nxS p) 1 i).take i).map (uN p),bfR (nxS p) 1 i)) (by
   rintro i s rfl g b a;have e:=T0 hl hb hm h1 (acs:=((bfS (nxS p) 1 i).take i).map (uN p)) (rws:=bfR (nxS p) 1 i) a b;have k:=(cg (nx:=nxS p) (first:=1) i).length_le;constructor
   ·simp_all[gU,if_pos,aj,mR]
   ·intro d;unfold gU;rw[if_pos (by grind),aj e,<-mR a];simp only;rw[if_neg (by grind),aw (by omega) (by omega)];simp only[aa];rw[l5 (cg i) (by omega) (by omega)];rw[aaw];simp only[aa];have l:=lZ g;rw[ax (by simp;omega)];rw[ax (by simp;omega)];simp only[aa,af (show i<9223372036854775807 by omega)];exact ⟨_,rfl,by rw[Bc a,yE a]⟩) (by
   simp_all[gU,if_neg]) (s:=([1],0,0,[],[])) rfl with ⟨e,c⟩ | ⟨N,m,e,rfl,h,j,c⟩
 ·rw[bD e,c]
 ·rw[aj e,c];rw[List.take_of_length_le (by have:=h.1;omega)]
end
theorem T1 (m n:Int):orI m n=orI n m:=by unfold orI;rw[BitVec.or_comm]
def lk (F:List Int) (from_ to_:Int):Nat->List Int
 | 0=>F
 | i+1=>if X9 from_ i then (lk F from_ to_ i).set i (orI (nth (lk F from_ to_ i) (i:Int)) to_) else lk F from_ to_ i
theorem yF (F:List Int) (f t:Int): ∀i,(lk F f t i).length=F.length
 | 0=>rfl
 | i+1=>by
  rw[lk];split
  ·rw[List.length_set,yF]
  ·exact yF F f t i
theorem LC {p:Ex} {f t:Int} (d:p.2.2.2.1.length<=1000000):px p f t=some (p.1,p.2.1,p.2.2.1,lk p.2.2.2.1 f t p.2.2.2.1.length,p.2.2.2.2):=by
 have a:ah (kM f t) aU (0,p.2.2.2.1)=some (.brk ((p.2.2.2.1.length:Int),lk p.2.2.2.1 f t p.2.2.2.1.length)):=aY (f:=kM f t) (fun i=>((i:Int),lk p.2.2.2.1 f t i)) p.2.2.2.1.length (fun i b=>by
  have e:=yF p.2.2.2.1 f t i;unfold kM;rw[if_pos (by grind),uO];rw[lk,af (by omega)];by_cases c:X9 f i=true
  ·simp_all[if_pos,aw,aa,Int.toNat_natCast]
  grind) (by unfold kM;simp[yF]) (pa (by omega))
 grind[px,aj]
theorem LD {p:Ex} {f t:Int} (d:p.2.2.2.1.length<=1000000):eY p f t=some (p.1,p.2.1,p.2.2.1,lk p.2.2.2.1 f t p.2.2.2.1.length,p.2.2.2.2):=by
 have a:ah (dG p f t) aU (0,p.2.2.2.1)=some (.brk ((p.2.2.2.1.length:Int),lk p.2.2.2.1 f t p.2.2.2.1.length)):=aY (f:=dG p f t) (fun i=>((i:Int),lk p.2.2.2.1 f t i)) p.2.2.2.1.length (fun i b=>by
  have e:=yF p.2.2.2.1 f t i;unfold dG;rw[if_pos (by grind),uO];rw[lk,af (by omega)];by_cases c:X9 f i=true
  ·simp_all[if_pos,aw,aa,Int.toNat_natCast]
  grind) (by unfold dG;simp) (pa (by omega))
 grind[eY,aj]
def BOk (x:Tr Tok):Prop:= ∀(n m:Nat) (p:Ex),(flat x).length<=n->(flat x).length<=m->p.2.2.2.1.length=p.1.length->p.1.length+(flat x).length<=100000->
 ∃(nu:Bool) (fi la:Int) (q:Ex),cG n p (flat x)=some ((nu,fi,la),q)/\bN m p x=some ((fi,la,nu),q)/\q.2.2.2.1.length=q.1.length/\q.1.length<=p.1.length+(flat x).length
theorem T2 {x:Tr Tok} (h:WT x):BOk x:=by
 refine WT.ind (p:=BOk) ?_ ?_ ?_ h
 ·intro t e n m p c d v j;rw[F6] at c d j⊢;simp only[aq,aD] at j
  match n,m,c,d with
  | n+1,m+1,_,_ =>
   rw[cG,bN];simp only[tq,aa]
   have:=(lD (A:=[]) (t:=t) (by simp)).1
   rw[List.nil_append] at this;rw[this];simp only[aa,fM];rcases nz (show 0<=ar t by omega) with ⟨k,_⟩ | ⟨k,_⟩ | ⟨_,k⟩
   ·omega
   ·omega
   rcases k with k | k | k
   ·exact ⟨false,0,0,p,by simp[k],by simp[k],v,by simp⟩
   ·exact ⟨true,0,0,p,by simp[k],by simp[k],v,by simp⟩
   ·refine ⟨false,Dc 1 (p.1.length:Int),Dc 1 (p.1.length:Int),(p.1++ [t.2.1],p.2.1,p.2.2.1,p.2.2.2.1++ [0],p.2.2.2.2),?_,?_,by grind,by simp⟩
    ·rw[if_neg (by simp[k]),if_pos (by simp[k]),ax (by grind)];simp only[aa];rw[ax (by simp;omega)];rfl
    ·rw[if_neg (by simp[k]),if_pos (by simp[k]),ax (by grind)];simp only[aa];rw[ax (by simp;omega)];rfl
 ·intro t a e P Z n m p c d v j;rw[DI] at c d j⊢;simp only[az,aq,aD] at c d j
  match n,m,c,d with
  | n+1,m+1,c,d =>
   rw[cG,bN];simp only[tq,aa,fM];obtain ⟨N,I⟩:=lD (A:=flat a) (t:=t) (by omega);rw[N];simp only[aa];obtain ⟨i,C,u,q,H,G,s,L⟩:=Z n m p (by omega) (by omega) v (by omega);rcases Qg e with ⟨S,z⟩ | ⟨S,z,k3⟩
   ·have B:(t.1==2)=false:=by simp[z]
    have y:(t.1==3)=false:=by simp[z]
    have E:(t.1==4)=false:=by simp[z]
    have D:(t.1==5)=false:=by simp[z]
    simp only[B,y,E,D,S,Bool.false_eq_true,if_false,if_true];rw[I,Int.toNat_natCast,List.take_left,chk_of (by grind)];simp only[aa];rw[H,show aS [a] 0=some a from rfl];simp only[aa];rw[G];simp only[aa,fM];rw[LC (by omega),LD (by omega)];simp only[aa];refine ⟨true,C,u,_,rfl,rfl,?_,?_⟩
    ·simp only[yF];exact s
    ·simp only[az,aq,aD];omega
   grind
 ·intro t a b e P Q M K n m p c d v j;rw[yB] at c d j⊢;have O:((flat a++flat b)++ [t]).length<=1000000:=by omega
  obtain ⟨T,V,X,W⟩:=yD (a:=a) (t:=t) Q O;simp only[az,aq,aD] at c d j
  match n,m,c,d with
  | n+1,m+1,c,d =>
   have Y:=P.pos;have hpb:=Q.pos;rw[cG,bN];simp only[tq,aa,fM];obtain ⟨N,I⟩:=lD (A:=flat a++flat b) (t:=t) (by grind);rw[N];simp only[aa];obtain ⟨i,C,u,q,H,G,s,L⟩:=M n m p (by omega) (by omega) v (by omega);obtain ⟨f,o,g,l,w,F,J,hq4⟩:=K n m q (by omega) (by omega) s (by omega);have c1: ∀r:Int,0<=r->r<=((flat a++flat b++ [t]).length:Int)->chk (0<=r/\r<=((flat a++flat b++ [t]).length:Int))=some ():=fun r h1 h2=>chk_of ⟨h1,h2⟩;have R:aS [a,b] 0=some a:=rfl;have U:aS [a,b] 1=some b:=rfl;rcases nz (show 0<=ar t by omega) with ⟨_,k⟩ | ⟨k,_⟩ | ⟨k,_⟩
   ·rcases k with k | k
    ·have B:(t.1==2)=false:=by simp[k]
     have y:(t.1==3)=false:=by simp[k]
     have E:(t.1==4)=true:=by simp[k]
     have D:(t.1==5)=false:=by simp[k]
     simp only[B,y,E,D,Bool.false_eq_true,if_false,if_true];rw[I,T,V,chk_of (by grind)];simp only[aa];rw[chk_of (by grind),X,W,H,R,U];simp only[aa];rw[G,chk_of (by grind)];simp only[aa,fM];rw[w,F];simp only[aa,fM];rw[LC (by omega),LD (by omega)];simp only[aa];refine ⟨i&&f,if i then orI C o else C,if f then orI u g else g,(l.1,l.2.1,l.2.2.1,lk l.2.2.2.1 u o l.2.2.2.1.length,l.2.2.2.2),?_,?_,?_,?_⟩
     ·cases i <;> cases f <;> rfl
     ·rw[T1 u g];cases i <;> cases f <;> rfl
     ·grind[yF]
     grind
    ·have B:(t.1==2)=false:=by simp[k]
     have y:(t.1==3)=false:=by simp[k]
     have E:(t.1==4)=false:=by simp[k]
     have D:(t.1==5)=true:=by simp[k]
     simp only[B,y,E,D,Bool.false_eq_true,if_false,if_true];rw[I,T,V,chk_of (by grind)];simp only[aa];rw[chk_of (by grind),X,W,H,R,U];simp only[aa];rw[G,chk_of (by grind)];simp only[aa,fM];rw[w,F];simp only[aa,fM];refine ⟨i || f,orI C o,orI u g,l,?_,?_,J,?_⟩
     ·cases i <;> simp
     ·cases i <;> simp
     grind
   ·omega
   ·omega
def LF (e:List Tok):Nat->Nat
 | 0=>0
 | i+1=>if (nth e (i:Int)).1=3 then LF e i+1 else LF e i
theorem JV (e:List Tok): ∀i,LF e i<=i
 | 0=>aH _
 | i+1=>by
  have:=JV e i
  grind[LF]
theorem aaB {r:List Tok×Bool} (b:r.1.length<=1000000):ah (eF r) aU (0,0)=some (.brk ((LF r.1 r.1.length:Int),(r.1.length:Int))):=
 aY (f:=eF r) (fun i=>((LF r.1 i:Int),(i:Int))) r.1.length (fun i a=>by
  have:=JV r.1 i
  unfold eF;rw[if_pos (by grind),aw (by omega) (by omega)];rw[LF,af (show i<9223372036854775807 by omega),af (show LF r.1 i<9223372036854775807 by omega)];grind) (by unfold eF;simp) (pa (by omega))
theorem acA {r:List Tok×Bool} (b:r.1.length<=1000000):ah (eI r) aU (0,0)=some (.brk ((LF r.1 r.1.length:Int),(r.1.length:Int))):=
 aY (f:=eI r) (fun i=>((LF r.1 i:Int),(i:Int))) r.1.length (fun i a=>by
  have:=JV r.1 i
  unfold eI;rw[if_pos (by grind),aw (by omega) (by omega)];rw[LF,af (show i<9223372036854775807 by omega),af (show LF r.1 i<9223372036854775807 by omega)];grind) (by unfold eI;simp) (pa (by omega))
theorem xh {e:List Tok} (k:e.length<=1048576): ∃r:Ex×Bool,dE e=some r/\jr e=some r/\r.1.2.2.2.1.length=r.1.1.length/\r.1.1.length<=100000:=by
 have t:=p9;have ⟨i,m⟩:=JS k;unfold dE jr;rw[i,m];simp only[aa];by_cases c:(Lx e).2=true
 ·have ⟨y,a,g,p⟩:=Qk c;rw[if_pos c,if_pos c,aj (aaB (by grind)),aj (acA (by grind))];by_cases d:(LF (Lx e).1 (Lx e).1.length:Int)>20
  ·simp_all
  ·have b:=decide_eq_false d;simp only[b,Bool.false_eq_true,if_false];rw[g,F8 (by omega),vB a];simp only[aa];have ⟨n,o,s,q,j,h,l,f⟩:=T2 a fP fP ([],0,0,[],false) (by omega) (by omega) rfl (by grind);rw[j,h];simp[aa];grind
 simp_all
theorem Nl (n:Nat) (l:List Int) (a:l.Nodup) (h: ∀x∈l,0<=x/\x<n):l.length<=n:=by
 have:=a.length_le_of_subset (l₂:=(List.range n).map Int.ofNat) (fun x b=>by
  obtain ⟨d,c⟩:=h x b;exact List.mem_map.2 ⟨x.toNat,List.mem_range.2 (by omega),by show ((x.toNat:Nat):Int)=x;omega⟩)
 simpa using this
theorem aaC {n:Nat} {x:Int} (a:n<=1000000) (b:0<=x) (h1:x<n):iOk x=true:=by
 have:=Qr (n:=x.toNat) (by omega)
 rwa [show ((x.toNat:Nat):Int)=x from by omega] at this
theorem aaD {κ:Type} [DecidableEq κ] {nx:κ->List (Option κ)} {first:κ} {G:κ->Prop} {B N:Nat} {acc:κ->Bool} (H:NumOk nx first G B) (f:B<=1000000) (c:bfE nx first N):Data.sm ((0,(bfS nx first N).map acc,bfR nx first N):AutT):=by
 have e:=H.bound _ (p8 (nx:=nx) (first:=first) N) (mO H.g0 H.gn N);refine ⟨trivial,⟨by rw[List.length_map];omega,fun _ _=>trivial⟩,?_,?_⟩
 ·rw[lZ c.2];have:=c.1;omega
 ·have key: ∀i,i<=N-> ∀r∈bfR nx first i,r.length=9:=by
   intro i;induction i with
   | zero=>intro _ r a;cases a
   | succ i ih =>
    intro d r a;have b:=c.2 i (by omega);rw[yz b] at a;rcases aE a with a | a
    ·exact ih (by omega) r a
    ·obtain rfl:=al a;rw[jk,H.len _ (mO H.g0 H.gn i _ (List.getElem_mem b))]
  intro r a;exact ⟨by rw[key N (aH _) r a];decide,fun _ _=>trivial⟩
theorem Nm:Data.sm nothing:=⟨trivial,⟨by decide,fun _ _=>trivial⟩,by decide,fun r a=>by
 obtain rfl:=al a;exact ⟨by decide,fun _ _=>trivial⟩⟩
theorem Nn {κ:Type} [DecidableEq κ] {l m:List κ} (h:l <+:m) {y:κ} (a:y∈l):(m.idxOf y:Int)=l.idxOf y:=by
 obtain ⟨t,rfl⟩:=h;grind
theorem VC {κ:Type} [DecidableEq κ] : ∀(l:List κ) (os:List (Option κ)) (i:Nat),i<os.length->nth (nbR l os) (i:Int)=nbI (nbS l os) (nth os (i:Int))
 | l,o::os,0,_=>by
  show nbI l o=nbI (nbS (nbL l o) os) o;cases o with
  | none=>rfl
  | some y =>
   have d:y∈nbL l (some y):=Qb.2 (.inr rfl);simp[nbI];rw[Nn (ny _ os) d];by_cases c:y∈l
   ·rw[oC c]
   simp_all[oD,List.idxOf_append,if_neg,rM]
 | l,o::os,i+1,h=>by
  have a:i<os.length:=by simpa using h
  have b:=VC (nbL l o) os i a;have f:nth (nbR l (o::os)) ((i+1:Nat):Int)=nth (nbR (nbL l o) os) (i:Int):=by
   rfl
  have e:nth (o::os) ((i+1:Nat):Int)=nth os (i:Int):=by rfl
  exact b
theorem q7 {κ:Type} [DecidableEq κ] {l:List κ} {y:κ} (h:y∈l): ∃(q:Nat) (a:q<l.length),nbI l (some y)=(q:Int)/\l[q] =y:=
 ⟨l.idxOf y,List.idxOf_lt_length_of_mem h,rfl,by simp⟩
theorem Ge {κ:Type} [DecidableEq κ] {l:List κ} {y:κ} (h:y∉l):nbI l (some y)=(l.length:Int):=by simp[nbI,rM h]
def VD:List Int->Nat->Nat->Prop
 | [],c,m=>c=m
 | x::xs,c,m=>(x= -1/\VD xs c m)\/(0<=x/\x<c/\VD xs c m)\/(x=c/\VD xs (c+1) m)
theorem Gf {κ:Type} [DecidableEq κ] : ∀(os:List (Option κ)) (l:List κ),VD (nbR l os) l.length (nbS l os).length
 | [],l=>rfl
 | none::os,l=>.inl ⟨rfl,Gf os l⟩
 | some y::os,l=>by
  by_cases c:y∈l
  ·refine .inr (.inl ⟨Int.natCast_nonneg _,?_,?_⟩)
   ·grind[List.idxOf_lt_length_of_mem,nbI]
   ·show VD (nbR (nbL l (some y)) os) l.length (nbS (nbL l (some y)) os).length;rw[oC c];exact Gf os l
  ·refine .inr (.inr ⟨by simp[nbI,rM c],?_⟩);show VD (nbR (nbL l (some y)) os) (l.length+1) (nbS (nbL l (some y)) os).length
   have:=Gf os (l++ [y])
   grind[oD]
def abO:List Int->List (Option (List Int))->Prop
 | [],[] =>True
 | x::xs,o::os=>((x<0/\o=none)\/(0<=x/\ ∃t,o=some (x::t)))/\abO xs os
 | _,_=>False
theorem Qw: ∀(xs:List Int) (os:List (Option (List Int))),xs.length=os.length->(∀i (h:i<xs.length) (a:i<os.length),(xs[i] < 0/\os[i] =none)\/(0<=xs[i] /\ ∃t,os[i] =some (xs[i] ::t)))->abO xs os
 | [],[],_,_=>trivial
 | x::xs,o::os,hl,h=>⟨h 0 (by simp) (by simp),Qw xs os (by grind) fun i c b=>h (i+1) (by grind) (by grind)⟩
theorem qa: ∀(xs:List Int) (os:List (Option (List Int))) (l:List (List Int)) (c m:Nat),abO xs os->VD xs c m->(∀y∈l,∃h t,y=h::t/\h<c)->
  m+l.length<=(nbS l os).length+c/\(l.length=c->(∀(q:Nat) (z:q<l.length),∃t,l[q] =(q:Int)::t)->(nbS l os).length=m->nbR l os=xs)
 | [],[],l,c,m,_,a,_=>by
  subst a;exact ⟨by simp[nbS];omega,fun _ _ _=>rfl⟩
 | x::xs,o::os,l,c,m,hr,a,hh=>by
  have ⟨i,b⟩:=hr;rcases a with ⟨rfl,a⟩ | ⟨u,v,a⟩ | ⟨rfl,a⟩
  ·have r:o=none:=by
    rcases i with ⟨-,h⟩ | ⟨h,-⟩
    ·exact h
    ·omega
   subst r;have ⟨g,f⟩:=qa xs os l c m b a hh;exact ⟨g,fun p n d=>by show -1::nbR l os=_;rw[f p n d]⟩
  ·obtain ⟨t,rfl⟩: ∃t,o=some (x::t):=by
    grind
   by_cases k:(x::t)∈l
   ·have ⟨g,f⟩:=qa xs os l c m b a hh;grind[nbL,oC,nbS,q7,nbI,nbR]
   ·have ⟨g,f⟩:=qa xs os (l++ [x::t]) c m b a (fun y s=>by
     grind)
    grind[az,List.length_singleton,nbS,nbL]
  ·obtain ⟨t,rfl⟩: ∃t,o=some ((c:Int)::t):=by
    grind
   have k:((c:Int)::t)∉l:=fun k=>by
    grind
   have w:=oD k;have ⟨g,f⟩:=qa xs os (l++ [(c:Int)::t]) (c+1) m b a (fun y s=>by
    grind)
   have j:(l++ [(c:Int)::t]).length=l.length+1:=by simp
   refine ⟨by grind[nbS,nbL],fun p n d=>?_⟩;have d:(nbS (nbL l (some ((c:Int)::t))) os).length=m:=d;rw[w] at d
   have:=f (by omega) (fun q z=>by
    by_cases e:q<l.length
    ·grind
    grind) d
   grind[nbI,nbR,nbL,Ge]
theorem xi (xs ys:List Int) (l:xs.length<=1048576): ∃r,nT xs ys=some r/\(r=0↔xs=ys):=by
 unfold nT;have b:=aal (f:=ql xs ys) xs ys (fun i h a=>by
  simp[ql,bL h,bL a,if_true,aM h,aM a,aa,af (show i<9223372036854775807 by omega)];grind) (fun i k=>by
  grind[ql]) xs.length 0 aU (by omega) (dq _ (by omega))
 rw[show (((0:Nat):Int))=(0:Int) from rfl] at b;rcases b with ⟨r,e,c,j⟩ | ⟨s,e,c⟩
 ·exact ⟨r,by rw[e];rfl,by grind⟩
 ·simp[aO];by_cases d:xs.length<ys.length
  ·exact ⟨-1,by grind,by grind⟩
  ·by_cases g:xs.length>ys.length
   ·exact ⟨1,by grind,by grind⟩
   ·exact ⟨0,by grind,by grind⟩
theorem yG (xs ys:List Int) (b:xs.length<=9223372036854775807):cq xs ys=some (decide (xs=ys)):=
 eqL (f:=dj xs ys) xs ys b (fun i h a=>by
  simp[dj,bL h,if_true,aM h,aM a,aa,af (show i<9223372036854775807 by omega)];grind) (by simp only[dj,bG];rfl)
def VE (a:AutT):List Int:=(List.range a.2.1.length).map fun s:Nat=>if nth (live a) (s:Int)=true then (if nth a.2.1 (s:Int)=true then 1 else 0) else -1
def ent (a:AutT) (c:List Int) (s:Int) (k:Nat):Int:=if mv a s k<0 then -1 else nth c (mv a s k)
def GL (a:AutT) (c:List Int) (s:Int):List Int:=nth c s::(List.range 9).map fun k=>ent a c s k
def GM (a:AutT) (c:List Int) (s:Nat):Option (List Int):=if nth c (s:Int)<0 then none else some (GL a c s)
def keys (a:AutT) (c:List Int):List (Option (List Int)):=(List.range a.2.1.length).map (GM a c)
def Ey (a:AutT) (c:List Int):List Int:=nbR [] (keys a c)
def Da (a:AutT) (c:List Int):Nat:=(nbS [] (keys a c)).length
def cI (a:AutT):Nat->List Int
 | 0=>VE a
 | j+1=>Ey a (cI a j)
section
variable {a:AutT} {n:Nat}
theorem fH (a:AutT) (c:List Int):(keys a c).length=a.2.1.length:=by simp[keys]
theorem JW {c:List Int} {s:Nat} (h:s<a.2.1.length):nth (keys a c) (s:Int)=GM a c s:=by
 grind[bH,keys]
theorem CP (a:AutT) (c:List Int):(Ey a c).length=a.2.1.length:=by rw[Ey,jk,fH]
theorem rP (a:AutT): ∀j,(cI a j).length=a.2.1.length
 | 0=>by simp[cI,VE]
 | j+1=>CP a _
theorem sK {κ:Type} [DecidableEq κ] : ∀(l:List κ) (os:List (Option κ)),(nbS l os).length<=l.length+os.length
 | l,[] =>by simp[nbS]
 | l,o::os=>by
  have h:=sK (nbL l o) os
  have:(nbL l o).length<=l.length+1:=by
   cases o with
   | none=>simp[nbL]
   | some x=>grind[nbL]
  grind[nbS,nbL,aq]
theorem JX (a:AutT) (c:List Int):Da a c<=a.2.1.length:=by
 grind[sK,keys,fH,Da]
theorem Gg {c:List Int} {s:Nat} (h:s<a.2.1.length):nth (Ey a c) (s:Int)=nbI (nbS [] (keys a c)) (GM a c s):=by
 grind[Ey,VC,fH,JW]
theorem CQ {c:List Int} {s:Nat} (h:s<a.2.1.length) (b: ¬nth c (s:Int)<0):GL a c s∈nbS [] (keys a c):=by
 refine zL.2 (.inr ?_);refine List.mem_map.2 ⟨s,List.mem_range.2 h,?_⟩;unfold GM;grind
theorem Bd {c:List Int} {s:Nat} (h:s<a.2.1.length):(nth (Ey a c) (s:Int)<0↔nth c (s:Int)<0)/\(nth (Ey a c) (s:Int)<0->nth (Ey a c) (s:Int)= -1):=by
 rw[Gg h];unfold GM;by_cases b:nth c (s:Int)<0
 ·simp_all[if_pos,nbI]
 ·grind[q7,CQ,absurd]
theorem Yd {c:List Int} {s:Nat} (h:s<a.2.1.length):nth (Ey a c) (s:Int)<(a.2.1.length:Int):=by
 rw[Gg h];unfold GM;by_cases b:nth c (s:Int)<0
 ·grind[nbI]
 ·obtain ⟨q,d,e,-⟩:=q7 (CQ h b)
  have:=JX a c
  grind[Da]
theorem Qx {c:List Int} {s t:Nat} (hs:s<a.2.1.length) (b:t<a.2.1.length) (o:0<=nth (Ey a c) (s:Int)) (h:nth (Ey a c) (s:Int)=nth (Ey a c) (t:Int)):GL a c s=GL a c t:=by
 have d: ¬nth c (s:Int)<0:=fun k=>by have:=(Bd hs).1.2 k;omega
 have i: ¬nth c (t:Int)<0:=fun k=>by simp_all[Bd]
 rw[Gg hs,Gg b] at h;unfold GM at h;have ⟨q,p,m,l⟩:=q7 (CQ hs d);have ⟨j,f,g,e⟩:=q7 (CQ b i);grind
theorem Ez (a:AutT) {s:Nat} (h:s<a.2.1.length): ∀j,(nth (cI a j) (s:Int)<0↔nth (live a) (s:Int)=false)/\(nth (cI a j) (s:Int)<0->nth (cI a j) (s:Int)= -1)
 | 0=>by
  grind[nth,cI,live,VE,bH]
 | j+1=>by
  have b:=Ez a h j;grind[Bd,cI,trans]
theorem VF (a:AutT) {s t:Nat} (hs:s<a.2.1.length) (b:t<a.2.1.length): ∀j,0<=nth (cI a j) (s:Int)->nth (cI a j) (s:Int)=nth (cI a j) (t:Int)->nth a.2.1 (s:Int)=nth a.2.1 (t:Int)
 | 0,h0,h=>by
  grind[nth,cI,live,VE,bH]
 | j+1,h0,h=>by
  have k:=Qx (c:=cI a j) hs b h0 h;have d:nth (cI a j) (s:Int)=nth (cI a j) (t:Int):=by
   injection k
  refine VF a hs b j ?_ d
  have:=(Bd (c:=cI a j) hs).1
  grind[nth,cI,Ey]
theorem Ye (a:AutT) (j:Nat):VD (cI a (j+1)) 0 (Da a (cI a j)):=Gf (keys a (cI a j)) []
theorem T3 (a:AutT) {c:List Int} (e:c.length=a.2.1.length):abO c (keys a c):=by
 refine Qw _ _ (by rw[fH,e]) fun i h f=>?_;have d:=(bH h).symm;have b:(keys a c)[i] =GM a c i:=by simp[keys]
 rw[d,b];unfold GM;by_cases k:nth c (i:Int)<0
 ·grind
 ·exact .inr ⟨by omega,_,by rw[if_neg k];rfl⟩
theorem Qy (a:AutT) (j:Nat):Da a (cI a j)<=Da a (cI a (j+1))/\(Da a (cI a (j+1))=Da a (cI a j)->cI a (j+2)=cI a (j+1)):=by
 have ⟨e,b⟩:=qa (cI a (j+1)) (keys a (cI a (j+1))) [] 0 (Da a (cI a j)) (T3 a (rP a _)) (Ye a j) (fun y c=>by cases c);exact ⟨by grind[Da],fun h=>b rfl (fun q d=>absurd d (Nat.not_lt_zero q)) h⟩
theorem aaE {j k:Nat} (h:cI a (j+1)=cI a j) (b:j<=k):cI a k=cI a j:=by
 induction b with
 | refl=>rfl
 | step _ ih=>rw[cI,ih];exact h
theorem Qz {j k:Nat} (h:cI a (j+1)=cI a j) (b:cI a (k+1)=cI a k):cI a j=cI a k:=by
 grind[Nat.le_total,aaE]
theorem Yf (a:AutT): ∃j,j<=a.2.1.length/\cI a (j+1)=cI a j:=by
 by_cases e:cI a 1=cI a 0
 ·grind
 have d:1<=Da a (cI a 0):=by
  refine Nat.one_le_iff_ne_zero.2 fun k=>e ?_;have b: ∀s:Nat,s<a.2.1.length->nth (cI a 0) (s:Int)<0:=fun s l=>by
   grind[CQ,cI,List.length_pos_of_mem,Da]
  refine X3 (by grind[rP]) fun i c=>?_;rw[rP] at c;have g:=(Ez a c 0).2 (b i c);have f:=(Ez a c 1).2 (((Ez a c 1).1.trans (Ez a c 0).1.symm).2 (b i c));omega
 have key: ∀m,(∃j,j<=m/\cI a (j+1)=cI a j)\/m+1<=Da a (cI a m):=by
  intro m;induction m with
  | zero=>omega
  | succ m ih =>
   grind[Qy]
 rcases key a.2.1.length with h | h
 ·exact h
 grind[JX,cI]
end
end D
end Go.Proofs.YtodbpnpbhpeepaaGreatDoor
