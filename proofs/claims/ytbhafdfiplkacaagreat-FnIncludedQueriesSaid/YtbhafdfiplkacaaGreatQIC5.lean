/- FnIncludedQueries: for every input the law returns true and changes nothing that was there. Part 6 of 8. -/
import Derived.Test.YtbhafdfiplkacaaGreatQIC4
set_option linter.unusedVariables false
set_option linter.unusedSimpArgs false
set_option linter.unnecessarySimpa false
set_option linter.unusedSectionVars false
set_option maxRecDepth 1000000
namespace Go.Proofs.YtbhafdfiplkacaaGreat
namespace R
open Go.RowKit
open D
abbrev y3:Ty:=.int .i64
abbrev wP:Ty:=.prod y3 (.prod y3 (.prod y3 y3))
abbrev t116:Ty:=.tree 187 116 wP
abbrev y47:Ty:=.sl 3 y3
abbrev y4:Ty:=.bool
abbrev G7:Ty:=.prod y47 (.prod y3 (.prod y3 (.prod y47 y4)))
abbrev WW:Ty:=.fro t116
abbrev Tb:Ty:=.prod y3 y4
abbrev XH:Ty:=.sl 206 Tb
abbrev y9:Ty:=.str
abbrev WX:Ty:=.sl 9 y9
abbrev Nh:Ty:=.prod y3 (.prod y3 (.prod y3 y3))
abbrev y5:Ty:=.int .u8
abbrev y22:Ty:=.sl 5 y5
abbrev X1:Ty:=.prod y22 (.prod y3 y3)
abbrev XI:Ty:=.prod y4 (.prod y3 y3)
abbrev Ws:Ty:=.sl 116 WW
abbrev X2:Ty:=.prod wP Ws
abbrev XJ:Ty:=.prod y3 (.prod y3 y4)
abbrev Vd:Ty:=.int .u64
abbrev Pb:Ty:=.prod y3 y3
abbrev XK:Ty:=.prod Tb (.prod y3 y3)
abbrev WY:Ty:=.sl 240 XK
abbrev XL:Ty:=.sl 238 WY
abbrev y38:Ty:=.sl 4 y4
abbrev y39:Ty:=.sl 47 y47
abbrev y41:Ty:=.prod y3 (.prod y38 y39)
abbrev y24:Ty:=.sl 41 y41
abbrev y28:Ty:=.sl 156 wP
abbrev y30:Ty:=.wr y28
abbrev y95:Ty:=.prod y3 (.prod y30 y3)
abbrev y25:Ty:=.sl 95 y95
abbrev y27:Ty:=.prod y24 y25
abbrev Ve:Ty:=.prod Tb (.prod y3 y3)
abbrev XM:Ty:=.sl 275 Ve
abbrev Uc:Ty:=.prod y3 (.prod y3 (.prod y4 (.prod y3 y3)))
abbrev WZ:Ty:=.sl 295 Uc
abbrev Tc:Ty:=.prod Pb y47
abbrev X3:Ty:=.sl 302 Tc
abbrev Vf:Ty:=.int .u32
abbrev Vg:Ty:=.int .u64
abbrev y48:Ty:=.sl 137 Nh
abbrev y50:Ty:=.prod y47 y48
abbrev y65:Ty:=.prod y3 y3
abbrev y55:Ty:=.sl 65 y65
theorem ti3:TI Tryz.prog 3 false 1:=⟨⟨_,Tryz.underlying3,rfl⟩,by kernel_rfl⟩
theorem Vh (a0:Int) (a1:Int) (a2:Int) (a3:Int) (b0:Int) (b1:Int) (b2:Int) (b3:Int) (w:World):EqT Tryz.prog 156 (.agg #[.int .i64 a0,.int .i64 a1,.int .i64 a2,.int .i64 a3]) (.agg #[.int .i64 b0,.int .i64 b1,.int .i64 b2,.int .i64 b3]) ((a0==b0)&&((a1==b1)&&((a2==b2)&&((a3==b3)&&true)))) w:=P6 w Tryz.underlying156 (by kernel_rfl) (by kernel_rfl) (qR rfl (pB ti3 rfl) (pB ti3 rfl) (run_equalIn_int w 9998 3 _ _ _ _ Tryz.underlying3) (qR rfl (pB ti3 rfl) (pB ti3 rfl) (run_equalIn_int w 9998 3 _ _ _ _ Tryz.underlying3) (qR rfl (pB ti3 rfl) (pB ti3 rfl) (run_equalIn_int w 9998 3 _ _ _ _ Tryz.underlying3) (qR rfl (pB ti3 rfl) (pB ti3 rfl) (run_equalIn_int w 9998 3 _ _ _ _ Tryz.underlying3) (JD w)))))
theorem W0 (a0:Int) (a1:Int) (b0:Int) (b1:Int) (w:World):EqT Tryz.prog 65 (.agg #[.int .i64 a0,.int .i64 a1]) (.agg #[.int .i64 b0,.int .i64 b1]) ((a0==b0)&&((a1==b1)&&true)) w:=P6 w Tryz.underlying65 (by kernel_rfl) (by kernel_rfl) (qR rfl (pB ti3 rfl) (pB ti3 rfl) (run_equalIn_int w 9998 3 _ _ _ _ Tryz.underlying3) (qR rfl (pB ti3 rfl) (pB ti3 rfl) (run_equalIn_int w 9998 3 _ _ _ _ Tryz.underlying3) (JD w)))
theorem laidOut:laidOutB Tryz.prog=true:=by kernel_rfl
theorem Vi:KII Tryz.prog 231:=⟨_,_,Tryz.underlying231,by decide,rfl,rfl,Tryz.underlying3,Tryz.underlying3,by kernel_rfl,by kernel_rfl,by kernel_rfl,by kernel_rfl,Tryz.prog.types.size - 1,by kernel_rfl⟩
theorem mz3 (w:World):(zeroValue 3).run Tryz.prog w= .ok (.int .i64 0) w:=by kernel_rfl
theorem mz4 (w:World):(zeroValue 4).run Tryz.prog w= .ok (.bool false) w:=by kernel_rfl
theorem W1:KeyOk Tryz.prog 231 (fun x:Int×Int=>Value.agg #[.int .i64 x.1,.int .i64 x.2]) RJ Em:=Wx Vi (Go.deep_law_laid laidOut (m:=2) (by omega) (of_decide_eq_true (by kernel_rfl)) (by kernel_rfl) (by rw[Tryz.underlying231]))
theorem kk3:KeyOk Tryz.prog 3 (fun n:Int=>Value.int .i64 n) RH iOk:=Up Tryz.underlying3
theorem ek3:EltOk Tryz.prog 3 (fun n:Int=>Value.int .i64 n) RH iOk 0:=Uq Tryz.underlying3 mz3
theorem ek4:EltOk Tryz.prog 4 (fun n:Bool=>Value.bool n) Wa bOk false:=RI Tryz.underlying4 mz4
def tt:TT:=[(3,⟨false,1,none,y3,[],some 8,none,false,none,none,some (some .i64),false,none⟩),
 (4,⟨false,1,none,y4,[],some 1,none,true,none,none,none,false,none⟩),
 (5,⟨false,1,none,y5,[],some 1,none,false,none,none,some (some .u8),false,none⟩),
 (9,⟨false,1,none,y9,[],some 16,none,false,none,none,some none,false,none⟩),
 (22,⟨false,1,some 5,y22,[],some 24,none,false,none,none,none,false,none⟩),
 (24,⟨false,1,some 41,y24,[],some 24,none,false,none,none,none,false,none⟩),
 (25,⟨false,1,some 95,y25,[],some 24,none,false,none,none,none,false,none⟩),
 (27,⟨true,2,none,y27,[(0,0),(1,0)],some 48,some [(0,1),(1,1)],false,none,none,none,false,none⟩),
 (28,⟨false,1,some 156,y28,[],some 24,none,false,none,none,none,false,none⟩),
 (30,⟨true,1,none,y30,[(0,0)],some 24,some [(0,1)],false,none,none,none,false,none⟩),
 (38,⟨false,1,some 4,y38,[],some 24,none,false,none,none,none,false,none⟩),
 (39,⟨false,1,some 47,y39,[],some 24,none,false,none,none,none,false,none⟩),
 (41,⟨true,3,none,y41,[(0,0),(1,0),(2,0)],some 56,some [(0,1),(1,1),(2,1)],false,none,none,none,false,none⟩),
 (45,⟨false,1,none,.bool,[],none,none,false,none,none,none,true,none⟩),
 (47,⟨false,1,some 3,y47,[],some 24,none,false,none,none,none,false,none⟩),
 (48,⟨false,1,some 137,y48,[],some 24,none,false,none,none,none,false,none⟩),
 (50,⟨true,2,none,y50,[(0,0),(1,0)],some 48,some [(0,1),(1,1)],false,none,none,none,false,none⟩),
 (54,⟨false,1,none,.bool,[],none,none,false,none,none,none,true,none⟩),
 (55,⟨false,1,some 65,y55,[],some 24,none,false,none,none,none,false,none⟩),
 (65,⟨true,2,none,y65,[(0,0),(1,0)],some 16,some [(0,1),(1,1)],false,some [some .i64,some .i64],none,none,false,none⟩),
 (95,⟨true,3,none,y95,[(0,0),(1,0),(2,0)],some 40,some [(0,1),(1,1),(2,1)],false,none,none,none,false,none⟩),
 (101,⟨false,1,none,.bool,[],none,none,false,none,none,none,true,none⟩),
 (105,⟨true,5,none,G7,[(0,0),(1,0),(2,0),(3,0),(4,0)],some 72,some [(0,1),(1,1),(2,1),(3,1),(4,1)],false,none,none,none,false,none⟩),
 (111,⟨false,1,none,.bool,[],none,none,false,none,none,none,true,none⟩),
 (116,⟨false,1,none,WW,[],some 8,none,false,none,none,none,false,some 187⟩),
 (125,⟨false,1,none,.bool,[],none,none,false,none,none,none,true,none⟩),
 (128,⟨false,1,some 206,XH,[],some 24,none,false,none,none,none,false,none⟩),
 (134,⟨false,1,some 9,WX,[],some 24,none,false,none,none,none,false,none⟩),
 (137,⟨true,4,none,Nh,[(0,0),(1,0),(2,0),(3,0)],some 32,some [(0,1),(1,1),(2,1),(3,1)],false,none,none,none,false,none⟩),
 (153,⟨true,3,none,X1,[(0,0),(1,0),(2,0)],some 40,some [(0,1),(1,1),(2,1)],false,none,none,none,false,none⟩),
 (156,⟨true,4,none,wP,[(0,0),(1,0),(2,0),(3,0)],some 32,some [(0,1),(1,1),(2,1),(3,1)],false,some [some .i64,some .i64,some .i64,some .i64],none,none,false,none⟩),
 (159,⟨false,1,none,.bool,[],none,none,false,none,none,none,true,none⟩),
 (169,⟨true,3,none,XI,[(0,0),(1,0),(2,0)],some 24,some [(0,1),(1,1),(2,1)],false,none,none,none,false,none⟩),
 (183,⟨false,1,some 116,Ws,[],some 24,none,false,none,none,none,false,none⟩),
 (187,⟨true,5,none,X2,[(0,3),(4,0)],some 56,some [(0,4),(4,1)],false,none,none,none,false,none⟩),
 (194,⟨true,3,none,XJ,[(0,0),(1,0),(2,0)],some 24,some [(0,1),(1,1),(2,1)],false,none,none,none,false,none⟩),
 (197,⟨false,1,none,.bool,[],none,none,false,none,none,none,true,none⟩),
 (199,⟨false,1,none,.bool,[],none,none,false,none,none,none,true,none⟩),
 (206,⟨true,2,none,Tb,[(0,0),(1,0)],some 16,some [(0,1),(1,1)],false,none,none,none,false,none⟩),
 (226,⟨false,1,none,Vd,[],some 8,none,false,none,none,some (some .u64),false,none⟩),
 (231,⟨true,2,none,Pb,[(0,0),(1,0)],some 16,some [(0,1),(1,1)],false,none,none,none,false,none⟩),
 (232,⟨false,1,none,.bool,[],none,none,false,none,none,none,true,none⟩),
 (234,⟨false,1,none,.bool,[],none,none,false,none,none,none,true,none⟩),
 (236,⟨false,1,some 238,XL,[],some 24,none,false,none,none,none,false,none⟩),
 (238,⟨false,1,some 240,WY,[],some 24,none,false,none,none,none,false,none⟩),
 (240,⟨true,4,none,XK,[(0,1),(2,0),(3,0)],some 32,some [(0,2),(2,1),(3,1)],false,none,none,none,false,none⟩),
 (247,⟨false,1,none,.bool,[],none,none,false,none,some ⟨3,3,.int,.int⟩,none,false,none⟩),
 (250,⟨false,1,none,.bool,[],none,none,false,none,none,none,true,none⟩),
 (272,⟨false,1,some 275,XM,[],some 24,none,false,none,none,none,false,none⟩),
 (275,⟨true,4,none,Ve,[(0,1),(2,0),(3,0)],some 32,some [(0,2),(2,1),(3,1)],false,none,none,none,false,none⟩),
 (295,⟨true,5,none,Uc,[(0,0),(1,0),(2,0),(3,0),(4,0)],some 40,some [(0,1),(1,1),(2,1),(3,1),(4,1)],false,none,none,none,false,none⟩),
 (296,⟨false,1,some 295,WZ,[],some 24,none,false,none,none,none,false,none⟩),
 (300,⟨false,1,none,.bool,[],none,none,false,none,some ⟨231,4,.ii,.bool⟩,none,false,none⟩),
 (302,⟨true,3,none,Tc,[(0,1),(2,0)],some 40,some [(0,2),(2,1)],false,none,none,none,false,none⟩),
 (303,⟨false,1,some 302,X3,[],some 24,none,false,none,none,none,false,none⟩),
 (333,⟨false,1,none,.bool,[],none,none,false,none,none,none,true,none⟩),
 (345,⟨false,1,none,Vf,[],some 4,none,false,none,none,some (some .u32),false,none⟩),
 (347,⟨false,1,none,Vg,[],some 8,none,false,none,none,some (some .u64),false,none⟩)]
theorem LF:TTok Tryz.prog tt:=⟨sG (n:=1) (z:=.int .i64 0) ⟨⟨_,Tryz.underlying3,rfl⟩,by kernel_rfl⟩ rfl (by unfold TZ;kernel_rfl) rfl (bB rfl) (fun h=>by cases h) (fun k h=>by obtain rfl:=ae h;exact Tryz.underlying3),
 sG (n:=1) (z:=.bool false) ⟨⟨_,Tryz.underlying4,rfl⟩,by kernel_rfl⟩ rfl (by unfold TZ;kernel_rfl) rfl (bB rfl) (fun h=>Tryz.underlying4) (fun k h=>by cases h),
 sG (n:=1) (z:=.int .u8 0) ⟨⟨_,Tryz.underlying5,rfl⟩,by kernel_rfl⟩ rfl (by unfold TZ;kernel_rfl) rfl (bB rfl) (fun h=>by cases h) (fun k h=>by obtain rfl:=ae h;exact Tryz.underlying5),
 sG (n:=1) (z:=.string ⟨#[]⟩) ⟨⟨_,Tryz.underlying9,rfl⟩,by kernel_rfl⟩ rfl (by unfold TZ;kernel_rfl) rfl (bB rfl) (fun h=>by cases h) (fun k h=>by obtain rfl:=ae h;exact Tryz.underlying9),
 qd ⟨⟨_,Tryz.underlying22,rfl⟩,by kernel_rfl⟩ Tryz.underlying22 (by unfold TZ;kernel_rfl),
 qd ⟨⟨_,Tryz.underlying24,rfl⟩,by kernel_rfl⟩ Tryz.underlying24 (by unfold TZ;kernel_rfl),
 qd ⟨⟨_,Tryz.underlying25,rfl⟩,by kernel_rfl⟩ Tryz.underlying25 (by unfold TZ;kernel_rfl),
 o8 (z:=.agg #[.slice none 0 0,.slice none 0 0]) ⟨⟨_,Tryz.underlying27,rfl⟩,by kernel_rfl⟩ rfl ⟨⟨_,_,Tryz.underlying27,rfl,rfl,by kernel_rfl⟩,⟨_,_,Tryz.underlying27,rfl,rfl,by kernel_rfl⟩,trivial⟩ (by unfold TZ;kernel_rfl) rfl (bB rfl) ⟨_,Tryz.underlying27,by kernel_rfl⟩ (fun ks h=>by cases h),
 qd ⟨⟨_,Tryz.underlying28,rfl⟩,by kernel_rfl⟩ Tryz.underlying28 (by unfold TZ;kernel_rfl),
 o8 (z:=.agg #[.slice none 0 0]) ⟨⟨_,Tryz.underlying30,rfl⟩,by kernel_rfl⟩ rfl ⟨⟨_,_,Tryz.underlying30,rfl,rfl,by kernel_rfl⟩,trivial⟩ (by unfold TZ;kernel_rfl) rfl (bB rfl) ⟨_,Tryz.underlying30,by kernel_rfl⟩ (fun ks h=>by cases h),
 qd ⟨⟨_,Tryz.underlying38,rfl⟩,by kernel_rfl⟩ Tryz.underlying38 (by unfold TZ;kernel_rfl),
 qd ⟨⟨_,Tryz.underlying39,rfl⟩,by kernel_rfl⟩ Tryz.underlying39 (by unfold TZ;kernel_rfl),
 o8 (z:=.agg #[.int .i64 0,.slice none 0 0,.slice none 0 0]) ⟨⟨_,Tryz.underlying41,rfl⟩,by kernel_rfl⟩ rfl ⟨⟨_,_,Tryz.underlying41,rfl,rfl,by kernel_rfl⟩,⟨_,_,Tryz.underlying41,rfl,rfl,by kernel_rfl⟩,⟨_,_,Tryz.underlying41,rfl,rfl,by kernel_rfl⟩,trivial⟩ (by unfold TZ;kernel_rfl) rfl (bB rfl) ⟨_,Tryz.underlying41,by kernel_rfl⟩ (fun ks h=>by cases h),
 wq (ty:=.bool) (b:=8) ⟨⟨_,Tryz.underlying45,rfl⟩,by kernel_rfl⟩ rfl (by unfold TZ;kernel_rfl),
 qd ⟨⟨_,Tryz.underlying47,rfl⟩,by kernel_rfl⟩ Tryz.underlying47 (by unfold TZ;kernel_rfl),
 qd ⟨⟨_,Tryz.underlying48,rfl⟩,by kernel_rfl⟩ Tryz.underlying48 (by unfold TZ;kernel_rfl),
 o8 (z:=.agg #[.slice none 0 0,.slice none 0 0]) ⟨⟨_,Tryz.underlying50,rfl⟩,by kernel_rfl⟩ rfl ⟨⟨_,_,Tryz.underlying50,rfl,rfl,by kernel_rfl⟩,⟨_,_,Tryz.underlying50,rfl,rfl,by kernel_rfl⟩,trivial⟩ (by unfold TZ;kernel_rfl) rfl (bB rfl) ⟨_,Tryz.underlying50,by kernel_rfl⟩ (fun ks h=>by cases h),
 wq (ty:=.bool) (b:=8) ⟨⟨_,Tryz.underlying54,rfl⟩,by kernel_rfl⟩ rfl (by unfold TZ;kernel_rfl),
 qd ⟨⟨_,Tryz.underlying55,rfl⟩,by kernel_rfl⟩ Tryz.underlying55 (by unfold TZ;kernel_rfl),
 o8 (z:=.agg #[.int .i64 0,.int .i64 0]) ⟨⟨_,Tryz.underlying65,rfl⟩,by kernel_rfl⟩ rfl ⟨⟨_,_,Tryz.underlying65,rfl,rfl,by kernel_rfl⟩,⟨_,_,Tryz.underlying65,rfl,rfl,by kernel_rfl⟩,trivial⟩ (by unfold TZ;kernel_rfl) rfl (bB rfl) ⟨_,Tryz.underlying65,by kernel_rfl⟩ (fun ks h=>by obtain rfl:=ae h;exact fun w a0 b0 a1 b1=>W0 a0 a1 b0 b1 w),
 o8 (z:=.agg #[.int .i64 0,.slice none 0 0,.int .i64 0]) ⟨⟨_,Tryz.underlying95,rfl⟩,by kernel_rfl⟩ rfl ⟨⟨_,_,Tryz.underlying95,rfl,rfl,by kernel_rfl⟩,⟨_,_,Tryz.underlying95,rfl,rfl,by kernel_rfl⟩,⟨_,_,Tryz.underlying95,rfl,rfl,by kernel_rfl⟩,trivial⟩ (by unfold TZ;kernel_rfl) rfl (bB rfl) ⟨_,Tryz.underlying95,by kernel_rfl⟩ (fun ks h=>by cases h),
 wq (ty:=.bool) (b:=8) ⟨⟨_,Tryz.underlying101,rfl⟩,by kernel_rfl⟩ rfl (by unfold TZ;kernel_rfl),
 o8 (z:=.agg #[.slice none 0 0,.int .i64 0,.int .i64 0,.slice none 0 0,.bool false]) ⟨⟨_,Tryz.underlying105,rfl⟩,by kernel_rfl⟩ rfl ⟨⟨_,_,Tryz.underlying105,rfl,rfl,by kernel_rfl⟩,⟨_,_,Tryz.underlying105,rfl,rfl,by kernel_rfl⟩,⟨_,_,Tryz.underlying105,rfl,rfl,by kernel_rfl⟩,⟨_,_,Tryz.underlying105,rfl,rfl,by kernel_rfl⟩,⟨_,_,Tryz.underlying105,rfl,rfl,by kernel_rfl⟩,trivial⟩ (by unfold TZ;kernel_rfl) rfl (bB rfl) ⟨_,Tryz.underlying105,by kernel_rfl⟩ (fun ks h=>by cases h),
 wq (ty:=.bool) (b:=8) ⟨⟨_,Tryz.underlying111,rfl⟩,by kernel_rfl⟩ rfl (by unfold TZ;kernel_rfl),
 WV (e:=187) (E:=116) (u:=wP) ⟨⟨_,Tryz.underlying116,rfl⟩,by kernel_rfl⟩ Tryz.underlying116 (by unfold TZ;kernel_rfl),
 wq (ty:=.bool) (b:=8) ⟨⟨_,Tryz.underlying125,rfl⟩,by kernel_rfl⟩ rfl (by unfold TZ;kernel_rfl),
 qd ⟨⟨_,Tryz.underlying128,rfl⟩,by kernel_rfl⟩ Tryz.underlying128 (by unfold TZ;kernel_rfl),
 qd ⟨⟨_,Tryz.underlying134,rfl⟩,by kernel_rfl⟩ Tryz.underlying134 (by unfold TZ;kernel_rfl),
 o8 (z:=.agg #[.int .i64 0,.int .i64 0,.int .i64 0,.int .i64 0]) ⟨⟨_,Tryz.underlying137,rfl⟩,by kernel_rfl⟩ rfl ⟨⟨_,_,Tryz.underlying137,rfl,rfl,by kernel_rfl⟩,⟨_,_,Tryz.underlying137,rfl,rfl,by kernel_rfl⟩,⟨_,_,Tryz.underlying137,rfl,rfl,by kernel_rfl⟩,⟨_,_,Tryz.underlying137,rfl,rfl,by kernel_rfl⟩,trivial⟩ (by unfold TZ;kernel_rfl) rfl (bB rfl) ⟨_,Tryz.underlying137,by kernel_rfl⟩ (fun ks h=>by cases h),
 o8 (z:=.agg #[.slice none 0 0,.int .i64 0,.int .i64 0]) ⟨⟨_,Tryz.underlying153,rfl⟩,by kernel_rfl⟩ rfl ⟨⟨_,_,Tryz.underlying153,rfl,rfl,by kernel_rfl⟩,⟨_,_,Tryz.underlying153,rfl,rfl,by kernel_rfl⟩,⟨_,_,Tryz.underlying153,rfl,rfl,by kernel_rfl⟩,trivial⟩ (by unfold TZ;kernel_rfl) rfl (bB rfl) ⟨_,Tryz.underlying153,by kernel_rfl⟩ (fun ks h=>by cases h),
 o8 (z:=.agg #[.int .i64 0,.int .i64 0,.int .i64 0,.int .i64 0]) ⟨⟨_,Tryz.underlying156,rfl⟩,by kernel_rfl⟩ rfl ⟨⟨_,_,Tryz.underlying156,rfl,rfl,by kernel_rfl⟩,⟨_,_,Tryz.underlying156,rfl,rfl,by kernel_rfl⟩,⟨_,_,Tryz.underlying156,rfl,rfl,by kernel_rfl⟩,⟨_,_,Tryz.underlying156,rfl,rfl,by kernel_rfl⟩,trivial⟩ (by unfold TZ;kernel_rfl) rfl (bB rfl) ⟨_,Tryz.underlying156,by kernel_rfl⟩ (fun ks h=>by obtain rfl:=ae h;exact fun w a0 b0 a1 b1 a2 b2 a3 b3=>Vh a0 a1 a2 a3 b0 b1 b2 b3 w),
 wq (ty:=.bool) (b:=8) ⟨⟨_,Tryz.underlying159,rfl⟩,by kernel_rfl⟩ rfl (by unfold TZ;kernel_rfl),
 o8 (z:=.agg #[.bool false,.int .i64 0,.int .i64 0]) ⟨⟨_,Tryz.underlying169,rfl⟩,by kernel_rfl⟩ rfl ⟨⟨_,_,Tryz.underlying169,rfl,rfl,by kernel_rfl⟩,⟨_,_,Tryz.underlying169,rfl,rfl,by kernel_rfl⟩,⟨_,_,Tryz.underlying169,rfl,rfl,by kernel_rfl⟩,trivial⟩ (by unfold TZ;kernel_rfl) rfl (bB rfl) ⟨_,Tryz.underlying169,by kernel_rfl⟩ (fun ks h=>by cases h),
 qd ⟨⟨_,Tryz.underlying183,rfl⟩,by kernel_rfl⟩ Tryz.underlying183 (by unfold TZ;kernel_rfl),
 o8 (z:=.agg #[.int .i64 0,.int .i64 0,.int .i64 0,.int .i64 0,.slice none 0 0]) ⟨⟨_,Tryz.underlying187,rfl⟩,by kernel_rfl⟩ rfl ⟨⟨_,_,Tryz.underlying187,rfl,rfl,by kernel_rfl⟩,⟨_,_,Tryz.underlying187,rfl,rfl,by kernel_rfl⟩,trivial⟩ (by unfold TZ;kernel_rfl) rfl (bB rfl) ⟨_,Tryz.underlying187,by kernel_rfl⟩ (fun ks h=>by cases h),
 o8 (z:=.agg #[.int .i64 0,.int .i64 0,.bool false]) ⟨⟨_,Tryz.underlying194,rfl⟩,by kernel_rfl⟩ rfl ⟨⟨_,_,Tryz.underlying194,rfl,rfl,by kernel_rfl⟩,⟨_,_,Tryz.underlying194,rfl,rfl,by kernel_rfl⟩,⟨_,_,Tryz.underlying194,rfl,rfl,by kernel_rfl⟩,trivial⟩ (by unfold TZ;kernel_rfl) rfl (bB rfl) ⟨_,Tryz.underlying194,by kernel_rfl⟩ (fun ks h=>by cases h),
 wq (ty:=.bool) (b:=8) ⟨⟨_,Tryz.underlying197,rfl⟩,by kernel_rfl⟩ rfl (by unfold TZ;kernel_rfl),
 wq (ty:=.bool) (b:=8) ⟨⟨_,Tryz.underlying199,rfl⟩,by kernel_rfl⟩ rfl (by unfold TZ;kernel_rfl),
 o8 (z:=.agg #[.int .i64 0,.bool false]) ⟨⟨_,Tryz.underlying206,rfl⟩,by kernel_rfl⟩ rfl ⟨⟨_,_,Tryz.underlying206,rfl,rfl,by kernel_rfl⟩,⟨_,_,Tryz.underlying206,rfl,rfl,by kernel_rfl⟩,trivial⟩ (by unfold TZ;kernel_rfl) rfl (bB rfl) ⟨_,Tryz.underlying206,by kernel_rfl⟩ (fun ks h=>by cases h),
 sG (n:=1) (z:=.int .u64 0) ⟨⟨_,Tryz.underlying226,rfl⟩,by kernel_rfl⟩ rfl (by unfold TZ;kernel_rfl) rfl (bB rfl) (fun h=>by cases h) (fun k h=>by obtain rfl:=ae h;exact Tryz.underlying226),
 o8 (z:=.agg #[.int .i64 0,.int .i64 0]) ⟨⟨_,Tryz.underlying231,rfl⟩,by kernel_rfl⟩ rfl ⟨⟨_,_,Tryz.underlying231,rfl,rfl,by kernel_rfl⟩,⟨_,_,Tryz.underlying231,rfl,rfl,by kernel_rfl⟩,trivial⟩ (by unfold TZ;kernel_rfl) rfl (bB rfl) ⟨_,Tryz.underlying231,by kernel_rfl⟩ (fun ks h=>by cases h),
 wq (ty:=.bool) (b:=8) ⟨⟨_,Tryz.underlying232,rfl⟩,by kernel_rfl⟩ rfl (by unfold TZ;kernel_rfl),
 wq (ty:=.bool) (b:=8) ⟨⟨_,Tryz.underlying234,rfl⟩,by kernel_rfl⟩ rfl (by unfold TZ;kernel_rfl),
 qd ⟨⟨_,Tryz.underlying236,rfl⟩,by kernel_rfl⟩ Tryz.underlying236 (by unfold TZ;kernel_rfl),
 qd ⟨⟨_,Tryz.underlying238,rfl⟩,by kernel_rfl⟩ Tryz.underlying238 (by unfold TZ;kernel_rfl),
 o8 (z:=.agg #[.int .i64 0,.bool false,.int .i64 0,.int .i64 0]) ⟨⟨_,Tryz.underlying240,rfl⟩,by kernel_rfl⟩ rfl ⟨⟨_,_,Tryz.underlying240,rfl,rfl,by kernel_rfl⟩,⟨_,_,Tryz.underlying240,rfl,rfl,by kernel_rfl⟩,⟨_,_,Tryz.underlying240,rfl,rfl,by kernel_rfl⟩,trivial⟩ (by unfold TZ;kernel_rfl) rfl (bB rfl) ⟨_,Tryz.underlying240,by kernel_rfl⟩ (fun ks h=>by cases h),
 Vc (m:=⟨3,3,.int,.int⟩) (ty:=.bool) ⟨⟨_,Tryz.underlying247,rfl⟩,by kernel_rfl⟩ rfl ⟨Tryz.underlying247,kk3,ek3⟩,
 wq (ty:=.bool) (b:=8) ⟨⟨_,Tryz.underlying250,rfl⟩,by kernel_rfl⟩ rfl (by unfold TZ;kernel_rfl),
 qd ⟨⟨_,Tryz.underlying272,rfl⟩,by kernel_rfl⟩ Tryz.underlying272 (by unfold TZ;kernel_rfl),
 o8 (z:=.agg #[.int .i64 0,.bool false,.int .i64 0,.int .i64 0]) ⟨⟨_,Tryz.underlying275,rfl⟩,by kernel_rfl⟩ rfl ⟨⟨_,_,Tryz.underlying275,rfl,rfl,by kernel_rfl⟩,⟨_,_,Tryz.underlying275,rfl,rfl,by kernel_rfl⟩,⟨_,_,Tryz.underlying275,rfl,rfl,by kernel_rfl⟩,trivial⟩ (by unfold TZ;kernel_rfl) rfl (bB rfl) ⟨_,Tryz.underlying275,by kernel_rfl⟩ (fun ks h=>by cases h),
 o8 (z:=.agg #[.int .i64 0,.int .i64 0,.bool false,.int .i64 0,.int .i64 0]) ⟨⟨_,Tryz.underlying295,rfl⟩,by kernel_rfl⟩ rfl ⟨⟨_,_,Tryz.underlying295,rfl,rfl,by kernel_rfl⟩,⟨_,_,Tryz.underlying295,rfl,rfl,by kernel_rfl⟩,⟨_,_,Tryz.underlying295,rfl,rfl,by kernel_rfl⟩,⟨_,_,Tryz.underlying295,rfl,rfl,by kernel_rfl⟩,⟨_,_,Tryz.underlying295,rfl,rfl,by kernel_rfl⟩,trivial⟩ (by unfold TZ;kernel_rfl) rfl (bB rfl) ⟨_,Tryz.underlying295,by kernel_rfl⟩ (fun ks h=>by cases h),
 qd ⟨⟨_,Tryz.underlying296,rfl⟩,by kernel_rfl⟩ Tryz.underlying296 (by unfold TZ;kernel_rfl),
 Vc (m:=⟨231,4,.ii,.bool⟩) (ty:=.bool) ⟨⟨_,Tryz.underlying300,rfl⟩,by kernel_rfl⟩ rfl ⟨Tryz.underlying300,W1,ek4⟩,
 o8 (z:=.agg #[.int .i64 0,.int .i64 0,.slice none 0 0]) ⟨⟨_,Tryz.underlying302,rfl⟩,by kernel_rfl⟩ rfl ⟨⟨_,_,Tryz.underlying302,rfl,rfl,by kernel_rfl⟩,⟨_,_,Tryz.underlying302,rfl,rfl,by kernel_rfl⟩,trivial⟩ (by unfold TZ;kernel_rfl) rfl (bB rfl) ⟨_,Tryz.underlying302,by kernel_rfl⟩ (fun ks h=>by cases h),
 qd ⟨⟨_,Tryz.underlying303,rfl⟩,by kernel_rfl⟩ Tryz.underlying303 (by unfold TZ;kernel_rfl),
 wq (ty:=.bool) (b:=8) ⟨⟨_,Tryz.underlying333,rfl⟩,by kernel_rfl⟩ rfl (by unfold TZ;kernel_rfl),
 sG (n:=1) (z:=.int .u32 0) ⟨⟨_,Tryz.underlying345,rfl⟩,by kernel_rfl⟩ rfl (by unfold TZ;kernel_rfl) rfl (bB rfl) (fun h=>by cases h) (fun k h=>by obtain rfl:=ae h;exact Tryz.underlying345),
 sG (n:=1) (z:=.int .u64 0) ⟨⟨_,Tryz.underlying347,rfl⟩,by kernel_rfl⟩ rfl (by unfold TZ;kernel_rfl) rfl (bB rfl) (fun h=>by cases h) (fun k h=>by obtain rfl:=ae h;exact Tryz.underlying347),trivial⟩
theorem mixed:Tryz.prog.follows .mixedOrders=true:=by kernel_rfl
def QK (fn:Func):Code:=match fn.body with
 | some c=>c
 | none=>.skip
theorem fk {k:FuncId} {fn:Func} {f:FS} (ft:FT) (hF:FTok Tryz.prog ft) (hf:Tryz.prog.funcs[k]? =some fn) (ann:Ann) (an:List (Nat×Ty):=[]) (tr:Trs:=[]) (hb:fn.body=some (QK fn):=by rfl) (he:(fn.name == "runtime.NumGoroutine")=false:=by kernel_rfl) (hcl:f.cl=none:=by rfl) (hm:Nat.ble f.ps.length fn.ntmps=true:=by rfl) (hdp:(Be f.rs&&wm f.ps)=true:=by rfl)
  (hmod: ∀d,appP f.ps f.m d=iX ⟨tt,ft,an,fn.ntmps,tr⟩ (Iw ⟨tt,ft,an,fn.ntmps,tr⟩ fn.results.toList f.rs f.ps d) (QK fn) ann (fun r=>some r) (fun _ _=>none) (Iw ⟨tt,ft,an,fn.ntmps,tr⟩ fn.results.toList f.rs f.ps d) (oY (vN f.ps d)):=by intro d;kernel_rfl):FOk Tryz.prog k f:=
 fok (V:=⟨tt,ft,an,fn.ntmps,tr⟩) LF hF mixed hf hb rfl (enters_of hf he hb) hcl (bB hm) hdp ann hmod
def LG:FS:=⟨[.rd y22],[y4],Fb,none⟩
def Dt:FS:=⟨[.rd y22],[.int .i64,.int .i64],tT,some (153,9)⟩
def Ah:FS:=⟨[.crs 153 5],[y3],jE,none⟩
def dD:FS:=⟨[.crs 153 5,.rd y3],[y3],ba,none⟩
def iH:FS:=⟨[.crs 153 5,.rd y47],[y3],cj,none⟩
def nC:FS:=⟨[.rd y3,.rd y3,.rd y3],[y4],eP,none⟩
def qi:FS:=⟨[.rd y3],[y4],kX,none⟩
def sJ:FS:=⟨[.rd wP],[y3],mE,none⟩
def Ai:FS:=⟨[.rd y30],[y4],q9,none⟩
def mR:FS:=⟨[.rd y30],[y4],gG,none⟩
def ph:FS:=⟨[.rd y28],[y3],gH,none⟩
def pj (n:Nat):FS:=⟨[.rd y28],[y3],dV n,none⟩
def rl:FS:=⟨[.rd y28],[y30],eI,none⟩
def rp:FS:=⟨[.rd y30,.rd y30,.rd wP],[y30],dR,none⟩
def vi:FS:=⟨[.rd y3],[y30],mf,none⟩
def nD (n:Nat):FS:=⟨[.rd y30,.rd y3,.rd y3],[y30],jF n,none⟩
def l6 (n:Nat):FS:=⟨[.rd y28],[y30],cQ n,none⟩
def rQ:FS:=⟨[.rd y30],[y30,y4],gj,none⟩
def xX:FS:=⟨[.ptr 105 G7,.rd y3,.rd y3],[],mF,none⟩
def nE (n:Nat):FS:=⟨[.ptr 105 G7,.rd y28],[XI],b7 n,none⟩
def ke:FS:=⟨[.rd y30],[G7,y4],cR,none⟩
def vQ:FS:=⟨[.rd G7,.rd y3,.rd y3],[y3],nz,none⟩
def sK:FS:=⟨[.rd y47,.rd y3],[y3],mG,none⟩
def rR:FS:=⟨[.rd G7,.rd y3],[y4],kN,none⟩
def nX:FS:=⟨[.rd G7,.rd y3],[y41,y4],dk,none⟩
def rS:FS:=⟨[],[y41],nU,none⟩
def ua:FS:=⟨[.rd y41,.rd y47,.rd y38],[y41],iw,none⟩
def xY:FS:=⟨[.rd y47,.rd y47],[y3],oo,none⟩
def sL:FS:=⟨[.rd y41],[y38],kA,none⟩
def Aj:FS:=⟨[.rd y41,.rd y47,.rd y3],[y47],oq,none⟩
def rT:FS:=⟨[.rd y41],[y47],jb,none⟩
def qj:FS:=⟨[.rd y41],[y41],fC,none⟩
def qk:FS:=⟨[.rd y30],[y41,y4],m_s_CompileExpr,none⟩
def kG:FS:=⟨[.rd y41,.rd y41],[y4],fD,none⟩
def vR:FS:=⟨[.rd y24,.rd y41],[y3],dQ,none⟩
def ql:FS:=⟨[.rd y25],[y27,y4],b8,none⟩
def rU:FS:=⟨[.rd y30,.rd y30],[y4],kP,none⟩
def mS:FS:=⟨[.rd y27,.rd y27],[y4],fN,none⟩
def jA:FS:=⟨[.rd y27],[y4],bI,none⟩
def pn:FS:=⟨[.rd y27,.rd y3],[y3],dJ,none⟩
def sM:FS:=⟨[.rd y41],[y41],mH,none⟩
def xZ:FS:=⟨[.rd y27],[y27],kC,none⟩
def oy:FS:=⟨[.rd y27,.rd y3,.rd y30],[y27,y4],fE,none⟩
def Du:FS:=⟨[.rd y9,.rd y5],[WX],Ds,none⟩
def lH:FS:=⟨[.rd y3],[y9],lE,none⟩
def ub:FS:=⟨[.rd y3],[y9],pa,none⟩
def ya:FS:=⟨[.rd wP],[y9],xV,none⟩
def qm:FS:=⟨[.rd y9],[y3,y4],qe,none⟩
def Ak:FS:=⟨[.rd y9],[wP],Af,none⟩
def uc:FS:=⟨[.rd y9],[y30,y4],iy,none⟩
def Al:FS:=⟨[.crs 153 5,.rd WX],[y9],ra,none⟩
def sN:FS:=⟨[.crs 153 5],[y30],mI,none⟩
def qn:FS:=⟨[.crs 153 5],[y27],jY,none⟩
def mn:FS:=⟨[.crs 153 5,.rd y3],[y4],iz,none⟩
def rV:FS:=⟨[.rd y3],[y30],rO,none⟩
def rq (n:Nat):FS:=⟨[.crs 153 5,.rd y3],[y30],dB n,none⟩
def Am:FS:=⟨[.crs 153 5],[y30],rb,none⟩
def ud:FS:=⟨[.crs 153 5],[y41],jZ,none⟩
def An:FS:=⟨[.crs 153 5],[y41],re,none⟩
def Ao:FS:=⟨[.crs 153 5],[y27],rf,none⟩
def yc:FS:=⟨[.crs 153 5],[y50],pb,none⟩
def Dv:FS:=⟨[.crs 153 5],[y50],tV,none⟩
def Dw:FS:=⟨[.crs 153 5,.rd y27],[y3],tW,none⟩
def lN:FS:=⟨[.rd y22],[y27,y50,y3],fj,none⟩
def gr:FS:=⟨[.rd y38,.rd y38],[y4],dK,none⟩
def cA:FS:=⟨[.rd y39,.rd y39,.fn [y47,y47] [y4]],[y4],bG,none⟩
def eG:FS:=⟨[.rd y47,.rd y47],[y4],c8,none⟩
def mT:FS:=⟨[.rd y47,.rd y47],[y4],fO,none⟩
def kH:FS:=⟨[.rd y41,.rd y41],[y4],dS,none⟩
def bC:FS:=⟨[.rd y24,.rd y24,.fn [y41,y41] [y4]],[y4],aY,none⟩
def bt:FS:=⟨[.rd y25,.rd y25,.fn [y95,y95] [y4]],[y4],aV,none⟩
def fK:FS:=⟨[.rd y28,.rd y28],[y4],cy,none⟩
def rW:FS:=⟨[.rd y30,.rd y30],[y4],kR,none⟩
def pF:FS:=⟨[.rd y95,.rd y95],[y4],gb,none⟩
def mU:FS:=⟨[.rd y27,.rd y27],[y4],fP,none⟩
def jJ:FS:=⟨[.rd y3,.rd y3,.rd y3],[y4],cG,none⟩
def qo:FS:=⟨[.rd y3],[y4],jG,none⟩
def yd:FS:=⟨[.rd wP],[y4],pc,none⟩
def bE:FS:=⟨[.rd Ws],[Ws],fun _=>none,some (116,8)⟩
def rr:FS:=⟨[.rd y30],[t116],mg,none⟩
def Ap:FS:=⟨[.rd y30],[y4],rh,none⟩
def qp:FS:=⟨[.rd y30],[y4],j3,none⟩
def kU (n:Nat):FS:=⟨[.rd t116],[y3],bP n,none⟩
def G8:FS:=⟨[.rd y3],[t116],BB,none⟩
def nF (n:Nat):FS:=⟨[.eat t116,.rd y3,.rd y3],[t116],jH n,none⟩
def kg (n:Nat):FS:=⟨[.rd t116],[t116],bw n,none⟩
def jt (n:Nat):FS:=⟨[.rd t116,.ptr 30 y30],[],bq n,none⟩
def ue:FS:=⟨[.rd t116],[y30],pe,none⟩
def rX:FS:=⟨[.rd y30],[y30,y4],kS,none⟩
def lO:FS:=⟨[.ptr 105 G7,.rd y3,.rd y3],[],dF,none⟩
def fX (n:Nat):FS:=⟨[.ptr 105 G7,.rd t116],[XJ],bz n,none⟩
def nG:FS:=⟨[.rd y30],[G7,y4],gq,none⟩
def lI:FS:=⟨[.rd y3,.rd y3,.fn [y3] [y4],.fn [y3,y3] [y3,y4]],[y41,y4],eJ,none⟩
def lj:FS:=⟨[.rd G7,.rd y3],[y4],du,none⟩
def mV:FS:=⟨[.rd G7,.rd y3,.rd y3],[y3],fQ,none⟩
def oz:FS:=⟨[.rd y3,.rd y3,.cap 105 G7],[y3,y4],de,none⟩
def qq:FS:=⟨[.rd G7,.rd y3],[y41,y4],gK,none⟩
def bJ:FS:=⟨[.rd y38],[y38],fun _=>none,some (4,1)⟩
def nH:FS:=⟨[.rd y41],[y38],eQ,none⟩
def eD:FS:=⟨[.rd y39,.fn [y47] [y4]],[y3],bV,none⟩
def kp:FS:=⟨[.rd y47,.cap 47 y47],[y4],gm,none⟩
def lP:FS:=⟨[.rd y41,.rd y47],[y47,y3],dG,none⟩
def ln:FS:=⟨[.rd y41],[y47],dy,none⟩
def mW:FS:=⟨[.rd Vf,.rd Vf],[Vf,Vf],sH,none⟩
def mX:FS:=⟨[.rd Vg,.rd Vg],[Vg,Vg],mJ,none⟩
def oA:FS:=⟨[.rd Vd,.rd Vd],[Vd,Vd],ot,none⟩
def eh:FS:=⟨[.rd y47,.rd y3],[y47],cf,none⟩
def ye:FS:=⟨[],[y41],sI,none⟩
def iN:FS:=⟨[.rd y47,.rd y3],[y3],eF,none⟩
def jK:FS:=⟨[.rd y3,.cap 47 y47],[y3],bc,none⟩
def jL:FS:=⟨[.rd y3,.cap 41 y41,.capf 250 [y3] [y3]],[y4],cJ,none⟩
def eV:FS:=⟨[.rd y41,.rd y3,.rd y3],[y3],aS,none⟩
def jM:FS:=⟨[.rd y3,.rd y3,.cap 41 y41,.capf 250 [y3] [y3],.cap 47 y47],[y3,y4],cK,none⟩
def kq:FS:=⟨[.rd y41],[y41],cB,none⟩
def Dx:FS:=⟨[.rd y41],[y41,y4],xW,none⟩
def qu:FS:=⟨[.rd y30],[y41,y4],gM,none⟩
def vS:FS:=⟨[.rd y30],[y30],kZ,none⟩
def c7:FS:=⟨[.rd y24,.fn [y41] [y4]],[y3],a8,none⟩
def vT:FS:=⟨[.rd y41,.cap 41 y41],[y4],k9,none⟩
def Aq:FS:=⟨[.rd y25],[y27,y4],ri,none⟩
def mY:FS:=⟨[.rd y27],[y4],df,none⟩
def cO:FS:=⟨[.rd y25,.fn [y95] [y4]],[y3],bR,none⟩
def qv:FS:=⟨[.rd y95,.cap 3 y3],[y4],j5,none⟩
def uf:FS:=⟨[.rd y27,.rd y3],[y3],lX,none⟩
def nI:FS:=⟨[.rd y47],[y47],eR,none⟩
def oB:FS:=⟨[.rd y41],[y41],iA,none⟩
def kh:FS:=⟨[.rd y27,.rd y3],[y41,y4],cz,none⟩
def fo:FS:=⟨[.rd y41],[y4],aW,none⟩
def lQ:FS:=⟨[.rd Pb,.fn [Pb,y3] [Pb],.fn [Pb] [y4]],[y47,y4],cY,none⟩
def rY:FS:=⟨[.rd Pb,.rd y3,.cap 41 y41,.cap 41 y41],[Pb],jg,none⟩
def jN:FS:=⟨[.rd y41,.rd y41],[],fun _ _=>none,some (41,1292)⟩
def lq:FS:=⟨[.rd y41,.rd y3],[y4],bS,none⟩
def oC:FS:=⟨[.rd Pb,.cap 41 y41,.cap 41 y41],[y4],iB,none⟩
def qw:FS:=⟨[.rd y41,.rd y41],[y47,y4],mK,none⟩
def lR:FS:=⟨[.rd y41,.rd y41],[y4],fl,none⟩
def mZ:FS:=⟨[.rd y27,.rd y3],[y47],fS,none⟩
def vU:FS:=⟨[.rd y47,.rd y47],[y4],nB,none⟩
def yf:FS:=⟨[.rd y41],[y4],mL,none⟩
def fp:FS:=⟨[.rd y41],[y4],a6,none⟩
def ug:FS:=⟨[.rd y41,.rd y3],[y4],j6,none⟩
def yg:FS:=⟨[.rd WZ,.rd y3],[y47],pf,none⟩
def yh:FS:=⟨[.rd y41,.rd y3,.rd y3],[y3],mM,none⟩
def Ar:FS:=⟨[.rd WZ,.rd Uc],[y4],rj,none⟩
def uh:FS:=⟨[.rd y41,.rd y3,.rd y41,.rd y3,.rd y4],[y47,y4],fT,none⟩
def qx:FS:=⟨[.rd y41,.rd y41],[y47,y4],gO,none⟩
def lS:FS:=⟨[.rd y41,.rd y41],[y4],bK,none⟩
def kj:FS:=⟨[.rd y27,.rd y3],[y41,y4],br,none⟩
def na:FS:=⟨[.rd y27,.rd y3],[y47],fU,none⟩
def As:FS:=⟨[.rd Nh,.rd y3],[y4],ou,none⟩
def lJ:FS:=⟨[.rd y50],[y4],bs,none⟩
def vj:FS:=⟨[.rd y50,.rd y41,.rd y47],[y4],bZ,none⟩
def Au:FS:=⟨[.rd y39,.rd y47],[y47],mi,none⟩
def Dy:FS:=⟨[.rd Nh,.rd y4],[y3],qf,none⟩
def G9:FS:=⟨[.rd y50],[XL],tX,none⟩
def po:FS:=⟨[.rd y3],[y47],gP,none⟩
def sO:FS:=⟨[.rd y41,.rd y3,.rd y3],[y3],dY,none⟩
def Dz:FS:=⟨[.rd y41,.rd y3,.rd y3,.rd y3],[y3],qg,none⟩
def pG:FS:=⟨[.rd y50,.rd y41],[y39],eK,none⟩
def oD:FS:=⟨[.rd y50,.rd y41,.rd y3],[y47],fG,some (0,7)⟩
def ui:FS:=⟨[.rd y41,.rd y3,.rd y3],[y4],j7,none⟩
def jk:FS:=⟨[.ow (.sl 3 y3)],[],eZ,none⟩
def gu:FS:=⟨[.eat (.sl 3 y3)],[.sl 3 y3],cM,none⟩
def uj:FS:=⟨[.rd y47],[y47],j8,none⟩
def qy:FS:=⟨[.rd y50,.rd y41,.rd y3],[y47],gR,none⟩
def rZ:FS:=⟨[.rd y50,.rd y41],[y55],fa,none⟩
def pH:FS:=⟨[.rd y27,.rd y50,.rd y3],[y55,y4],eM,none⟩
def Av:FS:=⟨[.rd y50,.rd Nh],[y4],Ag,none⟩
def lK:FS:=⟨[.rd y50],[y4],cg,none⟩
def yi:FS:=⟨[.rd y50,.rd y41,.rd y3,.rd y3],[y4],gS,none⟩
def Aw:FS:=⟨[.rd y50,.rd y3],[XH],ox,none⟩
def nY:FS:=⟨[.rd y41,.rd y3,.rd y3],[y3],fb,none⟩
def uk:FS:=⟨[.rd y50,.rd y3],[y3],iC,none⟩
def um:FS:=⟨[.rd Nh,.rd y4],[y3],fW,none⟩
def DA:FS:=⟨[.rd Nh,.rd y4],[y3],mP,none⟩
def vV:FS:=⟨[.rd y50,.rd y41,.rd y3,.rd y3],[XM],jI,none⟩
def vW:FS:=⟨[.rd y50,.rd y41,.rd y3],[y47],lg,none⟩
def sd:FS:=⟨[.rd y50,.rd y41,.rd y3,.rd y3],[y4],jh,none⟩
def DB:FS:=⟨[.rd y3],[y47],tZ,none⟩
def yj:FS:=⟨[.rd y50,.rd y41,.rd y3],[y47],mQ,none⟩
def se:FS:=⟨[.rd y50,.rd y41],[y55],gl,none⟩
def pI:FS:=⟨[.rd y27,.rd y50,.rd y3],[y55,y4],cZ,none⟩
def sf:FS:=⟨[.rd y55,.rd y55],[y4],jj,none⟩
def Ax:FS:=⟨[.rd y55,.rd y65],[y4],rk,none⟩
def yk:FS:=⟨[.rd y65,.rd y65],[y4],pg,none⟩
def Ay:FS:=⟨[.eat (.sl 65 y65),.rd y65],[y55],mj,none⟩
def oE:FS:=⟨[.rd y55,.rd y55],[y55],iE,none⟩
def Ha:FS:=⟨[.rd y55,.rd y55],[y4],BC,none⟩
def qz:FS:=⟨[.rd y22],[y4],eU,none⟩
end R
namespace R
open Go.RowKit
open D
theorem Td:FOk Tryz.prog 8 LG:=fk [] trivial Tryz.func8 .no
theorem LH:FOk Tryz.prog 50 Dt:=Ta (T:=153) (U9 (V:=⟨tt,[],[],32,[]⟩) LF trivial mixed Tryz.func50 rfl rfl (enters_of Tryz.func50 (by kernel_rfl) rfl) (bB rfl) (.two .no (.two .no (.two (.two .no (.loop [.slot 3 (.num .i64),.slot 4 (.num .i64)] .no)) .no))) (fun xs=>by kernel_rfl)) rfl
theorem Iy:FOk Tryz.prog 183 Ah:=fk [] trivial Tryz.func183 (.two .no (.two .no (.two .no (.two (.two .no (.at [.slot 3 (.num .i64),.cur 0] .no)) .no))))
theorem ep:FOk Tryz.prog 102 dD:=fk [(183,Ah)] ⟨Iy,trivial⟩ Tryz.func102 .no
theorem kl:FOk Tryz.prog 52 iH:=fk [(102,dD)] ⟨ep,trivial⟩ Tryz.func52 .no
theorem pq:FOk Tryz.prog 110 nC:=fk [] trivial Tryz.func110 .no
theorem vX:FOk Tryz.prog 295 qi:=fk [(110,nC)] ⟨pq,trivial⟩ Tryz.func295 .no
theorem ym:FOk Tryz.prog 232 sJ:=fk [(110,nC),(295,qi)] ⟨pq,vX,trivial⟩ Tryz.func232 (.two .no (.two (.two .no (.join [.slot 5 .boo] .no (.two .no (.two .no (.two .no (.join [.slot 37 .boo] .no .no)))))) .no))
theorem Iz:FOk Tryz.prog 160 Ai:=fk [(232,sJ)] ⟨ym,trivial⟩ Tryz.func160 (.two .no (.two .no (.two (.two .no (.loop [.slot 3 (.num .i64),.slot 4 (.num .i64)] .no)) .no)))
theorem qA:FOk Tryz.prog 84 mR:=fk [(160,Ai)] ⟨Iz,trivial⟩ Tryz.func84 .no
theorem sP:FOk Tryz.prog 163 ph:=fk [(232,sJ)] ⟨ym,trivial⟩ Tryz.func163 (.two .no (.two .no (.two .no (.two (.loop [.slot 3 (.num .i64),.slot 4 (.num .i64)] .no) .no))))
theorem yn: ∀n,FOk Tryz.prog 215 (pj n)
 | 0=>iu (f:=pj 0) (enters_of Tryz.func215 (by kernel_rfl) rfl) rfl (fun d=>rfl)
 | n+1=>by
  have ih:=yn n
  exact fk [(163,ph),(215,(pj n))] ⟨sP,ih,trivial⟩ Tryz.func215 (.two .no (.two .no (.two .no (.two (.two .no (.two (.two .no (.at [.slot 15 .boo] .no)) .no)) .no))))
theorem vk:FOk Tryz.prog 129 rl:=fk [] trivial Tryz.func129 .no
theorem vl:FOk Tryz.prog 254 rp:=fk [(129,rl)] ⟨vk,trivial⟩ Tryz.func254 .no
theorem Az:FOk Tryz.prog 252 vi:=fk [] trivial Tryz.func252 .no
theorem vY: ∀n,FOk Tryz.prog 287 (nD n)
 | 0=>iu (f:=nD 0) (enters_of Tryz.func287 (by kernel_rfl) rfl) rfl (fun d=>rfl)
 | n+1=>by
  have ih:=vY n
  exact fk [(252,vi),(254,rp),(287,(nD n))] ⟨Az,vl,ih,trivial⟩ Tryz.func287 .no
theorem uo: ∀n,FOk Tryz.prog 216 (l6 n)
 | 0=>iu (f:=l6 0) (enters_of Tryz.func216 (by kernel_rfl) rfl) rfl (fun d=>rfl)
 | n+1=>by
  have ih:=uo n
  exact fk [(163,ph),(216,(l6 n)),(254,rp),(287,(nD eE))] ⟨sP,ih,vl,(vY eE),trivial⟩ Tryz.func216 (.two .no (.two .no (.two .no (.two (.two .no (.two (.two .no (.at [.slot 15 .boo] .no)) .no)) .no))))
end R
namespace R
open Go.RowKit
open D
theorem zq:FOk Tryz.prog 134 rQ:=fk [(84,mR),(215,(pj eE)),(216,(l6 eE))] ⟨qA,(yn eE),(uo eE),trivial⟩ Tryz.func134 .no
theorem Fc:FOk Tryz.prog 217 xX:=fk [] trivial Tryz.func217 (.two .no (.loop [.slot 6 (.num .i64),.par 4 [3] 3 y3] (.two .no (.two (.at [.par 4 [3] 3 y3] .no) .no))))
theorem vZ: ∀n,FOk Tryz.prog 135 (nE n)
 | 0=>iu (f:=nE 0) (enters_of Tryz.func135 (by kernel_rfl) rfl) rfl (fun d=>rfl)
 | n+1=>by
  have ih:=vZ n
  exact fk [(135,(nE n)),(163,ph),(217,xX)] ⟨ih,sP,Fc,trivial⟩ Tryz.func135 (.two .no (.two .no (.two .no (.two (.two .no (.two .no (.two .no (.two .no (.two .no (.two .no (.two (.two .no (.two .no (.two .no (.two .no (.two .no (.two (.two .no (.at [.box 11 [.boo,(.num .i64),(.num .i64)]] .no)) (.two (.two .no (.at [.box 11 [.boo,(.num .i64),(.num .i64)]] .no)) .no))))))) .no))))))) .no))))
theorem nJ:FOk Tryz.prog 67 ke:=fk [(134,rQ),(135,(nE eE))] ⟨zq,(vZ eE),trivial⟩ Tryz.func67 (.two .no (.two .no (.two .no (.two .no (.two (.two .no (.loop [.slot 6 (.num .i64),.slot 7 (.num .i64)] (.two .no (.two (.at [.slot 6 (.num .i64)] .no) .no)))) .no)))))
theorem DC:FOk Tryz.prog 136 vQ:=fk [] trivial Tryz.func136 (.two .no (.two .no (.join [.slot 7 (.num .i64)] .no (.two (.two .no (.loop [.slot 7 (.num .i64),.slot 8 (.num .i64)] (.two .no (.join [.slot 7 (.num .i64)] .no .no)))) (.two .no (.two (.two .no (.loop [.slot 9 (.num .i64),.slot 10 (.num .i64)] (.two .no (.join [.slot 9 (.num .i64)] .no .no)))) .no))))))
theorem yo:FOk Tryz.prog 137 sK:=fk [] trivial Tryz.func137 (.two .no (.two (.two .no (.loop [.slot 5 (.num .i64)] .no)) .no))
theorem zr:FOk Tryz.prog 138 rR:=fk [] trivial Tryz.func138 .no
theorem si:FOk Tryz.prog 68 nX:=fk [(136,vQ),(137,sK),(138,rR)] ⟨DC,yo,zr,trivial⟩ Tryz.func68 (.two .no (.two .no (.two .no (.two (.two .no (.loop [.slot 7 (.own 3 y3),.slot 8 (.num .i64),.box 6 [(.num .i64),(.own 4 y4),(.own 47 y47)]] (.two .no (.two (.two .no (.two (.two .no (.loop [.slot 7 (.own 3 y3),.slot 9 (.own 3 y3),.slot 10 (.num .i64)] (.two .no (.two (.two .no (.two .no (.join [.slot 7 (.own 3 y3),.slot 12 (.num .i64)] .no .no))) .no)))) .no)) .no)))) .no))))
theorem zt:FOk Tryz.prog 218 rS:=fk [] trivial Tryz.func218 (.two .no (.two .no (.two (.two .no (.loop [.slot 1 (.own 3 y3),.slot 2 (.num .i64)] .no)) .no)))
theorem BD:FOk Tryz.prog 139 ua:=fk [(137,sK),(218,rS)] ⟨yo,zt,trivial⟩ Tryz.func139 (.two .no (.two .no (.two .no (.two .no (.two .no (.two (.two .no (.loop [.slot 8 (.own 3 y3),.slot 9 (.own 3 y3),.slot 10 (.num .i64),.box 7 [(.num .i64),(.own 4 y4),(.own 47 y47)]] (.two .no (.two (.two .no (.two (.two .no (.loop [.slot 8 (.own 3 y3),.slot 9 (.own 3 y3),.slot 11 (.own 3 y3),.slot 12 (.num .i64)] (.two .no (.two (.two .no (.two .no (.join [.slot 8 (.own 3 y3),.slot 9 (.own 3 y3),.slot 14 (.num .i64)] .no .no))) .no)))) .no)) .no)))) .no))))))
theorem DD:FOk Tryz.prog 70 xY:=fk [] trivial Tryz.func70 (.two .no (.two (.two .no (.loop [.slot 5 (.num .i64)] .no)) .no))
theorem yp:FOk Tryz.prog 141 sL:=fk [] trivial Tryz.func141 (.two .no (.two .no (.two (.two .no (.loop [.row 3 4 y4,.slot 4 (.num .i64)] (.two .no (.two (.two .no (.loop [.row 3 4 y4,.slot 5 (.num .i64)] (.two .no (.two (.two .no (.loop [.row 3 4 y4,.slot 6 (.num .i64)] (.two .no (.join [.row 3 4 y4] .no .no)))) .no)))) .no)))) .no)))
theorem IA:FOk Tryz.prog 219 Aj:=fk [] trivial Tryz.func219 (.two .no (.two .no (.two (.two .no (.loop [.slot 7 (.own 3 y3),.slot 8 (.num .i64)] (.two .no (.join [.slot 7 (.own 3 y3)] .no .no)))) .no)))
theorem zu:FOk Tryz.prog 140 rT:=fk [(70,xY),(141,sL),(219,Aj)] ⟨DD,yp,IA,trivial⟩ Tryz.func140 (.two .no (.two .no (.two .no (.two (.two .no (.loop [.slot 4 (.own 3 y3),.slot 5 (.num .i64)] (.two .no (.two (.two .no (.two (.two .no (.at [.slot 6 (.num .i64)] .no)) (.two (.two .no (.at [.slot 6 (.num .i64)] .no)) .no))) .no)))) (.two (.two .no (.loop [.slot 4 (.own 3 y3),.slot 7 (.num .i64)] (.two .no (.two (.two .no (.two .no (.two (.two .no (.loop [.slot 8 (.own 47 y47),.slot 9 (.own 3 y3),.slot 10 (.num .i64)] (.two .no (.two (.at [.slot 8 (.own 47 y47),.slot 9 (.own 3 y3)] (.two .no (.two .no (.two .no (.two (.two .no (.loop [.slot 12 (.num .i64),.slot 13 (.num .i64)] (.two .no (.two (.at [.slot 12 (.num .i64)] .no) .no)))) (.two (.two .no (.at [.slot 8 (.own 47 y47),.slot 12 (.num .i64),.gone 11] .no)) .no)))))) .no)))) .no))) .no)))) .no)))))
theorem yq:FOk Tryz.prog 69 qj:=fk [(139,ua),(140,rT),(141,sL)] ⟨BD,zu,yp,trivial⟩ Tryz.func69 .no
theorem yr:FOk Tryz.prog 17 qk:=fk [(67,ke),(68,nX),(69,qj)] ⟨nJ,si,yq,trivial⟩ Tryz.func17 .no
theorem oF:FOk Tryz.prog 18 kG:=fk [(70,xY)] ⟨DD,trivial⟩ Tryz.func18 (.two .no (.two .no (.two (.two .no (.loop [.slot 5 (.num .i64)] .no)) (.two (.two .no (.loop [.slot 6 (.num .i64)] .no)) .no))))
end R
namespace R
open Go.RowKit
open D
theorem DE:FOk Tryz.prog 130 vR:=fk [(18,kG)] ⟨oF,trivial⟩ Tryz.func130 (.two .no (.two (.two .no (.loop [.slot 5 (.num .i64)] .no)) .no))
theorem v7:FOk Tryz.prog 60 ql:=fk [(17,qk),(110,nC),(129,rl),(130,vR)] ⟨yr,pq,vk,DE,trivial⟩ Tryz.func60 (.two .no (.two .no (.two .no (.two (.two .no (.loop [.slot 5 (.num .i64),.box 4 [(.own 41 y41),(.own 95 y95)]] (.two .no (.two (.two .no (.two .no (.two .no (.join [.slot 8 (.num .i64),.box 4 [(.own 41 y41),(.own 95 y95)],.gone 6] .no .no)))) .no)))) .no))))
theorem zw:FOk Tryz.prog 132 rU:=fk [] trivial Tryz.func132 (.two .no (.two .no (.two (.two .no (.loop [.slot 5 (.num .i64)] .no)) .no)))
theorem sQ:FOk Tryz.prog 64 mS:=fk [(18,kG),(132,rU)] ⟨oF,zw,trivial⟩ Tryz.func64 (.two .no (.two .no (.two (.two .no (.loop [.slot 5 (.num .i64)] .no)) (.two (.two .no (.loop [.slot 6 (.num .i64)] .no)) .no))))
theorem nc:FOk Tryz.prog 14 jA:=fk [(60,ql),(64,mS)] ⟨v7,sQ,trivial⟩ Tryz.func14 .no
theorem uq:FOk Tryz.prog 58 pn:=fk [] trivial Tryz.func58 (.two .no (.two (.two .no (.loop [.slot 5 (.num .i64)] .no)) .no))
theorem yt:FOk Tryz.prog 128 sM:=fk [] trivial Tryz.func128 (.two .no (.two .no (.two (.two .no (.loop [.slot 4 (.num .i64),.box 3 [(.num .i64),(.own 4 y4),(.own 47 y47)]] .no)) .no)))
theorem Fe:FOk Tryz.prog 59 xZ:=fk [(128,sM),(129,rl)] ⟨yt,vk,trivial⟩ Tryz.func59 (.two .no (.two .no (.two (.two .no (.loop [.slot 4 (.num .i64),.box 3 [(.own 41 y41),(.own 95 y95)]] .no)) (.two (.two .no (.loop [.slot 5 (.num .i64),.box 3 [(.own 41 y41),(.own 95 y95)]] .no)) .no))))
theorem vm:FOk Tryz.prog 11 oy:=fk [(14,jA),(58,pn),(59,xZ),(60,ql)] ⟨nc,uq,Fe,v7,trivial⟩ Tryz.func11 (.two .no (.two .no (.two .no (.two (.loop [.slot 8 (.num .i64)] .no) .no)))) (an:=[(40,(.fro y95)),(49,(.fro y95))])
theorem LI:FOk Tryz.prog 304 Du:=fk [] trivial Tryz.func304 (.two .no (.two .no (.two .no (.two (.two .no (.loop [.slot 5 (.own 9 y9),.slot 6 (.num .i64),.slot 7 (.num .i64)] (.two .no (.two (.at [.slot 5 (.own 9 y9),.slot 6 (.num .i64)] .no) .no)))) .no))))
theorem pJ:FOk Tryz.prog 357 lH:=fk [(295,qi)] ⟨vX,trivial⟩ Tryz.func357 .no
theorem BE:FOk Tryz.prog 358 ub:=fk [] trivial Tryz.func358 (.two .no (.two .no (.two .no (.two .no (.two (.loop [.slot 0 (.num .i64),.slot 3 .str] (.two .no (.two .no (.two (.two .no (.at [.slot 5 (.num .i64)] .no)) .no)))) .no)))))
theorem Ff:FOk Tryz.prog 336 ya:=fk [(357,lH),(358,ub)] ⟨pJ,BE,trivial⟩ Tryz.func336 .no
theorem yu:FOk Tryz.prog 337 qm:=fk [(357,lH)] ⟨pJ,trivial⟩ Tryz.func337 (.two .no (.two (.two .no (.loop [.slot 4 (.num .i64)] .no)) .no))
theorem IB:FOk Tryz.prog 305 Ak:=fk [(336,ya),(337,qm)] ⟨Ff,yu,trivial⟩ Tryz.func305 (.two .no (.two (.two .no (.loop [.slot 3 (.num .i64)] .no)) .no))
theorem BF:FOk Tryz.prog 250 uc:=fk [(84,mR),(304,Du),(305,Ak)] ⟨qA,LI,IB,trivial⟩ Tryz.func250 (.two .no (.two .no (.two .no (.two (.two .no (.loop [.slot 6 (.num .i64),.box 4 [(.own 156 wP)]] .no)) .no))))
theorem IC:FOk Tryz.prog 251 Al:=fk [(102,dD)] ⟨ep,trivial⟩ Tryz.func251 .no
end R
namespace R
open Go.RowKit
open D
theorem yw:FOk Tryz.prog 180 sN:=fk [(250,uc),(251,Al)] ⟨BF,IC,trivial⟩ Tryz.func180 .no
theorem yx:FOk Tryz.prog 121 qn:=fk [(11,oy),(102,dD),(180,sN)] ⟨vm,ep,yw,trivial⟩ Tryz.func121 (.two .no (.two .no (.two (.two .no (.loop [.slot 4 (.num .i64),.cur 0,.box 3 [(.own 41 y41),(.own 95 y95)]] .no)) .no)))
theorem oG:FOk Tryz.prog 100 mn:=fk [(102,dD)] ⟨ep,trivial⟩ Tryz.func100 .no
theorem zy:FOk Tryz.prog 253 rV:=fk [] trivial Tryz.func253 .no
theorem AA: ∀n,FOk Tryz.prog 181 (rq n)
 | 0=>iu (f:=rq 0) (enters_of Tryz.func181 (by kernel_rfl) rfl) rfl (fun d=>rfl)
 | n+1=>by
  have ih:=AA n
  exact fk [(52,iH),(100,mn),(102,dD),(181,(rq n)),(252,vi),(253,rV),(254,rp)] ⟨kl,oG,ep,ih,Az,zy,vl,trivial⟩ Tryz.func181 (.two .no (.two .no (.two (.two .no (.two (.two .no (.at [.slot 20 .boo] .no)) (.two .no (.two (.two .no (.at [.slot 33 .boo] .no)) .no)))) .no)))
theorem ID:FOk Tryz.prog 99 Am:=fk [(100,mn),(102,dD),(180,sN),(181,(rq eE))] ⟨oG,ep,yw,(AA eE),trivial⟩ Tryz.func99 .no
theorem BG:FOk Tryz.prog 212 ud:=fk [(100,mn),(102,dD)] ⟨oG,ep,trivial⟩ Tryz.func212 (.two .no (.two .no (.two .no (.two (.two .no (.loop [.slot 5 (.num .i64),.box 4 [(.num .i64),(.own 4 .bool),(.own 47 y47)],.cur 0] (.two .no (.two (.two .no (.two (.two .no (.loop [.slot 6 (.own 3 y3),.slot 7 (.num .i64),.cur 0] (.two .no (.two (.two .no (.two (.two .no (.at [.slot 8 (.num .i64),.cur 0] .no)) (.two (.two .no (.at [.slot 8 (.num .i64)] .no)) .no))) .no)))) .no)) .no)))) .no))))
theorem IE:FOk Tryz.prog 122 An:=fk [(67,ke),(68,nX),(99,Am),(100,mn),(212,ud)] ⟨nJ,si,ID,oG,BG,trivial⟩ Tryz.func122 .no
theorem IF:FOk Tryz.prog 51 Ao:=fk [(52,iH),(102,dD),(121,qn),(122,An)] ⟨kl,ep,yx,IE,trivial⟩ Tryz.func51 (.two .no (.two .no (.two (.two .no (.at [.cur 0,.box 3 [(.own 41 y41),(.own 95 y95)]] .no)) .no)))
theorem Fg:FOk Tryz.prog 98 yc:=fk [(52,iH),(102,dD)] ⟨kl,ep,trivial⟩ Tryz.func98 (.two .no (.two .no (.two (.two .no (.loop [.slot 4 (.num .i64),.cur 0,.box 3 [(.own 3 (.int .i64)),(.own 137 Nh)]] .no)) (.two .no (.two (.two .no (.loop [.slot 5 (.num .i64),.slot 6 (.num .i64),.cur 0,.box 3 [(.own 3 (.int .i64)),(.own 137 Nh)]] .no)) .no)))))
theorem LJ:FOk Tryz.prog 74 Dv:=fk [(52,iH),(98,yc),(102,dD)] ⟨kl,Fg,ep,trivial⟩ Tryz.func74 (.two .no (.two .no (.two (.two .no (.at [.cur 0,.box 3 [(.own 3 y3),(.own 137 Nh)]] .no)) .no)))
theorem LK:FOk Tryz.prog 75 Dw:=fk [(52,iH),(100,mn),(102,dD)] ⟨kl,oG,ep,trivial⟩ Tryz.func75 .no
theorem rF:FOk Tryz.prog 21 lN:=fk [(50,Dt),(51,Ao),(74,Dv),(75,Dw)] ⟨LH,IF,LJ,LK,trivial⟩ Tryz.func21 .no
theorem l7:FOk Tryz.prog 89 gr:=fk [] trivial Tryz.func89 (.two .no (.two .no (.two (.two .no (.loop [.slot 13 (.num .i64)] .no)) .no)))
theorem eW:FOk Tryz.prog 90 cA:=fk [] trivial Tryz.func90 (.two .no (.two .no (.two (.two .no (.loop [.slot 17 (.num .i64)] .no)) .no)))
theorem iO:FOk Tryz.prog 92 eG:=fk [] trivial Tryz.func92 (.two .no (.two .no (.two (.two .no (.loop [.slot 13 (.num .i64)] .no)) .no)))
theorem sR:FOk Tryz.prog 91 mT:=fk [(92,eG)] ⟨iO,trivial⟩ Tryz.func91 .no
end R
namespace R
open Go.RowKit
open D
theorem oH:FOk Tryz.prog 33 kH:=fk [(89,gr),(90,cA),(91,mT)] ⟨l7,eW,sR,trivial⟩ Tryz.func33 .no
theorem cP:FOk Tryz.prog 61 bC:=fk [] trivial Tryz.func61 (.two .no (.two .no (.two (.two .no (.loop [.slot 17 (.num .i64)] .no)) .no)))
theorem cF:FOk Tryz.prog 62 bt:=fk [] trivial Tryz.func62 (.two .no (.two .no (.two (.two .no (.loop [.slot 17 (.num .i64)] .no)) .no)))
theorem lr:FOk Tryz.prog 214 fK:=fk [] trivial Tryz.func214 (.two .no (.two .no (.two (.two .no (.loop [.slot 13 (.num .i64)] .no)) .no)))
theorem zz:FOk Tryz.prog 131 rW:=fk [(214,fK)] ⟨lr,trivial⟩ Tryz.func131 .no
theorem wv:FOk Tryz.prog 63 pF:=fk [(131,rW)] ⟨zz,trivial⟩ Tryz.func63 .no
theorem sS:FOk Tryz.prog 12 mU:=fk [(33,kH),(61,bC),(62,bt),(63,pF)] ⟨oH,cP,cF,wv,trivial⟩ Tryz.func12 .no
theorem kI:FOk Tryz.prog 96 jJ:=fk [] trivial Tryz.func96 .no
theorem v8:FOk Tryz.prog 229 qo:=fk [(96,jJ)] ⟨kI,trivial⟩ Tryz.func229 .no
theorem Fh:FOk Tryz.prog 152 yd:=fk [(96,jJ),(229,qo)] ⟨kI,v8,trivial⟩ Tryz.func152 (.two .no (.two (.two .no (.two .no (.two .no (.two .no (.two .no (.join [.slot 37 .boo] .no .no)))))) .no))
theorem lL:FOk Tryz.prog 153 bE:=Dq (f:=bE) (iu (f:=⟨bE.ps,bE.rs,bE.m,none⟩) (enters_of Tryz.func153 (by kernel_rfl) rfl) rfl (fun d=>rfl)) (G6 (V:=⟨tt,[],[(5,.raw)],8,[]⟩) LF trivial mixed Tryz.func153 rfl rfl (enters_of Tryz.func153 (by kernel_rfl) rfl) (bB rfl) .no (fun E bn xs=>by cases bn <;> kernel_rfl))
theorem vn:FOk Tryz.prog 82 rr:=fk [(152,yd),(153,bE)] ⟨Fh,lL,trivial⟩ Tryz.func82 (.two .no (.two .no (.two (.two .no (.loop [.slot 3 (.own 116 WW),.slot 13 (.num .i64)] (.two .no (.two .no (.two (.two .no (.two .no (.two (.two .no (.at [.slot 6 (.num .i64)] (.two (.two .no (.at [.slot 19 .boo] .no)) (.two .no (.two (.two .no (.at [.slot 22 .boo] .no)) .no))))) .no))) .no))))) .no))) (tr:=[(187,116,wP)])
theorem IG:FOk Tryz.prog 151 Ap:=fk [(82,rr)] ⟨vn,trivial⟩ Tryz.func151 .no (tr:=[(187,116,wP)])
theorem yy:FOk Tryz.prog 81 qp:=fk [(151,Ap)] ⟨IG,trivial⟩ Tryz.func81 .no
theorem sj: ∀n,FOk Tryz.prog 234 (kU n)
 | 0=>iu (f:=kU 0) (enters_of Tryz.func234 (by kernel_rfl) rfl) rfl (fun d=>rfl)
 | n+1=>by
  have ih:=sj n
  exact fk [(234,(kU n))] ⟨ih,trivial⟩ Tryz.func234 (.two .no (.two .no (.two (.two .no (.loop [.slot 3 (.num .i64),.slot 11 (.num .i64)] (.two .no (.two .no (.two (.at [.slot 3 (.num .i64)] .no) .no))))) .no))) (tr:=[(187,116,wP)])
theorem Pc:FOk Tryz.prog 320 G8:=fk [] trivial Tryz.func320 .no (tr:=[(187,116,wP)])
theorem wc: ∀n,FOk Tryz.prog 296 (nF n)
 | 0=>iu (f:=nF 0) (enters_of Tryz.func296 (by kernel_rfl) rfl) rfl (fun d=>rfl)
 | n+1=>by
  have ih:=wc n
  exact fk [(296,(nF n)),(320,G8)] ⟨ih,Pc,trivial⟩ Tryz.func296 .no (tr:=[(187,116,wP)])
end R
namespace R
open Go.RowKit
open D
theorem qB: ∀n,FOk Tryz.prog 235 (kg n)
 | 0=>iu (f:=kg 0) (enters_of Tryz.func235 (by kernel_rfl) rfl) rfl (fun d=>rfl)
 | n+1=>by
  have ih:=qB n
  exact fk [(235,(kg n)),(296,(nF eE))] ⟨ih,(wc eE),trivial⟩ Tryz.func235 (.two .no (.two .no (.two .no (.two (.two .no (.loop [.slot 41 (.num .i64),.box 3 [(.num .i64),(.num .i64),(.num .i64),(.num .i64),(.own 116 (.tree 187 116 wP))]] .no)) .no)))) (an:=[(52,t116)]) (tr:=[(187,116,wP)])
theorem pK: ∀n,FOk Tryz.prog 297 (jt n)
 | 0=>iu (f:=jt 0) (enters_of Tryz.func297 (by kernel_rfl) rfl) rfl (fun d=>rfl)
 | n+1=>by
  have ih:=pK n
  exact fk [(297,(jt n))] ⟨ih,trivial⟩ Tryz.func297 (.two (.two .no (.loop [.slot 11 (.num .i64),.box 1 [(.own 156 wP)]] .no)) .no) (tr:=[(187,116,wP)])
theorem BH:FOk Tryz.prog 236 ue:=fk [(297,(jt eE))] ⟨(pK eE),trivial⟩ Tryz.func236 .no (tr:=[(187,116,wP)])
theorem zA:FOk Tryz.prog 168 rX:=fk [(81,qp),(82,rr),(234,(kU eE)),(235,(kg eE)),(236,ue)] ⟨yy,vn,(sj eE),(qB eE),BH,trivial⟩ Tryz.func168 .no (tr:=[(187,116,wP)])
theorem rG:FOk Tryz.prog 237 lO:=fk [] trivial Tryz.func237 (.two .no (.loop [.slot 12 (.num .i64),.par 4 [3] 3 y3] (.two .no (.two .no (.two (.at [.par 4 [3] 3 y3] .no) .no)))))
theorem ng: ∀n,FOk Tryz.prog 169 (fX n)
 | 0=>iu (f:=fX 0) (enters_of Tryz.func169 (by kernel_rfl) rfl) rfl (fun d=>rfl)
 | n+1=>by
  have ih:=ng n
  exact fk [(169,(fX n)),(237,lO)] ⟨ih,rG,trivial⟩ Tryz.func169 (.two .no (.two (.two .no (.two .no (.two .no (.two .no (.two .no (.two .no (.two .no (.two .no (.two (.two .no (.two .no (.two .no (.two (.two .no (.at [.box 10 [(.num .i64),(.num .i64),.boo]] .no)) (.two (.two .no (.at [.box 10 [(.num .i64),(.num .i64),.boo]] .no)) .no))))) .no))))))))) .no)) (tr:=[(187,116,wP)])
theorem ur:FOk Tryz.prog 86 nG:=fk [(82,rr),(168,rX),(169,(fX eE))] ⟨vn,zA,(ng eE),trivial⟩ Tryz.func86 (.two .no (.two .no (.two .no (.two .no (.two (.two .no (.loop [.slot 6 (.num .i64),.slot 22 (.num .i64)] (.two .no (.two .no (.two (.at [.slot 6 (.num .i64)] .no) .no))))) .no))))) (tr:=[(187,116,wP)])
theorem pL:FOk Tryz.prog 170 lI:=fk [] trivial Tryz.func170 (.two .no (.two .no (.two .no (.two .no (.two (.two .no (.loop [.slot 10 (.own 3 y3),.slot 11 (.map ⟨3,3,.int,.int⟩),.slot 13 (.num .i64),.box 12 [(.num .i64),(.own 4 y4),(.own 47 y47)]] (.two .no (.two (.two .no (.two (.two .no (.loop [.slot 10 (.own 3 y3),.slot 11 (.map ⟨3,3,.int,.int⟩),.slot 14 (.own 3 y3),.slot 15 (.num .i64)] (.two .no (.join [.slot 10 (.own 3 y3),.slot 11 (.map ⟨3,3,.int,.int⟩),.slot 14 (.own 3 y3)] (.two .no (.two .no (.two .no (.join [.slot 10 (.own 3 y3),.slot 11 (.map ⟨3,3,.int,.int⟩),.slot 18 (.num .i64)] .no .no)))) .no)))) .no)) .no)))) .no)))))
theorem qC:FOk Tryz.prog 171 lj:=fk [] trivial Tryz.func171 .no
theorem sU:FOk Tryz.prog 173 mV:=fk [] trivial Tryz.func173 (.two .no (.two .no (.join [.slot 7 (.num .i64)] .no (.two (.two .no (.loop [.slot 7 (.num .i64),.slot 21 (.num .i64)] (.two .no (.two .no (.join [.slot 7 (.num .i64)] .no .no))))) (.two .no (.two (.two .no (.loop [.slot 10 (.num .i64),.slot 39 (.num .i64)] (.two .no (.two .no (.join [.slot 10 (.num .i64)] .no .no))))) .no))))))
theorem vo:FOk Tryz.prog 172 oz:=fk [(173,mV)] ⟨sU,trivial⟩ Tryz.func172 .no
theorem yz:FOk Tryz.prog 87 qq:=fk [(170,lI),(171,lj),(172,oz)] ⟨pL,qC,vo,trivial⟩ Tryz.func87 .no
theorem l9:FOk Tryz.prog 321 bJ:=Dq (f:=bJ) (iu (f:=⟨bJ.ps,bJ.rs,bJ.m,none⟩) (enters_of Tryz.func321 (by kernel_rfl) rfl) rfl (fun d=>rfl)) (G6 (V:=⟨tt,[],[(5,.raw)],8,[]⟩) LF trivial mixed Tryz.func321 rfl rfl (enters_of Tryz.func321 (by kernel_rfl) rfl) (bB rfl) .no (fun E bn xs=>by cases bn <;> kernel_rfl))
theorem uu:FOk Tryz.prog 298 nH:=fk [(321,bJ)] ⟨l9,trivial⟩ Tryz.func298 (.two .no (.two .no (.two (.two .no (.loop [.slot 4 .boo,.row 3 4 y4] (.two .no (.two .no (.two .no (.loop [.slot 4 .boo,.slot 16 (.num .i64),.row 3 4 y4] (.two .no (.two .no (.two (.two .no (.two .no (.loop [.slot 4 .boo,.slot 23 (.num .i64),.row 3 4 y4] (.two .no (.two .no (.two (.at [.slot 4 .boo,.row 3 4 y4] .no) .no)))))) .no))))))))) .no)))
theorem jS:FOk Tryz.prog 322 eD:=fk [] trivial Tryz.func322 (.two .no (.two (.two .no (.loop [.slot 8 (.num .i64)] .no)) .no))
theorem pR:FOk Tryz.prog 323 kp:=fk [(92,eG)] ⟨iO,trivial⟩ Tryz.func323 .no
theorem rH:FOk Tryz.prog 299 lP:=fk [(322,eD),(323,kp)] ⟨jS,pR,trivial⟩ Tryz.func299 (.two .no (.two .no (.two .no (.two (.two .no (.loop [.slot 6 (.own 47 y47),.slot 7 (.own 3 y3),.slot 18 (.num .i64)] (.two .no (.two .no (.join [.slot 6 (.own 47 y47),.slot 7 (.own 3 y3)] (.two .no (.two .no (.two .no (.two (.two .no (.loop [.slot 36 (.num .i64),.box 10 [(.own 3 y3)]] (.two .no (.two .no (.two (.two .no (.join [.slot 12 (.num .i64)] .no .no)) .no))))) (.two .no (.join [.slot 6 (.own 47 y47),.slot 13 (.num .i64),.gone 10] .no .no)))))) .no))))) .no))))
end R
namespace R
open Go.RowKit
open D
theorem qD:FOk Tryz.prog 238 ln:=fk [(298,nH),(299,lP)] ⟨uu,rH,trivial⟩ Tryz.func238 (.two .no (.two .no (.two (.two .no (.loop [.slot 3 (.own 3 y3),.slot 13 (.num .i64)] (.two .no (.two .no (.join [.slot 3 (.own 3 y3)] .no .no))))) (.two .no (.loop [.slot 3 (.own 3 y3),.slot 6 (.num .i64)] .no)))))
theorem sV:FOk Tryz.prog 349 mW:=fk [] trivial Tryz.func349 .no
theorem sW:FOk Tryz.prog 350 mX:=fk [] trivial Tryz.func350 .no
theorem vp:FOk Tryz.prog 324 oA:=fk [(349,mW),(350,mX)] ⟨sV,sW,trivial⟩ Tryz.func324 .no
theorem gZ:FOk Tryz.prog 300 eh:=fk [(324,oA)] ⟨vp,trivial⟩ Tryz.func300 (.two .no (.two .no (.two .no (.two .no (.two .no (.two .no (.two (.loop [.slot 8 (.num .i64),.row 7 3 (.int .i64)] .no) .no))))))) (an:=[(44,.bool)])
theorem Fi:FOk Tryz.prog 239 ye:=fk [(300,eh)] ⟨gZ,trivial⟩ Tryz.func239 .no
theorem np:FOk Tryz.prog 178 iN:=fk [] trivial Tryz.func178 (.two .no (.two (.two .no (.loop [.slot 8 (.num .i64)] .no)) .no))
theorem oJ:FOk Tryz.prog 240 jK:=fk [(178,iN)] ⟨np,trivial⟩ Tryz.func240 .no
theorem oK:FOk Tryz.prog 241 jL:=fk [] trivial Tryz.func241 .no
theorem gx:FOk Tryz.prog 243 eV:=fk [(229,qo)] ⟨v8,trivial⟩ Tryz.func243 .no
theorem oL:FOk Tryz.prog 242 jM:=fk [(243,eV)] ⟨gx,trivial⟩ Tryz.func242 .no
theorem pS:FOk Tryz.prog 174 kq:=fk [(170,lI),(238,ln),(239,ye),(240,jK),(241,jL),(242,jM)] ⟨pL,qD,Fi,oJ,oK,oL,trivial⟩ Tryz.func174 .no
theorem LL:FOk Tryz.prog 88 Dx:=fk [(174,kq)] ⟨pS,trivial⟩ Tryz.func88 .no
theorem yA:FOk Tryz.prog 32 qu:=fk [(86,nG),(87,qq),(88,Dx)] ⟨ur,yz,LL,trivial⟩ Tryz.func32 .no
theorem DF:FOk Tryz.prog 123 vS:=fk [] trivial Tryz.func123 .no
theorem gg:FOk Tryz.prog 124 c7:=fk [] trivial Tryz.func124 (.two .no (.two (.two .no (.loop [.slot 8 (.num .i64)] .no)) .no))
theorem DG:FOk Tryz.prog 125 vT:=fk [(33,kH)] ⟨oH,trivial⟩ Tryz.func125 .no
end R
namespace R
open Go.RowKit
open D
theorem II:FOk Tryz.prog 55 Aq:=fk [(32,qu),(96,jJ),(123,vS),(124,c7),(125,vT)] ⟨yA,kI,DF,gg,DG,trivial⟩ Tryz.func55 (.two .no (.two .no (.two (.two .no (.loop [.slot 13 (.num .i64),.box 4 [(.own 41 y41),(.own 95 y95)]] (.two .no (.two .no (.two (.two .no (.two .no (.two .no (.two .no (.join [.slot 9 (.num .i64),.box 4 [(.own 41 y41),(.own 95 y95)],.gone 7] .no .no))))) .no))))) .no)))
theorem sX:FOk Tryz.prog 13 mY:=fk [(12,mU),(55,Aq)] ⟨sS,II,trivial⟩ Tryz.func13 .no
theorem fJ:FOk Tryz.prog 71 cO:=fk [] trivial Tryz.func71 (.two .no (.two (.two .no (.loop [.slot 8 (.num .i64)] .no)) .no))
theorem yB:FOk Tryz.prog 72 qv:=fk [] trivial Tryz.func72 .no
theorem BJ:FOk Tryz.prog 19 uf:=fk [(71,cO),(72,qv)] ⟨fJ,yB,trivial⟩ Tryz.func19 .no
theorem qF:FOk Tryz.prog 133 nI:=fk [] trivial Tryz.func133 .no
theorem vq:FOk Tryz.prog 66 oB:=fk [(133,nI)] ⟨qF,trivial⟩ Tryz.func66 (.two .no (.two .no (.two (.two .no (.loop [.slot 16 (.num .i64),.box 3 [(.num .i64),(.own 4 y4),(.own 47 y47)]] .no)) .no)))
theorem nK:FOk Tryz.prog 16 kh:=fk [(13,mY),(19,uf),(66,oB)] ⟨sX,BJ,vq,trivial⟩ Tryz.func16 .no
theorem iQ:FOk Tryz.prog 145 fo:=fk [(96,jJ)] ⟨kI,trivial⟩ Tryz.func145 (.two .no (.two .no (.two .no (.two (.two .no (.loop [.slot 32 (.num .i64)] (.two .no (.two .no (.two (.two .no (.two (.two .no (.loop [.slot 38 (.num .i64)] .no)) .no)) .no))))) .no))))
theorem rI:FOk Tryz.prog 222 lQ:=fk [(133,nI)] ⟨qF,trivial⟩ Tryz.func222 (.two .no (.two .no (.two (.two .no (.loop [.slot 9 (.own 302 (.bag Tc)),.slot 8 (.map ⟨231,4,.ii,.bool⟩)] (.two .no (.two (.two .no (.two .no (.two .no (.loop [.slot 9 (.own 302 (.bag Tc)),.slot 11 (.num .i64),.slot 8 (.map ⟨231,4,.ii,.bool⟩)] (.two .no (.two (.at [.slot 9 (.own 302 (.bag Tc)),.slot 8 (.map ⟨231,4,.ii,.bool⟩)] .no) .no)))))) .no)))) .no))) (an:=[(18,.bag Tc),(23,.bool),(58,.bag Tc)])
theorem zB:FOk Tryz.prog 292 rY:=fk [(243,eV)] ⟨gx,trivial⟩ Tryz.func292 .no
theorem BK (c d:List Value) (w:World):Calls Tryz.prog 223 #[.agg c.toArray,.agg d.toArray] w fun e w'=>e= .returned (.func (.func 292) #[] #[.pointer (some ⟨w.heap.size,0,none⟩),.pointer (some ⟨w.heap.size+1,0,none⟩)])/\w'=(w.alloc (.cells c.toArray 41)).alloc (.cells d.toArray 41):=by
 go_enter Tryz.func223,Tryz.ntmps223
 go_wp2
 go_ret
 exact ⟨rfl,rfl⟩
theorem DH:FOk Tryz.prog 223 jN:=S9 (f:=jN) (iu (f:=⟨jN.ps,jN.rs,jN.m,none⟩) (enters_of Tryz.func223 (by kernel_rfl) rfl) rfl (fun d=>rfl)) (U8 (enters_of Tryz.func223 (by kernel_rfl) rfl) BK)
theorem qG:FOk Tryz.prog 225 lq:=fk [] trivial Tryz.func225 .no
theorem vr:FOk Tryz.prog 224 oC:=fk [(225,lq)] ⟨qG,trivial⟩ Tryz.func224 .no
theorem yC:FOk Tryz.prog 144 qw:=fk [(145,fo),(222,lQ),(223,jN),(224,oC),(292,rY)] ⟨iQ,rI,DH,vr,zB,trivial⟩ Tryz.func144 .no
theorem rJ:FOk Tryz.prog 76 lR:=fk [(144,qw),(145,fo)] ⟨yC,iQ,trivial⟩ Tryz.func76 .no
theorem sY:FOk Tryz.prog 22 mZ:=fk [(16,kh),(76,lR)] ⟨nK,rJ,trivial⟩ Tryz.func22 (.two .no (.two .no (.two .no (.two .no (.two (.two .no (.loop [.slot 7 (.own 3 y3),.slot 22 (.num .i64)] (.two .no (.two .no (.join [.slot 7 (.own 3 y3)] .no .no))))) .no)))))
end R
namespace R
open Go.RowKit
open D
theorem DJ:FOk Tryz.prog 23 vU:=fk [] trivial Tryz.func23 (.two .no (.two .no (.two (.two .no (.loop [.slot 5 (.num .i64)] .no)) .no)))
theorem Fj:FOk Tryz.prog 221 yf:=fk [(110,nC)] ⟨pq,trivial⟩ Tryz.func221 (.two .no (.two .no (.two .no (.two (.two .no (.loop [.slot 4 (.num .i64)] (.two .no (.two (.two .no (.two .no (.loop [.slot 5 (.num .i64)] .no))) .no)))) .no))))
theorem iR:FOk Tryz.prog 143 fp:=fk [(221,yf)] ⟨Fj,trivial⟩ Tryz.func143 .no
theorem BL:FOk Tryz.prog 288 ug:=fk [] trivial Tryz.func288 .no
theorem Fk:FOk Tryz.prog 289 yg:=fk [] trivial Tryz.func289 (.two .no (.two .no (.two (.loop [.slot 1 (.num .i64),.slot 5 (.own 3 y3)] .no) .no)))
theorem Fl:FOk Tryz.prog 290 yh:=fk [] trivial Tryz.func290 .no
theorem IJ:FOk Tryz.prog 291 Ar:=fk [] trivial Tryz.func291 (.two .no (.two (.two .no (.loop [.slot 5 (.num .i64)] .no)) .no))
theorem BM:FOk Tryz.prog 220 uh:=fk [(288,ug),(289,yg),(290,yh),(291,Ar)] ⟨BL,Fk,Fl,IJ,trivial⟩ Tryz.func220 (.two .no (.two .no (.two (.two .no (.loop [.slot 12 (.own 295 Uc),.slot 13 (.num .i64)] (.two .no (.two (.two .no (.two .no (.two (.two (.at [.slot 57 .boo] .no) .no) (.two .no (.loop [.slot 12 (.own 295 Uc),.slot 16 (.num .i64)] (.two .no (.join [.slot 12 (.own 295 Uc)] .no .no))))))) .no)))) .no)))
theorem yD:FOk Tryz.prog 142 qx:=fk [(143,fp),(220,uh)] ⟨iR,BM,trivial⟩ Tryz.func142 .no
theorem rK:FOk Tryz.prog 73 lS:=fk [(142,qx),(143,fp)] ⟨yD,iR,trivial⟩ Tryz.func73 .no
theorem nL:FOk Tryz.prog 77 kj:=fk [(14,jA),(58,pn),(128,sM)] ⟨nc,uq,yt,trivial⟩ Tryz.func77 .no
theorem sZ:FOk Tryz.prog 24 na:=fk [(73,lS),(77,kj)] ⟨rK,nL,trivial⟩ Tryz.func24 (.two .no (.two .no (.two .no (.two (.two .no (.loop [.slot 5 (.own 3 y3),.slot 8 (.num .i64)] (.two .no (.join [.slot 5 (.own 3 y3)] .no .no)))) .no))))
theorem IK:FOk Tryz.prog 146 As:=fk [(96,jJ)] ⟨kI,trivial⟩ Tryz.func146 .no
theorem pM:FOk Tryz.prog 78 lJ:=fk [(96,jJ),(146,As)] ⟨kI,IK,trivial⟩ Tryz.func78 (.two .no (.two .no (.two (.two .no (.loop [.slot 14 (.num .i64)] .no)) (.two (.two .no (.loop [.slot 25 (.num .i64)] .no)) .no))))
theorem AB:FOk Tryz.prog 93 vj:=fk [(78,lJ),(96,jJ),(145,fo)] ⟨pM,kI,iQ,trivial⟩ Tryz.func93 (.two .no (.two (.two .no (.loop [.slot 11 (.num .i64)] .no)) .no))
theorem IL:FOk Tryz.prog 244 Au:=fk [(300,eh)] ⟨gZ,trivial⟩ Tryz.func244 (.two .no (.two .no (.two .no (.two (.two .no (.loop [.slot 6 (.own 3 (.int .i64)),.slot 18 (.num .i64),.row 5 3 y3] .no)) (.two (.loop [.slot 6 (.own 3 (.int .i64)),.row 5 3 y3] (.two .no (.two (.two .no (.loop [.slot 6 (.own 3 y3),.slot 42 (.num .i64),.row 5 3 y3] (.two .no (.two .no (.two (.at [.slot 6 (.own 3 y3),.row 5 3 y3] .no) .no))))) .no))) .no))))) (an:=[(34,.bool)])
theorem LM:FOk Tryz.prog 294 Dy:=fk [] trivial Tryz.func294 .no
end R
namespace R
open Go.RowKit
open D
theorem Pd:FOk Tryz.prog 230 G9:=fk [(294,Dy)] ⟨LM,trivial⟩ Tryz.func230 (.two .no (.two .no (.two (.two .no (.loop [.slot 13 (.num .i64),.row 3 238 WY] .no)) .no)))
theorem ta:FOk Tryz.prog 246 po:=fk [] trivial Tryz.func246 (.two .no (.two .no (.two (.two .no (.loop [.slot 3 (.own 3 y3),.slot 4 (.num .i64)] (.two .no (.join [.slot 3 (.own 3 y3)] .no .no)))) .no)))
theorem yE:FOk Tryz.prog 247 sO:=fk [(243,eV)] ⟨gx,trivial⟩ Tryz.func247 (.two .no (.two .no (.two (.two .no (.loop [.slot 7 (.num .i64),.slot 8 (.num .i64)] .no)) .no)))
theorem LN:FOk Tryz.prog 301 Dz:=fk [(243,eV),(246,po),(247,sO)] ⟨gx,ta,yE,trivial⟩ Tryz.func301 (.two .no (.two .no (.two (.two .no (.loop [.slot 9 (.num .i64),.slot 18 (.num .i64)] (.two .no (.two .no (.two (.two .no (.two .no (.loop [.slot 9 (.num .i64),.slot 28 (.num .i64)] (.two .no (.two .no (.join [.slot 9 (.num .i64)] .no .no)))))) .no))))) .no)))
theorem wx:FOk Tryz.prog 245 pG:=fk [(230,G9),(246,po),(301,Dz)] ⟨Pd,ta,LN,trivial⟩ Tryz.func245 (.two .no (.two .no (.two .no (.two (.two .no (.loop [.slot 26 (.num .i64),.row 6 47 y47] (.two .no (.two .no (.two (.two .no (.two .no (.loop [.slot 9 (.num .i64),.row 6 47 y47] (.two .no (.two (.two .no (.loop [.slot 38 (.num .i64),.row 6 47 y47] (.two .no (.two .no (.two (.two .no (.two .no (.loop [.slot 55 (.num .i64),.row 6 47 y47] .no))) .no))))) .no))))) .no))))) .no))))
theorem vt:FOk Tryz.prog 175 oD:=X0 (V:=⟨tt,[(93,vj),(244,Au),(245,pG)],[(1000000,.raw)],26,[]⟩) LF ⟨AB,IL,wx,trivial⟩ mixed Tryz.func175 rfl rfl (enters_of Tryz.func175 (by kernel_rfl) rfl) ⟨rfl,rfl⟩ (bB rfl) rfl .no (fun d=>by kernel_rfl)
theorem BN:FOk Tryz.prog 176 ui:=fk [(246,po),(247,sO)] ⟨ta,yE,trivial⟩ Tryz.func176 (.two .no (.two (.two .no (.loop [.slot 14 (.num .i64)] (.two .no (.two .no (.two (.two .no (.two .no (.loop [.slot 24 (.num .i64)] .no))) .no))))) .no))
theorem nZ:FOk Tryz.prog 248 jk:=LD Fa (enters_of Tryz.func248 (by kernel_rfl) rfl) 3
theorem ma:FOk Tryz.prog 249 gu:=fk [] trivial Tryz.func249 (.two .no (.two .no (.two (.two .no (.loop [.slot 3 (.num .i64)] (.two .no (.two (.two .no (.two (.two .no (.two (.two .no (.loop [.slot 3 (.num .i64),.slot 5 (.num .i64),.row 0 3 y3] (.two .no (.two (.at [.slot 3 (.num .i64),.row 0 3 y3] .no) .no)))) .no)) .no)) .no)))) .no))) (an:=[(28,.raw),(56,.raw),(59,.raw)])
theorem BO:FOk Tryz.prog 177 uj:=fk [(133,nI),(248,jk),(249,gu)] ⟨qF,nZ,ma,trivial⟩ Tryz.func177 .no
theorem yF:FOk Tryz.prog 94 qy:=fk [(175,oD),(176,ui),(177,uj)] ⟨vt,BN,BO,trivial⟩ Tryz.func94 (.two .no (.two .no (.two .no (.two (.two .no (.loop [.slot 7 (.own 3 y3),.slot 20 (.num .i64)] (.two .no (.two .no (.two (.at [.slot 7 (.own 3 y3)] .no) .no))))) .no))))
theorem zC:FOk Tryz.prog 34 rZ:=fk [(93,vj),(94,qy)] ⟨AB,yF,trivial⟩ Tryz.func34 (.two .no (.two .no (.two .no (.two (.two .no (.loop [.slot 5 (.own 65 y65),.slot 17 (.num .i64)] (.two .no (.two .no (.two (.two .no (.two .no (.loop [.slot 5 (.own 65 y65),.slot 25 (.num .i64)] .no))) .no))))) .no))))
theorem wz:FOk Tryz.prog 25 pH:=fk [(16,kh),(34,rZ),(78,lJ)] ⟨nK,zC,pM,trivial⟩ Tryz.func25 .no
theorem IM:FOk Tryz.prog 111 Av:=fk [(110,nC)] ⟨pq,trivial⟩ Tryz.func111 .no
theorem pN:FOk Tryz.prog 44 lK:=fk [(110,nC),(111,Av)] ⟨pq,IM,trivial⟩ Tryz.func44 (.two .no (.two (.two .no (.loop [.slot 3 (.num .i64)] .no)) (.two (.two .no (.loop [.slot 4 (.num .i64)] .no)) .no)))
theorem Fm:FOk Tryz.prog 147 yi:=fk [(44,lK),(110,nC),(143,fp)] ⟨pN,pq,iR,trivial⟩ Tryz.func147 .no
theorem IN:FOk Tryz.prog 184 Aw:=fk [] trivial Tryz.func184 (.two .no (.two .no (.two (.two .no (.loop [.slot 5 (.own 206 Tb),.slot 6 (.num .i64)] (.two .no (.join [.slot 5 (.own 206 Tb)] (.join [.slot 5 (.own 206 Tb)] .no .no) .no)))) .no)))
end R
namespace R
open Go.RowKit
open D
theorem sk:FOk Tryz.prog 293 nY:=fk [] trivial Tryz.func293 (.two .no (.two .no (.two (.loop [.slot 1 (.num .i64),.slot 7 (.num .i64)] .no) .no)))
theorem BP:FOk Tryz.prog 306 uk:=fk [] trivial Tryz.func306 (.two .no (.two (.two .no (.loop [.slot 5 (.num .i64)] .no)) .no))
theorem BQ:FOk Tryz.prog 307 um:=fk [] trivial Tryz.func307 .no
theorem LO:FOk Tryz.prog 308 DA:=fk [] trivial Tryz.func308 .no
theorem DK:FOk Tryz.prog 270 vV:=fk [(184,Aw),(293,nY),(306,uk),(307,um),(308,DA)] ⟨IN,sk,BP,BQ,LO,trivial⟩ Tryz.func270 (.two .no (.two .no (.two .no (.two .no (.two (.two .no (.loop [.slot 9 (.own 275 Ve),.slot 12 (.num .i64)] (.two .no (.two (.two .no (.two .no (.two (.two .no (.loop [.slot 14 (.num .i64),.slot 15 (.num .i64)] (.two .no (.join [.slot 14 (.num .i64)] .no .no)))) (.two .no (.loop [.slot 9 (.own 275 Ve),.slot 17 (.num .i64)] (.two .no (.join [.slot 9 (.own 275 Ve)] .no .no))))))) .no)))) .no)))))
theorem DL:FOk Tryz.prog 226 vW:=fk [(270,vV)] ⟨DK,trivial⟩ Tryz.func226 (.two .no (.two .no (.two .no (.two (.two .no (.loop [.slot 8 (.own 3 y3),.slot 9 (.num .i64)] .no)) (.two .no (.two .no (.two (.two .no (.loop [.row 8 3 y3,.slot 10 (.own 3 y3),.slot 11 (.num .i64)] (.two .no (.two (.two .no (.two .no (.loop [.row 8 3 y3,.slot 10 (.own 3 y3),.slot 13 (.num .i64)] (.two .no (.join [.row 8 3 y3,.slot 10 (.own 3 y3)] .no .no))))) .no)))) .no)))))))
theorem zD:FOk Tryz.prog 227 sd:=fk [(293,nY)] ⟨sk,trivial⟩ Tryz.func227 (.two .no (.two .no (.two (.two .no (.loop [.slot 10 (.num .i64)] .no)) .no)))
theorem LP:FOk Tryz.prog 228 DB:=fk [] trivial Tryz.func228 (.two .no (.two .no (.two (.two .no (.loop [.slot 3 (.own 3 y3),.slot 4 (.num .i64)] (.two .no (.join [.slot 3 (.own 3 y3)] .no .no)))) .no)))
theorem Fo:FOk Tryz.prog 148 yj:=fk [(226,vW),(227,sd),(228,DB)] ⟨DL,zD,LP,trivial⟩ Tryz.func148 (.two .no (.two .no (.two .no (.two .no (.two (.two .no (.loop [.slot 9 (.num .i64),.slot 10 (.num .i64)] (.two .no (.join [.slot 9 (.num .i64)] .no .no)))) .no)))))
theorem zE:FOk Tryz.prog 79 se:=fk [(147,yi),(148,yj)] ⟨Fm,Fo,trivial⟩ Tryz.func79 (.two .no (.two .no (.two (.two .no (.loop [.slot 5 (.own 65 y65),.slot 6 (.num .i64)] (.two .no (.two (.two .no (.two .no (.loop [.slot 5 (.own 65 y65),.slot 8 (.num .i64)] .no))) .no)))) .no)))
theorem wA:FOk Tryz.prog 26 pI:=fk [(44,lK),(77,kj),(79,se)] ⟨pN,nL,zE,trivial⟩ Tryz.func26 .no
theorem zF:FOk Tryz.prog 27 sf:=fk [] trivial Tryz.func27 (.two .no (.two .no (.two (.two .no (.loop [.slot 5 (.num .i64)] .no)) .no)))
theorem IP:FOk Tryz.prog 149 Ax:=fk [] trivial Tryz.func149 (.two .no (.two (.two .no (.loop [.slot 5 (.num .i64)] .no)) .no))
theorem Fp:FOk Tryz.prog 193 yk:=fk [] trivial Tryz.func193 .no
theorem IQ:FOk Tryz.prog 150 Ay:=fk [(193,yk)] ⟨Fp,trivial⟩ Tryz.func150 (.two .no (.two .no (.two (.loop [.slot 5 (.num .i64)] .no) .no))) (an:=[(36,.bool)])
theorem vu:FOk Tryz.prog 80 oE:=fk [(149,Ax),(150,Ay)] ⟨IP,IQ,trivial⟩ Tryz.func80 (.two .no (.two .no (.two (.two .no (.loop [.slot 5 (.own 65 y65),.slot 6 (.num .i64)] (.two .no (.join [.slot 5 (.own 65 y65)] .no .no)))) .no)))
theorem Pe:FOk Tryz.prog 28 Ha:=fk [(80,oE)] ⟨vu,trivial⟩ Tryz.func28 .no
end R
namespace R
open Go.RowKit
open D
theorem qH:FOk Tryz.prog 4 qz:=fk [(8,LG),(21,lN),(22,mZ),(23,vU),(24,na),(25,pH),(26,pI),(27,sf),(28,Ha)] ⟨Td,rF,sY,DJ,sZ,wz,wA,zF,Pe,trivial⟩ Tryz.func4 (.two .no (.two .no (.two .no (.two .no (.two .no (.two .no (.two .no (.two .no (.two (.two .no (.loop [.slot 11 (.num .i64)] .no)) .no)))))))))
end R
namespace R
open Go.RowKit
open D
end R
namespace D
open Go.RowKit
theorem qI (x0:List Int) (r:Bool) (hm:eU x0=some r) {I:Hp} {w0:World} (v0_0:Value) (r0_0:(aA 5 rU8).rd I [v0_0] x0) (hL:Lay Tryz.prog I):Con Tryz.prog 4 #[v0_0] I w0 [] (fun v=>v= .bool r) (fun _=>[]):=fun w C hs =>
 ((R.qH).con rfl w0 I undef [v0_0] (x0,()) r hL ⟨_,_,rfl,⟨[v0_0],rfl,r0_0⟩,rfl⟩ hm w C hs).mono fun e w' ⟨v,he,_,hst⟩=>by
  obtain ⟨h1,h2⟩:=R.tF (h1:=fun _=>rfl) (show St I w0 w' (Ch.own R.Ty.bool.rep [v] r::C) from hst)
  exact ⟨v,he,(List.cons.inj h1).1,h2⟩
end D
namespace D
open Go.RowKit
end D
namespace D
open Go.RowKit
def I64 (n:Int):Prop:= -9223372036854775808<=n/\n<=9223372036854775807
class Data (α:Type) where
 lim:α->Prop
 sm:α->Prop
instance:Data Int:=⟨I64,fun _=>True⟩
instance:Data Bool:=⟨fun _=>True,fun _=>True⟩
instance:Data ByteArray:=⟨fun s=>s.size<=9223372036854775807,fun s=>s.size<=1048576⟩
instance {α β:Type} [Data α] [Data β] :Data (α×β):=⟨fun x=>Data.lim x.1/\Data.lim x.2,fun x=>Data.sm x.1/\Data.sm x.2⟩
instance {α:Type} [Data α] :Data (List α):=⟨fun xs=>xs.length<=9223372036854775807/\ ∀x,x∈xs->Data.lim x,fun xs=>xs.length<=1048576/\ ∀x,x∈xs->Data.sm x⟩
structure Opens (P:Program) (t:TypeId) {α:Type} [Data α] (R:Rep α):Prop where
 out: ∀ {H:Type} (enc:TypeId×Value->H) (w:World) (fuel:Nat) (cs:List Value) (x:DataW H×List MemPlace),DataW.trod enc P w 0 (fun _=>true) true fuel t cs=some x-> ∃a:α,R.rd (hp w) cs a/\Data.lim a
theorem Pf {P:Program} {t:TypeId} (h:P.underlying t=some (.int .u8)):Opens P t rU8:=by
 constructor
 intro H enc w fuel cs x hx
 obtain ⟨n,rfl,-,hw⟩:=DataW.trod_int h hx
 refine ⟨n,rfl,show I64 n from ?_⟩
 simp[Lit.wf,IntKind.min,IntKind.max,IntKind.signed,IntKind.bits] at hw
 unfold I64
 omega
theorem Fq {P:Program} {t e:TypeId} {α:Type} [Data α] {R:Rep α} {E:TypeId} (h:P.underlying t=some (.slice e)) (hc:P.cellsOf e=R.size) (h0:0<R.size) (he:Opens P e R):Opens P t (aA E R):=by
 constructor
 intro H enc w fuel cs x hx
 rcases Go.Deep.open_slice h hx with ⟨rfl,-⟩ | ⟨a,len,cap,m,n,D,Pl,rfl,-,hl,hm,hmm,-,hel⟩
 ·exact ⟨[],⟨none,0,rfl,by simp,.inl rfl⟩,Nat.zero_le _,fun x hx=>by cases hx⟩
 have hlm:m=cap:=by simpa using hmm
 subst hlm
 rw[hc] at hel
 by_cases hz:len=0
 ·subst hz
  exact ⟨[],⟨some a,m,rfl,by simp,.inl rfl⟩,Nat.zero_le _,fun x hx=>by cases hx⟩
 ·have hone: ∀i,i<len-> ∃c:List Value,∃y:α,c.length=R.size/\(∀j,j<R.size->w.cell? ((a.add (i*R.size)).add j)=c[j]?)/\R.rd (hp w) c y/\Data.lim y:=by
   intro i hi
   obtain ⟨c,h1,h2⟩:=hel i (by omega)
   obtain ⟨-,h3,h4⟩:=World.cells?_some h1
   obtain ⟨y,hy⟩:=he.out enc w _ _ _ h2
   exact ⟨c,y,h3,h4,hy⟩
  obtain ⟨c0,y0,hc0,hr0,-⟩:=hone 0 (by omega)
  have h00:=hr0 0 h0
  have hsome: ∃v,c0[0]? =some v:=⟨_,List.getElem?_eq_getElem (by omega)⟩
  obtain ⟨v,hv⟩:=hsome
  rw[hv] at h00
  have ha:(a.add (0*R.size)).add 0=a:=by simp[Addr.add]
  rw[ha] at h00
  obtain ⟨b,off,spot⟩:=a
  have hb: ∃ccs T fr,w.heap[b]? =some (.cells ccs T fr)/\spot=none:=by
   simp only[World.cell?] at h00
   split at h00
   ·rename_i ccs T fr heq
    cases spot with
    | none=>exact ⟨ccs,T,fr,heq,rfl⟩
    | some s=>simp at h00
   ·simp at h00
  obtain ⟨ccs,T,fr,hh,rfl⟩:=hb
  have hadd: ∀i j,(Addr.add ⟨b,off,none⟩ i).add j=⟨b,off+i+j,none⟩:=by
   intro i j
   by_cases h1:i=0 <;> by_cases h2:j=0 <;> simp[Addr.add,h1,h2,Nat.add_assoc]
  haveI:Inhabited α:=⟨y0⟩
  obtain ⟨X,hX⟩:=Go.Deep.choose_lt (α:=α) (n:=len) (p:=fun i y=> ∃c:List Value,c.length=R.size/\(∀j,j<R.size->ccs.toList[off+i*R.size+j]? =c[j]?)/\R.rd (hp w) c y/\Data.lim y) (fun i hi=>by
   obtain ⟨c,y,h1,h2,h3⟩:=hone i hi
   refine ⟨y,c,h1,fun j hj=>?_,h3⟩
   have:=h2 j hj
   rw[hadd] at this
   simp only[World.cell?,hh] at this
   simpa using this)
  have hlen:((List.range len).map X).length=len:=by simp
  have hel2: ∀i y,((List.range len).map X)[i]? =some y->i<len/\y=X i:=fun i y hy=>by
   have hi:i<len:=by have:=(List.getElem?_eq_some_iff.1 hy).1;omega
   exact ⟨hi,by simpa [hi] using hy.symm⟩
  refine ⟨(List.range len).map X,⟨some ⟨b,off,none⟩,m,by rw[hlen],by rw[hlen];unfold maxLen at hm;unfold lim;omega,.inr ⟨b,off,ccs,T,fr,rfl,hh,fun i y hy=>?_⟩⟩,by rw[hlen];unfold maxLen at hm;omega,fun y hy=>?_⟩
  ·obtain ⟨hi,rfl⟩:=hel2 i y hy
   obtain ⟨c,e1,e2,e3,-⟩:=hX i hi
   exact ⟨c,e1,e2,e3⟩
  ·obtain ⟨i,hi,he⟩:=List.mem_iff_getElem?.1 hy |>.imp fun i hi=>hel2 i y hi
   obtain ⟨-,-,-,-,e4⟩:=hX i hi
   rw[he];exact e4
theorem St.below {w0 w:World} {cs:List Ch} (h:St (hp w0) w0 w cs):Below w0.heap.size w0 w:=by
 obtain ⟨⟨h1,h2,h3,h4⟩,h5,-⟩:=h
 refine ⟨h1,h2,h3,h4,fun b hb=>?_⟩
 have e:w0.heap[b]? =some w0.heap[b]:=Array.getElem?_eq_getElem hb
 rw[e];exact h5 b _ e
end D
namespace D
open Go.RowKit
theorem bY {n:Int} (h1: -9223372036854775808<=n) (h2:n<=9223372036854775807):IntKind.i64.wrap n=n:=by
 simp only[IntKind.wrap,IntKind.bits,IntKind.signed,Bool.true_and]
 split <;> rename_i h <;> simp at h <;> omega
theorem ai {i:Nat} (h:i<9223372036854775807):IntKind.i64.wrap ((i:Int)+1)=((i+1:Nat):Int):=by
 rw[bY (by omega) (by omega)];rfl
theorem aO {α:Type} {xs:List α} {i:Nat} (h:i<xs.length):aP xs (i:Int)=some (xs[i]):=by
 unfold aP
 rw[if_pos (Int.natCast_nonneg _)]
 simp[h]
theorem cW {i n:Nat} (h:i<n):decide ((i:Int)<(n:Int))=true:=by simp[h]
theorem cx {n:Nat} :decide ((n:Int)<(n:Int))=false:=by simp
theorem jO (k:Nat) (h:k<=9223372036854775807):k<aQ:=by unfold aQ;omega
theorem Vj {α:Type} {b n:Nat} {z:α} (h:n*b<=140737488355328):mkI b (n:Int) z=some (List.replicate n z):=by
 unfold mkI
 rw[if_pos ⟨Int.natCast_nonneg _,by simpa using h⟩];simp
theorem DM {R S:Type} {f:S->Option (Out R S)} (inv:Nat->S) (N:Nat) (h: ∀i,i<N->f (inv i)=some (.nxt (inv (i+1)))): ∀(m i k:Nat),i+m=N->ay f (k+m) (inv i)=ay f k (inv N)
 | 0,i,k,e=>by rw[show i=N by omega];rfl
 | m+1,i,k,e=>by
  rw[<-Nat.add_assoc,ay,h i (by omega)]
  exact DM inv N h m (i+1) k (by omega)
theorem LQ {R S:Type} {f:S->Option (Out R S)} (inv:Nat->S) (N:Nat) {s:S} (h: ∀i,i<N->f (inv i)=some (.nxt (inv (i+1)))) (he:f (inv N)=some (.brk s)) (hN:N<aQ):ay f aQ (inv 0)=some (.brk s):=by
 have e:aQ=(aQ - N - 1)+1+N:=by omega
 rw[e,DM inv N h N 0 _ (by omega),ay,he]
theorem XN {α:Type} [Data α] {f:Int×Int->Option Jk } (xs:List α)
  (hstep: ∀i (h:i<xs.length) l,0<=l->l<=1048576-> ∃r,f (l,(i:Int))=some (if r<0 then .ret (-1) else .nxt (r,((i+1:Nat):Int)))/\(r<0\/(0<=r/\r<=l/\Data.sm xs[i])))
  (hend: ∀l,f (l,(xs.length:Int))=some (.brk (l,(xs.length:Int)))): ∀(m i k:Nat) (l:Int),i+m=xs.length->m<k->0<=l->l<=1048576->
   ay f k (l,(i:Int))=some (.ret (-1))\/ ∃r,ay f k (l,(i:Int))=some (.brk (r,(xs.length:Int)))/\0<=r/\r<=l/\ ∀j (h:j<xs.length),i<=j->Data.sm xs[j]
 | 0,i,k,l,e,hk,h0,h1=>by
  obtain ⟨k,rfl⟩: ∃q,k=q+1:=⟨k - 1,by omega⟩
  obtain rfl:i=xs.length:=by omega
  exact .inr ⟨l,by rw[ay,hend],h0,Int.le_refl _,fun j hj hi=>by omega⟩
 | m+1,i,k,l,e,hk,h0,h1=>by
  obtain ⟨k,rfl⟩: ∃q,k=q+1:=⟨k - 1,by omega⟩
  obtain ⟨r,e1,e2⟩:=hstep i (by omega) l h0 h1
  rw[ay,e1]
  rcases e2 with e2 | ⟨e2,e3,e4⟩
  ·rw[if_pos e2];exact .inl rfl
  ·rw[if_neg (by omega)]
   rcases XN xs hstep hend m (i+1) k r (by omega) (by omega) e2 (by omega) with h | ⟨q,g1,g2,g3,g4⟩
   ·exact .inl h
   ·refine .inr ⟨q,g1,g2,by omega,fun j hj hi=>?_⟩
    by_cases hji:j=i
    ·subst hji;exact e4
    ·exact g4 j hj (by omega)
theorem szL {α:Type} [Data α] {f:Int×Int->Option Jk } (xs:List α) {l:Int} (hN:xs.length<=9223372036854775807)
  (hstep: ∀i (h:i<xs.length) l,0<=l->l<=1048576-> ∃r,f (l,(i:Int))=some (if r<0 then .ret (-1) else .nxt (r,((i+1:Nat):Int)))/\(r<0\/(0<=r/\r<=l/\Data.sm xs[i])))
  (hend: ∀l,f (l,(xs.length:Int))=some (.brk (l,(xs.length:Int)))) (h0:0<=l) (h1:l<=1048576) :
  ∃r,(if decide (IntKind.i64.wrap (l - (xs.length:Int))<0) then (some (-1)) else (aM (ay f aQ (IntKind.i64.wrap (l - (xs.length:Int)),0)) (fun r=>some r) (fun s4=>some s4.1)))=some r/\(r<0\/(0<=r/\r<=l/\Data.sm xs)):=by
 rw[bY (by omega) (by omega)]
 by_cases h:l - (xs.length:Int)<0
 ·exact ⟨-1,by rw[if_pos (decide_eq_true h)],.inl (by decide)⟩
 ·rw[if_neg (by simpa using h)]
  rcases XN xs hstep hend xs.length 0 aQ (l - xs.length) (by omega) (jO _ hN) (by omega) (by omega) with e | ⟨r,e,g1,g2,g3⟩
  ·exact ⟨-1,by rw[show ((0:Int))=((0:Nat):Int) from rfl,e];rfl,.inl (by decide)⟩
  ·refine ⟨r,by rw[show ((0:Int))=((0:Nat):Int) from rfl,e];rfl,.inr ⟨g1,by omega,by omega,fun x hx=>?_⟩⟩
   obtain ⟨j,hj,rfl⟩:=List.getElem_of_mem hx
   exact g3 j hj (Nat.zero_le _)
theorem W2 {α:Type} [DecidableEq α] {f:Int->Option (Out Bool Int)} (xs ys:List α) (hl:xs.length=ys.length)
  (hstep: ∀i (h:i<xs.length) (h':i<ys.length),f (i:Int)=some (if xs[i] =ys[i] then .nxt ((i+1:Nat):Int) else .ret false)) (hend:f (xs.length:Int)=some (.brk (xs.length:Int))): ∀(m i k:Nat),i+m=xs.length->m<k->
   ay f k (i:Int)=some (if xs.drop i=ys.drop i then .brk (xs.length:Int) else .ret false)
 | 0,i,k,e,hk=>by
  obtain ⟨k,rfl⟩: ∃q,k=q+1:=⟨k - 1,by omega⟩
  obtain rfl:i=xs.length:=by omega
  rw[ay,hend,List.drop_of_length_le (aC _),List.drop_of_length_le (by omega),if_pos rfl]
 | m+1,i,k,e,hk=>by
  obtain ⟨k,rfl⟩: ∃q,k=q+1:=⟨k - 1,by omega⟩
  have hi:i<xs.length:=by omega
  have hi':i<ys.length:=by omega
  have d1:=List.drop_eq_getElem_cons hi
  have d2:=List.drop_eq_getElem_cons hi'
  rw[ay,hstep i hi hi',d1,d2]
  by_cases h:xs[i] =ys[i]
  ·rw[if_pos h]
   simp only
   rw[W2 xs ys hl hstep hend m (i+1) k (by omega) (by omega)]
   simp only[List.cons.injEq,h,true_and]
  ·rw[if_neg h]
   simp only[List.cons.injEq,h,false_and,if_false]
theorem eqL {α:Type} [DecidableEq α] {f:Int->Option (Out Bool Int)} (xs ys:List α) (hN:xs.length<=9223372036854775807)
  (hstep: ∀i (h:i<xs.length) (h':i<ys.length),f (i:Int)=some (if xs[i] =ys[i] then .nxt ((i+1:Nat):Int) else .ret false)) (hend:f (xs.length:Int)=some (.brk (xs.length:Int))) :
  (if (xs.length:Int) !=(ys.length:Int) then (some false) else (aM (ay f aQ 0) (fun r=>some r) (fun s4=>some true)))=some (decide (xs=ys)):=by
 by_cases hl:xs.length=ys.length
 ·rw[if_neg (by rw[hl];simp),show ((0:Int))=((0:Nat):Int) from rfl,W2 xs ys hl hstep hend xs.length 0 aQ (by omega) (jO _ hN)]
  by_cases h:xs=ys
  ·subst h;simp[aM]
  ·simp[aM,h]
 ·have:xs≠ys:=fun e=>hl (by rw[e])
  rw[if_pos (by simp;omega)];simp[this]
theorem DN {α:Type} {c d:Prop} [Decidable c] [Decidable d] {a b:α} (h:c↔d):(if c then some a else some b)=some (if d then a else b):=by
 by_cases k:c
 ·rw[if_pos k,if_pos (h.1 k)]
 ·rw[if_neg k,if_neg (fun e=>k (h.2 e))]
theorem eqB {α:Type} [DecidableEq α] {f:Int->Option (Out Bool Int)} {K:Option Bool} (xs ys:List α) (hN:xs.length<=9223372036854775807) (hl:xs.length=ys.length)
  (hstep: ∀i (h:i<xs.length) (h':i<ys.length),f (i:Int)=some (if xs[i] =ys[i] then .nxt ((i+1:Nat):Int) else .ret false)) (hend:f (xs.length:Int)=some (.brk (xs.length:Int))) :
  aM (ay f aQ 0) (fun r=>some r) (fun s4=>K)=(if xs=ys then K else some false):=by
 rw[show ((0:Int))=((0:Nat):Int) from rfl,W2 xs ys hl hstep hend xs.length 0 aQ (by omega) (jO _ hN)]
 by_cases h:xs=ys
 ·subst h;simp[aM]
 ·simp[aM,h]
theorem Vk {f:Int->Option (Out Int Int)} (xs ys:List Int)
  (hstep: ∀i (h:i<xs.length) (h':i<ys.length),f (i:Int)=some (if xs[i] < ys[i] then .ret (-1) else if xs[i] > ys[i] then .ret 1 else .nxt ((i+1:Nat):Int))) (hend: ∀i,xs.length<=i\/ys.length<=i->f (i:Int)=some (.brk (i:Int))): ∀(m i k:Nat),i+m=xs.length->m<k->
   (∃r,ay f k (i:Int)=some (.ret r)/\r≠0/\xs≠ys)\/ ∃s,ay f k (i:Int)=some (.brk s)/\(xs.length=ys.length->xs.drop i=ys.drop i)
 | 0,i,k,e,hk=>by
  obtain ⟨k,rfl⟩: ∃q,k=q+1:=⟨k - 1,by omega⟩
  exact .inr ⟨_,by rw[ay,hend i (.inl (by omega))],fun h=>by rw[List.drop_of_length_le (by omega),List.drop_of_length_le (by omega)]⟩
 | m+1,i,k,e,hk=>by
  obtain ⟨k,rfl⟩: ∃q,k=q+1:=⟨k - 1,by omega⟩
  have hi:i<xs.length:=by omega
  by_cases hi':i<ys.length
  ·have hne: ∀h:xs[i] ≠ys[i],xs≠ys:=fun h e=>h (by subst e;rfl)
   rw[ay,hstep i hi hi']
   by_cases h1:xs[i] < ys[i]
   ·rw[if_pos h1];exact .inl ⟨-1,rfl,by decide,hne (by omega)⟩
   ·rw[if_neg h1]
    by_cases h2:xs[i] > ys[i]
    ·rw[if_pos h2];exact .inl ⟨1,rfl,by decide,hne (by omega)⟩
    ·rw[if_neg h2]
     rcases Vk xs ys hstep hend m (i+1) k (by omega) (by omega) with h | ⟨s,g1,g2⟩
     ·exact .inl h
     ·refine .inr ⟨s,g1,fun hl=>?_⟩
      have h3:xs[i] =ys[i]:=by omega
      rw[List.drop_eq_getElem_cons hi,List.drop_eq_getElem_cons hi',g2 hl,h3]
  ·exact .inr ⟨_,by rw[ay,hend i (.inr (by omega))],fun h=>by omega⟩
instance:LawfulBEq ByteArray where
 eq_of_beq {a b} h:=ByteArray.ext (eq_of_beq (show (a.data==b.data)=true from h))
 rfl {a}:=beq_self_eq_true a.data
theorem XO {α β γ δ:Type} {a b:α×β×γ×δ} :(a.1=b.1/\a.2.1=b.2.1/\a.2.2.1=b.2.2.1/\a.2.2.2=b.2.2.2)↔a=b:=by rw[Prod.ext_iff,Prod.ext_iff,Prod.ext_iff]
theorem iP {α β:Type} (p:α×β):(p.1,p.2)=p:=rfl
theorem cX {α:Type} [Data α] {xs:List α} (h:Data.sm xs):xs.length<=1048576/\ ∀x,x∈xs->Data.sm x:=h
end D
namespace D
open Go.RowKit
theorem bX {R S:Type} {f:S->Option (Out R S)} (Inv:Nat->S->Prop) (Q:Out R S->Prop) (N:Nat)
  (h: ∀i s,i<=N->Inv i s->(i<N/\ ∃s',f s=some (.nxt s')/\Inv (i+1) s')\/ ∃o,f s=some o/\(∀s',o≠ .nxt s')/\Q o) {s:S} (h0:Inv 0 s) (hN:N<aQ): ∃o,ay f aQ s=some o/\Q o:=by
 have key: ∀(k i:Nat) (s:S),i<=N->N<i+k->Inv i s-> ∃o,ay f k s=some o/\Q o:=by
  intro k
  induction k with
  | zero=>intro i s h1 h2;omega
  | succ k ih =>
   intro i s h1 h2 hI
   rcases h i s h1 hI with ⟨hi,s',e,hI'⟩ | ⟨o,e,hn,hq⟩
   ·obtain ⟨o,e',hq⟩:=ih (i+1) s' (by omega) (by omega) hI'
    exact ⟨o,by rw[ay,e];exact e',hq⟩
   ·refine ⟨o,?_,hq⟩
    rw[ay,e]
    cases o with
    | nxt s'=>exact absurd rfl (hn s')
    | brk s'=>rfl
    | ret r=>rfl
 exact key aQ 0 s (by omega) (by omega) h0
theorem db {R S:Type} {f:S->Option (Out R S)} (Inv:Nat->S->Prop) (N:Nat) (h: ∀i s,i<N->Inv i s-> ∃s',f s=some (.nxt s')/\Inv (i+1) s') (he: ∀s,Inv N s->f s=some (.brk s)) {s:S} (h0:Inv 0 s) (hN:N<aQ): ∃s',ay f aQ s=some (.brk s')/\Inv N s':=by
 obtain ⟨o,e,s',rfl,h⟩:=bX (f:=f) Inv (fun o=> ∃s',o= .brk s'/\Inv N s') N (fun i s hi hI=>by
  by_cases h1:i<N
  ·exact .inl ⟨h1,h i s h1 hI⟩
  ·obtain rfl:i=N:=by omega
   exact .inr ⟨_,he s hI,(fun s' e=>by cases e),s,rfl,hI⟩) h0 hN
 exact ⟨s',e,h⟩
theorem aN {R S:Type} {f:S->Option (Out R S)} (st:Nat->S) (N:Nat) (h: ∀i,i<N->f (st i)=some (.nxt (st (i+1)))) (he:f (st N)=some (.brk (st N))) (hN:N<aQ):ay f aQ (st 0)=some (.brk (st N)):=LQ st N h he hN
theorem ju {k:Nat} (h:k<=9223372036854775807):k<aQ:=jO k h
theorem uv {i:Nat} (h:i<=9223372036854775807):IntKind.i64.wrap (i:Int)=(i:Int):=bY (by omega) (by omega)
theorem lu {i:Nat} (h:i<=9223372036854775807):IntKind.i64.wrap ((i:Int) - 1)=(i:Int) - 1:=bY (by omega) (by omega)
theorem aI {α:Type} {b:Nat} {xs ys:List α} (h:(xs.length+ys.length)*b<=140737488355328):ct b xs ys=some (xs++ys):=by unfold ct;rw[if_pos h]
theorem Te {i n:Nat} :decide ((i:Int)<(n:Int))=decide (i<n):=by simp
theorem bN {R S T:Type} {x:Option (Out R S)} {r:R} {kr:R->Option T} {k:S->Option T} (h:x=some (.ret r)):aM x kr k=kr r:=by rw[h];rfl
theorem af {R S T:Type} {x:Option (Out R S)} {s:S} {kr:R->Option T} {k:S->Option T} (h:x=some (.brk s)):aM x kr k=k s:=by rw[h];rfl
def nth {α:Type} [Inhabited α] (xs:List α) (i:Int):α:=xs.getD i.toNat default
section
variable {α:Type} [Inhabited α] {xs ys:List α}
theorem ax {i:Int} (h0:0<=i) (h1:i<xs.length):aP xs i=some (nth xs i):=by
 unfold aP nth
 rw[if_pos h0]
 have:i.toNat<xs.length:=by omega
 simp[List.getD_eq_getElem?_getD,this]
theorem bT {i:Nat} (h:i<xs.length):nth xs (i:Int)=xs[i]:=by simp[nth,List.getD_eq_getElem?_getD,h]
theorem bg {i:Int} (h0:0<=i) (h1:i<xs.length):nth xs i∈xs:=by
 have:i.toNat<xs.length:=by omega
 have e:nth xs i=xs[i.toNat]:=by simp[nth,List.getD_eq_getElem?_getD,this]
 rw[e];exact List.getElem_mem this
theorem hY {i:Int} (h0:0<=i) (h1:i<xs.length):nth (xs++ys) i=nth xs i:=by
 have:i.toNat<xs.length:=by omega
 simp[nth,List.getD_eq_getElem?_getD,List.getElem?_append_left this]
theorem LR {β:Type} [Inhabited β] {f:α->β} {i:Int} (h0:0<=i) (h1:i<xs.length):nth (xs.map f) i=f (nth xs i):=by
 have:i.toNat<xs.length:=by omega
 simp[nth,List.getD_eq_getElem?_getD,this]
theorem vv {x:α} (h:x∈xs): ∃i:Nat,i<xs.length/\nth xs (i:Int)=x:=by
 obtain ⟨i,hi,rfl⟩:=List.getElem_of_mem h
 exact ⟨i,hi,bT hi⟩
theorem hZ {i:Int} {x:α} (h0:0<=i) (h1:i<xs.length):nth (xs.set i.toNat x) i=x:=by
 have:i.toNat<xs.length:=by omega
 simp[nth,List.getD_eq_getElem?_getD,this]
theorem iI {i j:Int} {x:α} (h0:0<=i) (hj:0<=j) (h:i≠j):nth (xs.set i.toNat x) j=nth xs j:=by
 have:i.toNat≠j.toNat:=by omega
 simp[nth,List.getD_eq_getElem?_getD,List.getElem?_set_ne this]
theorem Tf (h:xs.length=ys.length) (k: ∀i:Nat,i<xs.length->nth xs (i:Int)=nth ys (i:Int)):xs=ys:=by
 refine List.ext_getElem h fun i h1 h2=>?_
 have:=k i h1
 rwa [bT h1,bT h2] at this
end
section
variable {κ:Type} [DecidableEq κ]
def nbL (l:List κ):Option κ->List κ
 | none=>l
 | some x=>if x∈l then l else l++ [x]
def nbI (l:List κ):Option κ->Int
 | none=> -1
 | some x=>(l.idxOf x:Int)
def nbS (l:List κ) (os:List (Option κ)):List κ:=os.foldl nbL l
def nbR (l:List κ):List (Option κ)->List Int
 | [] =>[]
 | o::os=>nbI l o::nbR (nbL l o) os
theorem pv (l:List κ) (os:List (Option κ)) (o:Option κ):nbS l (os++ [o])=nbL (nbS l os) o:=by simp[nbS]
theorem ru: ∀(l:List κ) (os:List (Option κ)) (o:Option κ),nbR l (os++ [o])=nbR l os++ [nbI (nbS l os) o]
 | l,[],o=>rfl
 | l,p::os,o=>by
  show nbI l p::nbR (nbL l p) (os++ [o])=nbI l p::nbR (nbL l p) os++ [nbI (nbS (nbL l p) os) o]
  rw[ru (nbL l p) os o];rfl
theorem eN: ∀(l:List κ) (os:List (Option κ)),(nbR l os).length=os.length
 | l,[] =>rfl
 | l,o::os=>by show (nbR (nbL l o) os).length+1=_;rw[eN];rfl
theorem IR (l : List κ) (o : Option κ) : l <+: nbL l o := by
  cases o with
  | none => exact List.prefix_refl l
  | some x => unfold nbL; simp only; split
              · exact List.prefix_refl l
              · exact List.prefix_append l [x]
theorem iJ: ∀(l:List κ) (os:List (Option κ)),l <+:nbS l os
 | l,[] =>List.prefix_refl l
 | l,o::os=>(IR l o).trans (iJ (nbL l o) os)
theorem LS {l : List κ} {o : Option κ} (h : l.Nodup) : (nbL l o).Nodup := by
  cases o with
  | none => exact h
  | some x => unfold nbL; simp only; split
              · exact h
              · rename_i hx; exact List.nodup_append.2 ⟨h, by simp, by rintro a ha b hb rfl; simp at hb; exact hx (hb ▸ ha)⟩
theorem nh: ∀ {l:List κ} {os:List (Option κ)},l.Nodup->(nbS l os).Nodup
 | l,[],h=>h
 | l,o::os,h=>nh (l:=nbL l o) (os:=os) (LS h)
theorem LU {l : List κ} {o : Option κ} {x : κ} : x ∈ nbL l o ↔ x ∈ l \/ o = some x := by
  cases o with
  | none => simp [nbL]
  | some y => unfold nbL; simp only; split
              · rename_i h; constructor
                · exact .inl
                · rintro (h' | h')
                  · exact h'
                  · simp at h'; exact h' ▸ h
              · simp; exact or_congr Iff.rfl eq_comm
theorem n9: ∀ {l:List κ} {os:List (Option κ)} {x:κ},x∈nbS l os↔x∈l\/some x∈os
 | l,[],x=>by simp[nbS]
 | l,o::os,x=>by
  show x∈nbS (nbL l o) os↔_
  rw[n9,LU,List.mem_cons,or_assoc]
  exact or_congr Iff.rfl (or_congr eq_comm Iff.rfl)
theorem jB {l:List κ} {x:κ} (h:x∈l):nbL l (some x)=l:=by simp[nbL,h]
theorem iS {l:List κ} {x:κ} (h:x∉l):nbL l (some x)=l++ [x]:=by simp[nbL,h]
theorem oM {l:List κ} {x:κ} (h:x∉l):l.idxOf x=l.length:=List.idxOf_eq_length h
def bfS (nx:κ->List (Option κ)) (first:κ):Nat->List κ
 | 0=>[first]
 | i+1=>match (bfS nx first i)[i]? with
  | some x=>nbS (bfS nx first i) (nx x)
  | none=>bfS nx first i
def bfR (nx:κ->List (Option κ)) (first:κ):Nat->List (List Int)
 | 0=>[]
 | i+1=>bfR nx first i++(match (bfS nx first i)[i]? with
  | some x=>[nbR (bfS nx first i) (nx x)]
  | none=>[])
variable {nx:κ->List (Option κ)} {first:κ}
theorem wQ {i:Nat} (h:i<(bfS nx first i).length):bfS nx first (i+1)=nbS (bfS nx first i) (nx ((bfS nx first i)[i])):=by
 rw[bfS,List.getElem?_eq_getElem h]
theorem rv {i:Nat} (h:i<(bfS nx first i).length):bfR nx first (i+1)=bfR nx first i++ [nbR (bfS nx first i) (nx ((bfS nx first i)[i]))]:=by
 rw[bfR,List.getElem?_eq_getElem h]
theorem bH (i:Nat):bfS nx first i <+:bfS nx first (i+1):=by
 rw[bfS]
 split
 ·exact iJ _ _
 ·exact List.prefix_refl _
theorem kJ {i j:Nat} (h:i<=j):bfS nx first i <+:bfS nx first j:=by
 induction h with
 | refl=>exact List.prefix_refl _
 | step _ ih=>exact ih.trans (bH _)
theorem km: ∀i,(bfS nx first i).Nodup
 | 0=>by simp[bfS]
 | i+1=>by
  rw[bfS]
  split
  ·exact nh (km i)
  ·exact km i
theorem iK {G:κ->Prop} (h0:G first) (h: ∀x,G x-> ∀y,some y∈nx x->G y): ∀i,∀x∈bfS nx first i,G x
 | 0=>by simp[bfS];exact h0
 | i+1=>by
  rw[bfS]
  split
  ·rename_i y hy
   intro x hx
   rcases n9.1 hx with hx | hx
   ·exact iK h0 h i x hx
   ·exact h y (iK h0 h i y (List.mem_of_getElem? hy)) x hx
  ·exact iK h0 h i
theorem yG (i:Nat):(bfS nx first i)[0]? =some first:=by
 obtain ⟨t,ht⟩:=kJ (nx:=nx) (first:=first) (Nat.zero_le i)
 rw[<-ht];rfl
theorem iL: ∀ {i:Nat},(∀j,j<i->j<(bfS nx first j).length)->(bfR nx first i).length=i
 | 0,_=>rfl
 | i+1,h=>by rw[rv (h i (by omega)),aj,iL fun j hj=>h j (by omega)];rfl
def bfE (nx:κ->List (Option κ)) (first:κ) (N:Nat):Prop:=N=(bfS nx first N).length/\ ∀i,i<N->i<(bfS nx first i).length
theorem Hb {B:Nat} (hB: ∀i,(bfS nx first i).length<=B): ∃N,N<=B/\bfE nx first N:=by
 have key: ∀m i,i+m=B->(∀j,j<i->j<(bfS nx first j).length)-> ∃N,N<=B/\bfE nx first N:=by
  intro m
  induction m with
  | zero =>
   intro i hi hj
   have h1:=hB i
   have h2:i<=(bfS nx first i).length:=by
    cases i with
    | zero=>omega
    | succ i =>
     have:=hj i (by omega)
     have hp:=(bH (nx:=nx) (first:=first) i).length_le
     omega
   exact ⟨i,by omega,by omega,hj⟩
  | succ m ih =>
   intro i hi hj
   by_cases h:i<(bfS nx first i).length
   ·exact ih (i+1) (by omega) fun j hj'=>by
     by_cases e:j=i
     ·subst e;exact h
     ·exact hj j (by omega)
   ·have h2:i<=(bfS nx first i).length:=by
     cases i with
     | zero=>omega
     | succ i =>
      have:=hj i (by omega)
      have hp:=(bH (nx:=nx) (first:=first) i).length_le
      omega
    exact ⟨i,by omega,by omega,hj⟩
 exact key B 0 (by omega) (by omega)
theorem Hc {N M:Nat} (h:bfE nx first N) (k:bfE nx first M):N=M:=by
 rcases Nat.lt_trichotomy N M with e | e | e
 ·have:=k.2 N e;have:=h.1;omega
 ·exact e
 ·have:=h.2 M e;have:=k.1;omega
end
end D
namespace D
open Go.RowKit
abbrev AutT:=Int×(List Bool)×(List (List Int))
structure VA (a:AutT) (n:Nat):Prop where
 len:a.2.1.length=n
 start:0<=a.1/\a.1<n
 nlen:a.2.2.length=n
 row: ∀r∈a.2.2,r.length=9
 ent: ∀r∈a.2.2,∀t∈r,-1<=t/\t<n
def mv (a:AutT) (s:Int) (k:Nat):Int:=nth (nth a.2.2 s) k
theorem QL (x l h:Int):eP x l h=some (decide (l<=x/\x<=h)):=by
 unfold eP
 by_cases c:l<=x
 ·simp[c]
 ·have: ¬l<=x/\True:=⟨c,trivial⟩
  simp[c]
theorem Jl (x l h:Int):cG x l h=some (decide (l<=x/\x<=h)):=by
 unfold cG
 by_cases c:l<=x
 ·simp[c]
 ·simp[c]
theorem scan {α R:Type} [Inhabited α] {f:Int->Option (Out R Int)} (xs:List α) (p:α->Prop) [DecidablePred p] (r:R) (hN:xs.length<=9223372036854775807)
  (h: ∀i:Nat,i<xs.length->f (i:Int)=some (if p (nth xs i) then .nxt ((i+1:Nat):Int) else .ret r)) (he:f (xs.length:Int)=some (.brk (xs.length:Int))) :
  (ay f aQ 0=some (.brk (xs.length:Int))/\ ∀x∈xs,p x)\/(ay f aQ 0=some (.ret r)/\ ¬ ∀x∈xs,p x):=by
 obtain ⟨o,e,hq⟩:=bX (f:=f) (fun i s=>s=(i:Int)/\ ∀j:Nat,j<i->p (nth xs j)) (fun o=>(o= .brk (xs.length:Int)/\ ∀x∈xs,p x)\/(o= .ret r/\ ¬ ∀x∈xs,p x)) xs.length (s:=0) (by
  rintro i s hi ⟨rfl,hp⟩
  by_cases hl:i<xs.length
  ·by_cases c:p (nth xs i)
   ·refine .inl ⟨hl,_,by rw[h i hl,if_pos c],rfl,fun j hj=>?_⟩
    by_cases e:j=i
    ·subst e;exact c
    ·exact hp j (by omega)
   ·refine .inr ⟨_,by rw[h i hl,if_neg c],(fun s' e=>by cases e),.inr ⟨rfl,fun hx=>c (hx _ (bg (by omega) (by omega)))⟩⟩
  ·obtain rfl:i=xs.length:=by omega
   refine .inr ⟨_,he,(fun s' e=>by cases e),.inl ⟨rfl,fun x hx=>?_⟩⟩
   obtain ⟨j,hj,rfl⟩:=vv hx
   exact hp j hj) ⟨rfl,by omega⟩ (ju hN)
 rcases hq with ⟨rfl,hq⟩ | ⟨rfl,hq⟩
 ·exact .inl ⟨e,hq⟩
 ·exact .inr ⟨e,hq⟩
section
variable {a:AutT} {n:Nat} (V:VA a n)
include V
theorem VA.pos:0<n:=by have:=V.start;omega
theorem VA.rowAt {s:Int} (h0:0<=s) (h1:s<n):(nth a.2.2 s).length=9:=V.row _ (bg h0 (by rw[V.nlen];exact h1))
theorem VA.mv {s:Int} {k:Nat} (h0:0<=s) (h1:s<n) (hk:k<9): -1<=mv a s k/\mv a s k<n:=
 V.ent _ (bg h0 (by rw[V.nlen];exact h1)) _ (bg (by omega) (by rw[V.rowAt h0 h1];omega))
theorem VA.get {s:Int} (h0:0<=s) (h1:s<n):aP a.2.2 s=some (nth a.2.2 s):=ax h0 (by rw[V.nlen];exact h1)
theorem VA.get2 {s:Int} {k:Nat} (h0:0<=s) (h1:s<n) (hk:k<9):aP (nth a.2.2 s) (k:Int)=some (D.mv a s k):=ax (by omega) (by rw[V.rowAt h0 h1];omega)
theorem VA.acc {s:Int} (h0:0<=s) (h1:s<n):aP a.2.1 s=some (nth a.2.1 s):=ax h0 (by rw[V.len];exact h1)
theorem we {s:Int} {k:Nat} (h0:0<=s) (h1:s<n) (hk:k<9):aS a s (k:Int)=some (mv a s k):=by
 unfold aS jG
 rw[if_neg (by simp;omega),Jl];simp only[aa]
 rw[if_pos (by simp;omega),V.get h0 h1];simp only[aa]
 rw[V.get2 h0 h1 hk];rfl
end
theorem IS {a:AutT} {s:Int} {k:Int} (h0:s<0):aS a s k=some (-1):=by
 unfold aS;rw[if_pos (by simpa using h0)]
end D
namespace D
open Go.RowKit
abbrev Tok:=Int×Int×Int×Int
def ar (t:Tok):Int:=
 if t.1=1\/t.1=2 then (if t.2.1=0/\t.2.2.1=0/\t.2.2.2=0 then 0 else -1)
 else if t.1=3 then (if (0<=t.2.1/\t.2.1<=8)/\t.2.2.1=0/\t.2.2.2=0 then 0 else -1)
 else if t.1=4\/t.1=5 then (if t.2.1=0/\t.2.2.1=0/\t.2.2.2=0 then 2 else -1)
 else if t.1=6 then (if t.2.1=0/\t.2.2.1=0/\t.2.2.2=0 then 1 else -1)
 else if t.1=7 then (if t.2.1=0/\(0<=t.2.2.1/\t.2.2.1<=t.2.2.2)/\(1<=t.2.2.2/\t.2.2.2<=3) then 1 else -1)
 else -1
theorem Pg (x:Int):kX x=some (decide (0<=x/\x<=8)):=by unfold kX;rw[QL];rfl
theorem Ph (x:Int):jG x=some (decide (0<=x/\x<=8)):=by unfold jG;rw[Jl];rfl
theorem XP (t:Tok):mE t=some (ar t):=by
 obtain ⟨k,l,lo,hi⟩:=t
 unfold mE ar
 simp only[Pg,QL,aa]
 by_cases h1:k=1
 ·subst h1;simp;grind
 by_cases h2:k=2
 ·subst h2;simp;grind
 by_cases h3:k=3
 ·subst h3;simp;grind
 by_cases h4:k=4
 ·subst h4;simp;grind
 by_cases h5:k=5
 ·subst h5;simp;grind
 by_cases h6:k=6
 ·subst h6;simp;grind
 by_cases h7:k=7
 ·subst h7;simp;grind
 simp[h1,h2,h3,h4,h5,h6,h7]
theorem Vl (t:Tok):pc t=some (decide (0<=ar t)):=by
 obtain ⟨k,l,lo,hi⟩:=t
 unfold pc ar
 simp only[Ph,Jl,aa]
 by_cases h1:k=1
 ·subst h1;simp;grind
 by_cases h2:k=2
 ·subst h2;simp;grind
 by_cases h3:k=3
 ·subst h3;simp only[]
  by_cases a:0<=l/\l<=8 <;> by_cases b:lo=0 <;> by_cases c:hi=0 <;> simp[a,b,c]
 by_cases h4:k=4
 ·subst h4;simp;grind
 by_cases h5:k=5
 ·subst h5;simp;grind
 by_cases h6:k=6
 ·subst h6;simp;grind
 by_cases h7:k=7
 ·subst h7;simp only[]
  by_cases a:l=0 <;> by_cases b:0<=lo/\lo<=hi <;> by_cases c:1<=hi/\hi<=3 <;> simp[a,b,c]
 simp[h1,h2,h3,h4,h5,h6,h7]
theorem uw (t:Tok): -1<=ar t/\ar t<=2:=by
 unfold ar
 grind
theorem kK {t:Tok} (h:0<=ar t):(ar t=2/\(t.1=4\/t.1=5))\/(ar t=1/\(t.1=6\/t.1=7))\/(ar t=0/\(t.1=1\/t.1=2\/t.1=3)):=by
 unfold ar at h⊢
 grind
theorem yH {t:Tok} (h:0<=ar t) (k:t.1=7):(0<=t.2.2.1/\t.2.2.1<=t.2.2.2)/\(1<=t.2.2.2/\t.2.2.2<=3):=by
 unfold ar at h
 grind
mutual
def flat:Tr Tok->List Tok
 | .nil=>[]
 | .node t ks=>jC ks++ [t]
def jC:List (Tr Tok)->List Tok
 | [] =>[]
 | k::ks=>flat k++jC ks
end
inductive WT:Tr Tok->Prop
 | node {t:Tok} {ks:List (Tr Tok)} :ar t=(ks.length:Int)->(∀k,k∈ks->WT k)->WT (.node t ks)
theorem oN: ∀(a b:List (Tr Tok)),jC (a++b)=jC a++jC b
 | [],b=>rfl
 | k::a,b=>by rw[List.cons_append,jC,jC,oN a b,ak]
theorem lA (x:Tr Tok):jC [x] =flat x:=by rw[jC,jC,List.append_nil]
theorem LW (x y:Tr Tok):jC [x,y] =flat x++flat y:=by rw[jC,lA]
theorem WT.cases {x:Tr Tok} (h:WT x):(∃t,x= .node t [] /\ar t=0)\/(∃t a,x= .node t [a] /\ar t=1/\WT a)\/ ∃t a b,x= .node t [a,b] /\ar t=2/\WT a/\WT b:=by
 cases h with
 | @node t ks h1 h2 =>
  have:=(uw t).2
  match ks,h1,h2 with
  | [],h1,h2=>exact .inl ⟨t,rfl,h1⟩
  | [a],h1,h2=>exact .inr (.inl ⟨t,a,rfl,h1,h2 a (by simp)⟩)
  | [a,b],h1,h2=>exact .inr (.inr ⟨t,a,b,rfl,h1,h2 a (by simp),h2 b (by simp)⟩)
  | _::_::_::_,h1,h2=>simp at h1;omega
theorem WT.ind {p:Tr Tok->Prop} (h0: ∀t,ar t=0->p (.node t [])) (h1: ∀t a,ar t=1->WT a->p a->p (.node t [a])) (h2: ∀t a b,ar t=2->WT a->WT b->p a->p b->p (.node t [a,b])) {x:Tr Tok} (h:WT x):p x:=by
 induction h with
 | @node t ks e k ih =>
  have:=(uw t).2
  match ks,e,k,ih with
  | [],e,k,ih=>exact h0 t e
  | [a],e,k,ih=>exact h1 t a e (k a (by simp)) (ih a (by simp))
  | [a,b],e,k,ih=>exact h2 t a b e (k a (by simp)) (k b (by simp)) (ih a (by simp)) (ih b (by simp))
  | _::_::_::_,e,_,_=>simp at e;omega
theorem yI (t:Tok):flat (.node t [])= [t]:=by rw[flat,jC];rfl
theorem zG (t:Tok) (a:Tr Tok):flat (.node t [a])=flat a++ [t]:=by rw[flat,lA]
theorem rL (t:Tok) (a b:Tr Tok):flat (.node t [a,b])=(flat a++flat b)++ [t]:=by rw[flat,LW]
theorem WT.pos {x:Tr Tok} (h:WT x):1<=(flat x).length:=by
 cases h with
 | node h1 h2=>rw[flat];simp
def stp (s:List (Tr Tok)) (t:Tok):Option (List (Tr Tok)):=if ar t<0\/(s.length:Int)<ar t then none else some (s.take (s.length - (ar t).toNat)++ [.node t (s.drop (s.length - (ar t).toNat))])
def run:List (Tr Tok)->List Tok->Option (List (Tr Tok))
 | s,[] =>some s
 | s,t::l=>(stp s t).bind fun s'=>run s' l
theorem BR: ∀(a:List Tok) {b:List Tok} {s:List (Tr Tok)},run s (a++b)=(run s a).bind fun s'=>run s' b
 | [],b,s=>rfl
 | t::a,b,s=>by
  rw[List.cons_append,run,run]
  cases stp s t with
  | none=>rfl
  | some s'=>exact BR a
theorem uy {a:List Tok} {t:Tok} {s:List (Tr Tok)} :run s (a++ [t])=(run s a).bind fun s'=>stp s' t:=by
 rw[BR]
 congr 1
 funext s'
 rw[run]
 cases stp s' t <;> rfl
theorem QM: ∀ {l:List Tok} {s s':List (Tr Tok)},run s l=some s'->(∀k,k∈s->WT k)->(∀k,k∈s'->WT k)/\jC s'=jC s++l
 | [],s,s',h,hs=>by
  obtain rfl:=ae h
  exact ⟨hs,by simp⟩
 | t::l,s,s',h,hs=>by
  rw[run] at h
  unfold stp at h
  by_cases c:ar t<0\/(s.length:Int)<ar t
  ·rw[if_pos c] at h;cases h
  ·rw[if_neg c] at h
   have hlen:(s.drop (s.length - (ar t).toNat)).length=(ar t).toNat:=by rw[bd];omega
   obtain ⟨k1,k2⟩:=QM (show run _ l=some s' from h) fun k hk=>by
    rcases aH hk with hk | hk
    ·exact hs k (List.mem_of_mem_take hk)
    ·obtain rfl:=al hk
     exact .node (by rw[hlen];omega) fun k hk=>hs k (List.mem_of_mem_drop hk)
   refine ⟨k1,?_⟩
   rw[k2,oN,lA,flat,<-ak,<-oN,List.take_append_drop]
   simp
theorem Pi {x:Tr Tok} (h:WT x): ∀s,run s (flat x)=some (s++ [x]):=by
 refine WT.ind (p:=fun x=> ∀s,run s (flat x)=some (s++ [x])) ?_ ?_ ?_ h
 ·intro t e s
  rw[yI,run,stp,if_neg (by omega),e]
  simp[run]
 ·intro t a e _ ia s
  rw[zG,uy,ia]
  show stp (s++ [a]) t=_
  rw[stp,if_neg (by simp;omega),e]
  simp
 ·intro t a b e _ _ ia ib s
  rw[rL,uy,BR,ia]
  show ((run (s++ [a]) (flat b)).bind fun s'=>stp s' t)=_
  rw[ib]
  show stp (s++ [a] ++ [b]) t=_
  rw[stp,if_neg (by simp;omega),e]
  have:(s++ [a] ++ [b]).length - (2:Int).toNat=s.length:=by simp
  rw[this]
  simp
def isX (e:List Tok):Bool:=match run [] e with
 | some [_] =>true
 | _=>false
theorem He {e:List Tok} (h:isX e=true): ∃x,run [] e=some [x] /\WT x/\flat x=e:=by
 unfold isX at h
 split at h
 ·rename_i x hx
  obtain ⟨k1,k2⟩:=QM hx (fun k hk=>by cases hk)
  refine ⟨x,hx,k1 x (by simp),?_⟩
  rw[lA] at k2
  rw[k2];rfl
 ·cases h
theorem LX {l:List Tok} : ∀ {s s':List (Tr Tok)},run s l=some s'->s'.length<=s.length+l.length:=by
 induction l with
 | nil=>intro s s' h;obtain rfl:=ae h;simp
 | cons t l ih =>
  intro s s' h
  rw[run] at h
  obtain ⟨s1,h1,h2⟩:=Option.bind_eq_some_iff.1 h
  have h3:=ih h2
  unfold stp at h1
  split at h1
  ·cases h1
  ·obtain rfl:=ae h1
   simp only[aj,aE,au,aD] at h3⊢
   omega
theorem yJ {e:List Tok} {i:Nat} (h:i<e.length):e.take (i+1)=e.take i++ [nth e (i:Int)]:=by
 rw[List.take_succ_eq_append_getElem h,bT h]
theorem wR {e:List Tok} {i:Nat} (h:i<e.length) {st:List (Tr Tok)} (h1:run [] (e.take i)=some st) (h2:stp st (nth e (i:Int))=none):run [] e=none:=by
 have:run [] (e.take (i+1))=none:=by rw[yJ h,uy,h1];exact h2
 rw[<-List.take_append_drop (i+1) e,BR,this];rfl
theorem Pj {e:List Tok} (he:e.length<=1048576):q9 e=some (isX e):=by
 obtain ⟨o,eo,hq⟩:=bX (f:=o9 e) (fun i s=> ∃st,s=((st.length:Int),(i:Int))/\run [] (e.take i)=some st) (fun o=>(o= .ret false/\run [] e=none)\/ ∃st,o= .brk ((st.length:Int),(e.length:Int))/\run [] e=some st) e.length (s:=(0,0)) (by
  rintro i s hi ⟨st,rfl,hst⟩
  have hl:=LX hst
  simp only[aD,aE] at hl
  unfold o9
  simp only[iP]
  by_cases c:i<e.length
  ·rw[if_pos (by simp;omega),ax (by omega) (by omega)];simp only[aa]
   rw[XP];simp only[aa]
   have hr:=uw (nth e (i:Int))
   by_cases c1:ar (nth e (i:Int))<0
   ·refine .inr ⟨_,by rw[if_pos (by simpa using c1)],(fun s' e=>by cases e),.inl ⟨rfl,wR c hst ?_⟩⟩
    rw[stp,if_pos (.inl c1)]
   ·rw[if_neg (by simpa using c1)]
    by_cases c2:ar (nth e (i:Int))>(st.length:Int)
    ·refine .inr ⟨_,by rw[if_pos (by simpa using c2)],(fun s' e=>by cases e),.inl ⟨rfl,wR c hst ?_⟩⟩
     rw[stp,if_pos (.inr c2)]
    ·rw[if_neg (by simpa using c2)]
     refine .inl ⟨c,_,rfl,st.take (st.length - (ar (nth e (i:Int))).toNat)++ [.node (nth e (i:Int)) (st.drop (st.length - (ar (nth e (i:Int))).toNat))],?_,?_⟩
     ·rw[bY (n:=(st.length:Int) - ar (nth e (i:Int))) (by omega) (by omega),bY (by omega) (by omega),ai (by omega)]
      congr 1
      simp only[aj,aE,au,aD]
      omega
     ·rw[yJ c,uy,hst]
      show stp st _=_
      rw[stp,if_neg (by omega)]
  ·obtain rfl:i=e.length:=by omega
   rw[List.take_of_length_le (by omega)] at hst
   exact .inr ⟨_,by rw[if_neg (by simp)],(fun s' e=>by cases e),.inr ⟨st,rfl,hst⟩⟩) ⟨[],rfl,rfl⟩ (ju (by omega))
 unfold q9
 rcases hq with ⟨rfl,h⟩ | ⟨st,rfl,h⟩
 ·rw[bN eo];unfold isX;rw[h]
 ·rw[af eo];unfold isX;rw[h]
  match st with
  | [] =>rfl
  | [_] =>rfl
  | _::_::_=>simp;omega
theorem W3 {t:Tok} (h:0<=ar t):(Option.bind ((if t.1==4 then (some (t.1==4)) else (some (t.1==5)):Option Bool)) (fun s3=>if s3 then (some 2) else (Option.bind ((if t.1==6 then (some (t.1==6)) else (some (t.1==7)):Option Bool)) (fun s4=>if s4 then (some 1) else (some 0)))):Option Int)=some (ar t):=by
 rcases kK h with ⟨e,k | k⟩ | ⟨e,k | k⟩ | ⟨e,k | k | k⟩ <;> rw[e] <;> simp[k]
theorem Tg (t:Tok): ∃n:Int,(Option.bind ((if t.1==4 then (some (t.1==4)) else (some (t.1==5)):Option Bool)) (fun s3=>if s3 then (some 2) else (Option.bind ((if t.1==6 then (some (t.1==6)) else (some (t.1==7)):Option Bool)) (fun s4=>if s4 then (some 1) else (some 0)))):Option Int)=some n:=by
 by_cases h4:t.1=4
 ·exact ⟨2,by simp[h4]⟩
 by_cases h5:t.1=5
 ·exact ⟨2,by simp[h5]⟩
 by_cases h6:t.1=6
 ·exact ⟨1,by simp[h6]⟩
 by_cases h7:t.1=7
 ·exact ⟨1,by simp[h7]⟩
 exact ⟨0,by simp[h4,h5,h6,h7]⟩
def wB (e:List Tok):Tr Tok:=match run [] e with
 | some [x] =>x
 | _=>.nil
theorem BS {e:List Tok} (he:e.length<=1048576):mg e=some (wB e):=by
 obtain ⟨o,eo,hq⟩:=bX (f:=pd e) (fun i s=> ∃st,s=(st,(i:Int))/\run [] (e.take i)=some st) (fun o=>(o= .ret Tr.nil/\run [] e=none)\/ ∃st,o= .brk (st,(e.length:Int))/\run [] e=some st) e.length (s:=([],0)) (by
  rintro i s hi ⟨st,rfl,hst⟩
  have hl:=LX hst
  simp only[aD,aE] at hl
  unfold pd
  simp only[iP]
  by_cases c:i<e.length
  ·rw[if_pos (by simp;omega),ax (by omega) (by omega)];simp only[aa]
   have hr:=uw (nth e (i:Int))
   by_cases c1:ar (nth e (i:Int))<0
   ·obtain ⟨n,hn⟩:=Tg (nth e (i:Int))
    rw[hn];simp only[aa]
    rw[Vl];simp only[aa]
    refine .inr ⟨_,by rw[if_neg (by simp;omega)],(fun s' e=>by cases e),.inl ⟨rfl,wR c hst ?_⟩⟩
    rw[stp,if_pos (.inl c1)]
   ·rw[W3 (by omega)];simp only[aa]
    rw[Vl];simp only[aa]
    rw[if_pos (by simp;omega),bY (n:=(st.length:Int) - ar (nth e (i:Int))) (by omega) (by omega)]
    by_cases c2:ar (nth e (i:Int))>(st.length:Int)
    ·refine .inr ⟨_,by rw[if_pos (by simp;omega)],(fun s' e=>by cases e),.inl ⟨rfl,wR c hst ?_⟩⟩
     rw[stp,if_pos (.inr c2)]
    ·rw[if_neg (by simp;omega),show∀p:Prop,∀ [Decidable p],p->chk p=some () from fun p _ hp=>by unfold chk;rw[if_pos hp]]
     ·simp only[aa]
      have e1:((st.length:Int) - ar (nth e (i:Int))).toNat=st.length - (ar (nth e (i:Int))).toNat:=by omega
      rw[e1,aI (by simp;omega)];simp only[aa]
      rw[aI (by simp;omega)];simp only[aa,List.nil_append,ai (show i<9223372036854775807 by omega)]
      refine .inl ⟨c,_,rfl,_,rfl,?_⟩
      rw[yJ c,uy,hst]
      show stp st _=_
      rw[stp,if_neg (by omega)]
     ·omega
  ·obtain rfl:i=e.length:=by omega
   rw[List.take_of_length_le (by omega)] at hst
   exact .inr ⟨_,by rw[if_neg (by simp)],(fun s' e=>by cases e),.inr ⟨st,rfl,hst⟩⟩) ⟨[],rfl,rfl⟩ (ju (by omega))
 unfold mg
 rcases hq with ⟨rfl,h⟩ | ⟨st,rfl,h⟩
 ·rw[bN eo];unfold wB;rw[h]
 ·rw[af eo];unfold wB;rw[h]
  match st with
  | [] =>rfl
  | [x] =>rfl
  | _::_::_ =>
   simp only
   rw[if_pos (by simp;omega)]
theorem ry {x:Tr Tok} (h:WT x):wB (flat x)=x:=by unfold wB;rw[Pi h];rfl
theorem Pm {e:List Tok} (he:e.length<=1048576):rh e=some (isX e):=by
 unfold rh
 rw[BS he];simp only[aa]
 congr 1
 by_cases h:isX e=true
 ·rw[h]
  obtain ⟨x,h1,h2,h3⟩:=He h
  have:wB e=x:=by unfold wB;rw[h1]
  rw[this]
  cases h2 with
  | node _ _=>rfl
 ·have:wB e= .nil:=by
   unfold wB
   unfold isX at h
   split
   ·rename_i x hx;rw[hx] at h;exact absurd rfl h
   ·rfl
  rw[this,Bool.eq_false_iff.2 h];rfl
theorem yK {e:List Tok} (he:e.length<=1048576):gG e=some (decide (e.length<=24)&&isX e):=by
 unfold gG
 rw[Pj he]
 by_cases c:e.length<=24
 ·rw[if_pos (by simp;omega)];simp[c]
 ·rw[if_neg (by simp;omega)];simp[c]
theorem Fs {e:List Tok} (he:e.length<=1048576):j3 e=some (decide (e.length<=24)&&isX e):=by
 unfold j3
 rw[Pm he]
 by_cases c:e.length<=24
 ·rw[if_pos (by simp;omega)];simp[c]
 ·rw[if_neg (by simp;omega)];simp[c]
theorem ic {p:Prop} [Decidable p] (h:p):chk p=some ():=by unfold chk;rw[if_pos h]
theorem Ti {A:List Tok} {x:Tr Tok} (hx:WT x) (hl:(A++flat x).length<=1000000):gH (A++flat x)=some (A.length:Int):=by
 obtain ⟨s',e,ks,q1,q2,q3⟩: ∃s',ay (kM (A++flat x)) aQ (1,((A++flat x).length:Int))=some (.brk s')/\ ∃ks:List (Tr Tok),ks= [] /\s'.2=(A.length:Int)/\True:=by
  obtain ⟨o,eo,hq⟩:=bX (f:=kM (A++flat x)) (fun i s=> ∃ks:List (Tr Tok),(∀k,k∈ks->WT k)/\s=((ks.length:Int),(((A++jC ks).length:Nat):Int))/\i+(jC ks).length=(flat x).length/\(A++flat x).take (A++jC ks).length=A++jC ks) (fun o=> ∃s',o= .brk s'/\s'.2=(A.length:Int)) (flat x).length (s:=(1,((A++flat x).length:Int))) (by
   rintro i s hi ⟨ks,hw,rfl,hlen,htk⟩
   unfold kM
   simp only[iP]
   rcases List.eq_nil_or_concat ks with rfl | ⟨ks',y,rfl⟩
   ·refine .inr ⟨_,by rw[if_neg (by simp)],(fun s' e=>by cases e),_,rfl,?_⟩
    simp[jC]
   ·have hy:=hw y (by simp)
    cases hy with
    | @node t cs h1 h2 =>
     have hfl:jC (ks'++ [.node t cs])=jC (ks'++cs)++ [t]:=by rw[oN,lA,flat,oN,ak]
     rw[List.concat_eq_append,hfl] at hlen htk⊢
     simp only[aj,au,aD] at hlen htk hl⊢
     rw[if_pos (by simp <;> omega)]
     have hpos:IntKind.i64.wrap (((A.length+((jC (ks'++cs)).length+1):Nat):Int) - 1)=((A.length+(jC (ks'++cs)).length:Nat):Int):=by
      rw[bY (by omega) (by omega)];omega
     have hget:nth (A++flat x) ((A.length+(jC (ks'++cs)).length:Nat):Int)=t:=by
      have hlt:A.length+(jC (ks'++cs)).length<(A++flat x).length:=by rw[aj];omega
      have e1:=congrArg (fun l:List Tok=>l[A.length+(jC (ks'++cs)).length]?) htk
      rw[List.getElem?_take_of_lt (by omega),List.getElem?_eq_getElem hlt,<-ak,List.getElem?_append_right (by rw[aj];omega),aj] at e1
      rw[bT hlt]
      simpa using e1
     rw[hpos,ax (by omega) (by simp only[aj];omega),hget];simp only[aa]
     rw[XP,h1];simp only[aa]
     have hcl:(cs.length:Int)<=2:=by rw[<-h1];exact (uw t).2
     have hkl:ks'.length<=(jC (ks'++cs)).length+1000000:=by
      have: ∀l:List (Tr Tok),(∀k,k∈l->WT k)->l.length<=(jC l).length:=by
       intro l
       induction l with
       | nil=>intro _;simp
       | cons k l ih =>
        intro h
        have h1:=(h k (by simp)).pos
        have h2:=ih fun k hk=>h k (by simp[hk])
        rw[jC];simp only[au,aj];omega
      have:=this ks' fun k hk=>hw k (by simp[hk])
      rw[oN,aj];omega
     refine .inl ⟨by omega,_,rfl,ks'++cs,fun k hk=>?_,?_,by omega,?_⟩
     ·rcases aH hk with hk | hk
      ·exact hw k (by simp[hk])
      ·exact h2 k hk
     ·rw[bY (n:=((ks'.length+1:Nat):Int) - 1) (by omega) (by omega),bY (by omega) (by omega)]
      congr 1
      (simp only[aj]) <;> omega
     ·have e1:=congrArg (List.take (A++jC (ks'++cs)).length) htk
      rw[List.take_take,Nat.min_eq_left (by rw[aj];omega),<-ak,List.take_left] at e1
      rw[aj] at e1
      exact e1) ⟨[x],fun k hk=>by (obtain rfl:=al hk;exact hx),by rw[lA];rfl,by rw[lA];omega,by rw[lA,List.take_length]⟩ (ju (by rw[aj] at hl;omega))
  obtain ⟨s',rfl,h2⟩:=hq
  exact ⟨s',eo,[],rfl,h2,trivial⟩
 unfold gH
 rw[af e,q2]
end D
namespace D
open Go.RowKit
instance trInh {α:Type} :Inhabited (Tr α):=⟨.nil⟩
def szX:Tr Tok->Int
 | .nil=>0
 | .node t ks=>min (szL t 1 ks) 100000
where szL (t:Tok) (acc:Int):List (Tr Tok)->Int
 | [] =>acc
 | k::ks=>szL t (acc+(if t.1=7 then (szX k+3)*t.2.2.2 else szX k)) ks
theorem eu {x:Tr Tok} (h:WT x):1<=szX x/\szX x<=100000:=by
 refine WT.ind (p:=fun x=>1<=szX x/\szX x<=100000) ?_ ?_ ?_ h
 ·intro t _
  show 1<=min (1:Int) 100000/\min (1:Int) 100000<=100000
  omega
 ·intro t a e _ ih
  show 1<=min ((1:Int)+(if t.1=7 then (szX a+3)*t.2.2.2 else szX a)) 100000/\min ((1:Int)+(if t.1=7 then (szX a+3)*t.2.2.2 else szX a)) 100000<=100000
  split
  ·rename_i k
   have hr:=yH (show 0<=ar t by omega) k
   have:0<=(szX a+3)*t.2.2.2:=Int.mul_nonneg (by omega) (by omega)
   omega
  ·omega
 ·intro t a b e _ _ iha ihb
  have k:t.1≠7:=by
   rcases kK (show 0<=ar t by omega) with ⟨_,k⟩ | ⟨k,_⟩ | ⟨k,_⟩ <;> omega
  show 1<=min ((1:Int)+(if t.1=7 then (szX a+3)*t.2.2.2 else szX a)+(if t.1=7 then (szX b+3)*t.2.2.2 else szX b)) 100000/\min ((1:Int)+(if t.1=7 then (szX a+3)*t.2.2.2 else szX a)+(if t.1=7 then (szX b+3)*t.2.2.2 else szX b)) 100000<=100000
  rw[if_neg k,if_neg k]
  omega
theorem DO {a h:Int} (h1:1<=a/\a<=100000) (h2:1<=h/\h<=3):IntKind.i64.wrap ((IntKind.i64.wrap (a+3))*h)=(a+3)*h:=by
 rw[bY (n:=a+3) (by omega) (by omega)]
 have k1:0<=(a+3)*h:=Int.mul_nonneg (by omega) (by omega)
 have k2:(a+3)*h<=100003*3:=Int.mul_le_mul (by omega) (by omega) (by omega) (by omega)
 exact bY (by omega) (by omega)
theorem LY {a h:Int} (h1:1<=a/\a<=100000) (h2:1<=h/\h<=3):0<=(a+3)*h/\(a+3)*h<=300009:=by
 have k1:0<=(a+3)*h:=Int.mul_nonneg (by omega) (by omega)
 have k2:(a+3)*h<=100003*3:=Int.mul_le_mul (by omega) (by omega) (by omega) (by omega)
 omega
theorem oO {t:Tok} {ks:List (Tr Tok)} :Tr.get (.node t ks)=some (t,ks):=rfl
theorem vx {f:Tr Tok->Option Int} {t:Tok} {ks:List (Tr Tok)} {i:Nat} {acc:Int} (hi:i<ks.length) (hf:f (nth ks (i:Int))=some (szX (nth ks (i:Int)))) (hw:WT (nth ks (i:Int))) (ht:0<=ar t) (ha:0<=acc/\acc<=1000000) (hik:i<=1000000) :
  bD f (.node t ks) (t,ks) (acc,(i:Int))=some (.nxt (acc+(if t.1=7 then (szX (nth ks (i:Int))+3)*t.2.2.2 else szX (nth ks (i:Int))),((i+1:Nat):Int))):=by
 unfold bD
 simp only[oO]
 have hr:=eu hw
 rw[if_pos (by simp <;> omega),ax (by omega) (by omega)];simp only[aa]
 by_cases k:t.1=7
 ·have h7:=yH ht k
  have hm:=LY hr h7.2
  rw[if_pos (by simpa using k),if_pos k,hf];simp only[aa]
  rw[DO hr h7.2,bY (by omega) (by omega),ai (by omega)]
 ·rw[if_neg (by simpa using k),if_neg k,hf];simp only[aa]
  rw[bY (by omega) (by omega),ai (by omega)]
theorem wS {α:Type} [Inhabited α] {a:α} {l:List α} :nth (a::l) ((0:Nat):Int)=a:=rfl
theorem LZ {α:Type} [Inhabited α] {a b:α} {l:List α} :nth (a::b::l) ((1:Nat):Int)=b:=rfl
theorem Tj {x:Tr Tok} (h:WT x): ∀n,(flat x).length<=n->bP n x=some (szX x):=by
 refine WT.ind (p:=fun x=> ∀n,(flat x).length<=n->bP n x=some (szX x)) ?_ ?_ ?_ h
 ·intro t e n hn
  rw[yI] at hn
  match n,hn with
  | n+1,_ =>
   rw[bP];simp only[oO,aa]
   have hL:ay (bD (bP n) (.node t []) (t,[])) aQ (1,0)=some (.brk (1,0)):=aN (f:=bD (bP n) (.node t []) (t,[])) (fun i=>(1,(i:Int))) 0 (fun i hi=>by omega) (by unfold bD;simp) (by unfold aQ;omega)
   rw[af hL]
   all_goals rfl
 ·intro t a e wa ih n hn
  rw[zG,aj] at hn
  match n,hn with
  | n+1,hn =>
   have hr:=eu wa
   rw[bP];simp only[oO,aa]
   have hL:ay (bD (bP n) (.node t [a]) (t,[a])) aQ (1,0)=some (.brk (szX.szL t 1 [a],1)):=aN (f:=bD (bP n) (.node t [a]) (t,[a])) (fun i=>(szX.szL t 1 ([a].take i),(i:Int))) 1 (fun i hi=>by
    obtain rfl:i=0:=by omega
    exact vx (acc:=1) (i:=0) (by simp) (ih n (by simp at hn;omega)) wa (by omega) (by omega) (by omega)) (by unfold bD;simp) (by unfold aQ;omega)
   rw[af hL]
   all_goals rfl
 ·intro t a b e wa wb iha ihb n hn
  rw[rL,aj,aj] at hn
  match n,hn with
  | n+1,hn =>
   have hra:=eu wa
   have hrb:=eu wb
   have k:t.1≠7:=by
    rcases kK (show 0<=ar t by omega) with ⟨_,k⟩ | ⟨k,_⟩ | ⟨k,_⟩ <;> omega
   rw[bP];simp only[oO,aa]
   have hL:ay (bD (bP n) (.node t [a,b]) (t,[a,b])) aQ (1,0)=some (.brk (szX.szL t 1 [a,b],2)):=aN (f:=bD (bP n) (.node t [a,b]) (t,[a,b])) (fun i=>(szX.szL t 1 ([a,b].take i),(i:Int))) 2 (fun i hi=>by
    have:i=0\/i=1:=by omega
    rcases this with rfl | rfl
    ·exact vx (acc:=1) (i:=0) (by simp) (iha n (by simp at hn;omega)) wa (by omega) (by omega) (by omega)
    ·exact vx (acc:=1+(if t.1=7 then (szX a+3)*t.2.2.2 else szX a)) (i:=1) (by simp) (ihb n (by simp at hn;omega)) wb (by omega) (by rw[if_neg k];omega) (by omega)) (by unfold bD;simp) (by unfold aQ;omega)
   rw[af hL]
   all_goals rfl
theorem jv {A:List Tok} {t:Tok} (h:A.length<=1000000):aP (A++ [t]) (IntKind.i64.wrap (((A++ [t]).length:Int) - 1))=some t/\IntKind.i64.wrap (((A++ [t]).length:Int) - 1)=(A.length:Int):=by
 have e:IntKind.i64.wrap (((A++ [t]).length:Int) - 1)=(A.length:Int):=by
  rw[bY (by simp only[aj,au,aD];omega) (by simp only[aj,au,aD];omega)]
  simp only[aj,au,aD];omega
 refine ⟨?_,e⟩
 rw[e,ax (by omega) (by simp only[aj,au,aD];omega),bT (by simp)]
 simp
theorem XQ {t:Tok} (h:ar t=2):(if t.1==4 then (some (t.1==4)) else (some (t.1==5)):Option Bool)=some true:=by
 rcases kK (show 0<=ar t by omega) with ⟨_,k | k⟩ | ⟨e,_⟩ | ⟨e,_⟩
 ·simp[k]
 ·simp[k]
 ·omega
 ·omega
theorem Pn {t:Tok} (h:ar t=1\/ar t=0):(if t.1==4 then (some (t.1==4)) else (some (t.1==5)):Option Bool)=some false:=by
 rcases kK (show 0<=ar t by omega) with ⟨e,k⟩ | ⟨e,k | k⟩ | ⟨e,k | k | k⟩
 ·omega
 all_goals simp[k]
theorem Vm {t:Tok} (h:ar t=0):(t.1==6)=false/\(t.1==7)=false:=by
 rcases kK (show 0<=ar t by omega) with ⟨e,k⟩ | ⟨e,k | k⟩ | ⟨e,k | k | k⟩
 ·omega
 ·omega
 ·omega
 all_goals simp[k]
theorem L4 {t:Tok} (h:ar t=1):((t.1==6)=true/\t.1=6)\/((t.1==6)=false/\(t.1==7)=true/\t.1=7):=by
 rcases kK (show 0<=ar t by omega) with ⟨e,k⟩ | ⟨e,k | k⟩ | ⟨e,k | k | k⟩
 ·omega
 ·left;simp[k]
 ·right;simp[k]
 all_goals omega
theorem uz {a b:Tr Tok} {t:Tok} (wb:WT b) (hl:((flat a++flat b)++ [t]).length<=1000000) :
  (((flat a++flat b)++ [t]).take ((((flat a++flat b).length:Nat):Int)).toNat)=flat a++flat b /\
  gH (flat a++flat b)=some (((flat a).length:Nat):Int) /\
  (((flat a++flat b)++ [t]).take ((((flat a).length:Nat):Int)).toNat)=flat a /\
  (flat a++flat b).drop ((((flat a).length:Nat):Int)).toNat=flat b:=by
 refine ⟨?_,Ti wb (by simp only[aj,au,aD] at hl⊢;omega),?_,?_⟩
 ·rw[Int.toNat_natCast,List.take_left]
 ·rw[Int.toNat_natCast,ak,List.take_left]
 ·rw[Int.toNat_natCast,List.drop_left]
theorem QN {x:Tr Tok} (h:WT x): ∀n,(flat x).length<=n->(flat x).length<=1000000->dV n (flat x)=some (szX x):=by
 refine WT.ind (p:=fun x=> ∀n,(flat x).length<=n->(flat x).length<=1000000->dV n (flat x)=some (szX x)) ?_ ?_ ?_ h
 ·intro t e n hn hl
  rw[yI] at hn hl⊢
  match n,hn with
  | n+1,_ =>
   have hk:=Vm e
   rw[dV]
   have:=(jv (A:=[]) (t:=t) (by simp)).1
   rw[List.nil_append] at this
   rw[this];simp only[aa]
   rw[Pn (.inr e)];simp only[aa,hk.1,hk.2,Bool.false_eq_true,if_false]
   rfl
 ·intro t a e wa ih n hn hl
  rw[zG] at hn hl⊢
  simp only[aj,au,aD] at hn hl
  match n,hn with
  | n+1,hn =>
   have hr:=eu wa
   rw[dV]
   obtain ⟨l1,l2⟩:=jv (A:=flat a) (t:=t) (by omega)
   rw[l1];simp only[aa]
   rw[Pn (.inl e)];simp only[aa,Bool.false_eq_true,if_false]
   rw[l2,Int.toNat_natCast,List.take_left,ic (by simp only[aj,au,aD];omega)];simp only[aa]
   rw[ih n (by omega) (by omega)];simp only[aa]
   rcases L4 e with ⟨k1,k2⟩ | ⟨k1,k2,k3⟩
   ·rw[if_pos k1,bY (by omega) (by omega)]
    show some (min 100000 (szX a+1))=some (min ((1:Int)+(if t.1=7 then (szX a+3)*t.2.2.2 else szX a)) 100000)
    rw[if_neg (by omega)]
    congr 1;omega
   ·have h7:=yH (show 0<=ar t by omega) k3
    have hm:=LY hr h7.2
    rw[if_neg (by simp[k1]),if_pos k2,DO hr h7.2,bY (by omega) (by omega)]
    show some (min 100000 ((szX a+3)*t.2.2.2+1))=some (min ((1:Int)+(if t.1=7 then (szX a+3)*t.2.2.2 else szX a)) 100000)
    rw[if_pos k3]
    congr 1;omega
 ·intro t a b e wa wb iha ihb n hn hl
  rw[rL] at hn hl⊢
  obtain ⟨p1,p2,p3,p4⟩:=uz (a:=a) (t:=t) wb hl
  simp only[aj,au,aD] at hn hl
  match n,hn with
  | n+1,hn =>
   have hra:=eu wa
   have hrb:=eu wb
   have k:t.1≠7:=by
    rcases kK (show 0<=ar t by omega) with ⟨_,k⟩ | ⟨k,_⟩ | ⟨k,_⟩ <;> omega
   rw[dV]
   obtain ⟨l1,l2⟩:=jv (A:=flat a++flat b) (t:=t) (by rw[aj];omega)
   rw[l1];simp only[aa]
   rw[XQ e];simp only[aa,if_true]
   rw[l2,p1,p2,ic (by simp only[aj,au,aD];omega)];simp only[aa]
   rw[ic (by simp only[aj,au,aD];omega),p3,p4];simp only[aa]
   rw[iha n (by omega) (by omega),ic (by simp only[aj,au,aD];omega)];simp only[aa]
   rw[ihb n (by have:=wa.pos;omega) (by omega)];simp only[aa]
   rw[bY (n:=szX a+szX b) (by omega) (by omega),bY (by omega) (by omega)]
   show some (min 100000 (szX a+szX b+1))=some (min ((1:Int)+(if t.1=7 then (szX a+3)*t.2.2.2 else szX a)+(if t.1=7 then (szX b+3)*t.2.2.2 else szX b)) 100000)
   rw[if_neg k,if_neg k]
   congr 1;omega
def Po:Tr Tok:=.node (2,0,0,0) []
def Ft (x:Tr Tok):Nat->Int->Tr Tok
 | 0,_=>Po
 | h+1,low=>if 0<low then .node (4,0,0,0) [x,Ft x h (max 0 (low - 1))] else .node (5,0,0,0) [.node (4,0,0,0) [x,Ft x h (max 0 (low - 1))],Po]
mutual
def pw:Tr Tok->Tr Tok
 | .nil=>.nil
 | .node t ks=>if t.1=7 then Ft ((Ni ks).headD .nil) t.2.2.2.toNat t.2.2.1 else .node t (Ni ks)
def Ni:List (Tr Tok)->List (Tr Tok)
 | [] =>[]
 | k::ks=>pw k::Ni ks
end
theorem ar4:ar (4,0,0,0)=2:=by decide
theorem ar5:ar (5,0,0,0)=2:=by decide
theorem ar2:ar (2,0,0,0)=0:=by decide
theorem L5:WT Po:=.node ar2 fun k hk=>by cases hk
theorem uA:flat Po= [(2,0,0,0)]:=yI _
theorem WT.two {t:Tok} {a b:Tr Tok} (h:ar t=2) (ha:WT a) (hb:WT b):WT (.node t [a,b]):=.node h fun k hk=>by
 rcases az hk with rfl | hk
 ·exact ha
 ·obtain rfl:=al hk
  exact hb
theorem WT.one {t:Tok} {a:Tr Tok} (h:ar t=1) (ha:WT a):WT (.node t [a]):=.node h fun k hk=>by
 obtain rfl:=al hk
 exact ha
theorem Fu {x:Tr Tok} (hx:WT x): ∀(h:Nat) (low:Int),WT (Ft x h low)
 | 0,_=>L5
 | h+1,low=>by
  rw[Ft]
  split
  ·exact .two ar4 hx (Fu hx h _)
  ·exact .two ar5 (.two ar4 hx (Fu hx h _)) L5
theorem BT (x:Tr Tok): ∀(h:Nat) (low:Int),(flat (Ft x h low)).length<=((flat x).length+3)*h+1
 | 0,_=>by rw[Ft,uA];simp
 | h+1,low=>by
  have ih:=BT x h (max 0 (low - 1))
  rw[Ft]
  split
  ·rw[rL];simp only[aj,au,aD]
   rw[Nat.mul_succ];omega
  ·rw[rL,rL,uA];simp only[aj,au,aD]
   rw[Nat.mul_succ];omega
theorem Wt {t:Tok} {a:Tr Tok} :pw (.node t [a])=if t.1=7 then Ft (pw a) t.2.2.2.toNat t.2.2.1 else .node t [pw a]:=by rw[pw,Ni,Ni];rfl
theorem exp2 {t:Tok} {a b:Tr Tok} (h:t.1≠7):pw (.node t [a,b])= .node t [pw a,pw b]:=by rw[pw,if_neg h,Ni,Ni,Ni]
theorem Wu {t:Tok} (h:t.1≠7):pw (.node t [])= .node t []:=by rw[pw,if_neg h,Ni]
theorem no7 {t:Tok} (h:ar t=2\/ar t=0):t.1≠7:=by
 rcases kK (show 0<=ar t by omega) with ⟨_,k⟩ | ⟨k,_⟩ | ⟨_,k⟩ <;> omega
theorem QO {x:Tr Tok} (h:WT x):WT (pw x):=by
 refine WT.ind (p:=fun x=>WT (pw x)) ?_ ?_ ?_ h
 ·intro t e
  rw[Wu (no7 (.inr e))]
  exact .node e fun k hk=>by cases hk
 ·intro t a e _ ih
  rw[Wt]
  split
  ·exact Fu ih _ _
  ·exact .one e ih
 ·intro t a b e _ _ iha ihb
  rw[exp2 (no7 (.inl e))]
  exact .two e iha ihb
theorem yL {x:Tr Tok} (h:WT x):szX x<100000->((flat (pw x)).length:Int)<=szX x:=by
 refine WT.ind (p:=fun x=>szX x<100000->((flat (pw x)).length:Int)<=szX x) ?_ ?_ ?_ h
 ·intro t e _
  rw[Wu (no7 (.inr e)),yI]
  show (1:Int)<=min 1 100000
  omega
 ·intro t a e wa ih hs
  have hr:=eu wa
  have hs':min ((1:Int)+(if t.1=7 then (szX a+3)*t.2.2.2 else szX a)) 100000<100000:=hs
  show _<=min ((1:Int)+(if t.1=7 then (szX a+3)*t.2.2.2 else szX a)) 100000
  rw[Wt]
  by_cases k:t.1=7
  ·rw[if_pos k] at hs'⊢
   rw[if_pos k]
   have h7:=yH (show 0<=ar t by omega) k
   have hge:szX a+3<=(szX a+3)*t.2.2.2:=by
    have:=Int.mul_le_mul_of_nonneg_left (c:=szX a+3) h7.2.1 (by omega)
    omega
   have h1:=ih (by omega)
   have h2:=BT (pw a) t.2.2.2.toNat t.2.2.1
   have h3:(((flat (pw a)).length+3)*t.2.2.2.toNat:Int)<=(szX a+3)*t.2.2.2:=by
    rw[Int.toNat_of_nonneg (by omega)]
    exact Int.mul_le_mul_of_nonneg_right (by omega) (by omega)
   have h4:((flat (Ft (pw a) t.2.2.2.toNat t.2.2.1)).length:Int)<=(((flat (pw a)).length+3)*t.2.2.2.toNat:Int)+1:=by exact_mod_cast h2
   omega
  ·rw[if_neg k] at hs'⊢
   rw[if_neg k,zG]
   have h1:=ih (by omega)
   simp only[aj,au,aD]
   omega
 ·intro t a b e wa wb iha ihb hs
  have hra:=eu wa
  have hrb:=eu wb
  have k:=no7 (.inl e)
  have hs':min ((1:Int)+(if t.1=7 then (szX a+3)*t.2.2.2 else szX a)+(if t.1=7 then (szX b+3)*t.2.2.2 else szX b)) 100000<100000:=hs
  show _<=min ((1:Int)+(if t.1=7 then (szX a+3)*t.2.2.2 else szX a)+(if t.1=7 then (szX b+3)*t.2.2.2 else szX b)) 100000
  rw[if_neg k,if_neg k] at hs'⊢
  rw[exp2 k,rL]
  have h1:=iha (by omega)
  have h2:=ihb (by omega)
  simp only[aj,au,aD]
  omega
theorem AC {x:Tr Tok} : ∀(h n:Nat) (low:Int),h<n->h<=3->0<=low->low<=3->jH n x low (h:Int)=some (Ft x h low)
 | 0,n+1,low,_,_,_,_=>by
  rw[jH,if_pos (by rfl)];rfl
 | h+1,n+1,low,h1,h2,h3,h4=>by
  rw[jH,if_neg (by simp;omega),bY (n:=low - 1) (by omega) (by omega),bY (n:=((h+1:Nat):Int) - 1) (by omega) (by omega)]
  rw[show ((h+1:Nat):Int) - 1=(h:Int) from by omega,AC h n (max 0 (low - 1)) (by omega) (by omega) (by omega) (by omega)];simp only[aa]
  rw[Ft]
  by_cases c:0<low
  ·rw[if_pos (by simpa using c),if_pos c]
  ·rw[if_neg (by simpa using c),if_neg c];rfl
theorem yM {a b:List Tok} {t:Tok} (h:a.length+b.length<=1000000):dR a b t=some ((a++b)++ [t]):=by
 unfold dR eI
 rw[aI (by simp only[aj,au,aD];omega)];simp only[aa,List.nil_append]
 rw[aI (by omega)];simp only[aa]
 rw[aI (by simp only[aj,au,aD];omega)];rfl
theorem L6 {x:Tr Tok} : ∀(h n:Nat) (low:Int),h<n->h<=3->0<=low->low<=3->(flat x).length<=100000->jF n (flat x) low (h:Int)=some (flat (Ft x h low))
 | 0,n+1,low,_,_,_,_,_=>by
  rw[jF,if_pos (by rfl),Ft,uA];rfl
 | h+1,n+1,low,h1,h2,h3,h4,h5=>by
  rw[jF,if_neg (by simp;omega),bY (n:=low - 1) (by omega) (by omega),bY (n:=((h+1:Nat):Int) - 1) (by omega) (by omega)]
  rw[show ((h+1:Nat):Int) - 1=(h:Int) from by omega,L6 h n (max 0 (low - 1)) (by omega) (by omega) (by omega) (by omega) h5];simp only[aa]
  have hl:=BT x h (max 0 (low - 1))
  have hl3:((flat x).length+3)*h<=100003*3:=Nat.mul_le_mul (by omega) (by omega)
  rw[yM (by omega),Ft];simp only[aa]
  by_cases c:0<low
  ·rw[if_pos (by simpa using c),if_pos c,rL]
  ·rw[if_neg (by simpa using c),if_neg c,rL,rL,uA]
   show (mf 2).bind _=_
   unfold mf;simp only[aa]
   rw[yM (by simp only[aj,au,aD];omega)];rfl
theorem ni:1000000000000<=eE:=by rw[Nx];unfold aQ;omega
theorem Pp {x:Tr Tok} (h:WT x): ∀n,(flat x).length<=n->bw n x=some (pw x):=by
 have hF:=ni
 refine WT.ind (p:=fun x=> ∀n,(flat x).length<=n->bw n x=some (pw x)) ?_ ?_ ?_ h
 ·intro t e n hn
  rw[yI] at hn
  have k:=no7 (.inr e)
  match n,hn with
  | n+1,_ =>
   rw[bw];simp only[oO,aa]
   rw[if_neg (by simpa using k),Wu k]
   have hL:ay (bm (bw n) (t,[])) aQ (0,t.1,t.2.1,t.2.2.1,t.2.2.2,[])=some (.brk (0,t.1,t.2.1,t.2.2.1,t.2.2.2,[])):=aN (f:=bm (bw n) (t,[])) (fun i=>((i:Int),t.1,t.2.1,t.2.2.1,t.2.2.2,Ni (([] :List (Tr Tok)).take i))) 0 (fun i hi=>by omega) (by unfold bm;simp) (by unfold aQ;omega)
   rw[af hL]
   all_goals rfl
 ·intro t a e wa ih n hn
  rw[zG,aj] at hn
  match n,hn with
  | n+1,hn =>
   have ia:=ih n (by simp at hn;omega)
   rw[bw,Wt];simp only[oO,aa]
   rcases L4 e with ⟨k1,k2⟩ | ⟨k1,k2,k3⟩
   ·rw[if_neg (by simp;omega),if_neg (by omega)]
    have hL:ay (bm (bw n) (t,[a])) aQ (0,t.1,t.2.1,t.2.2.1,t.2.2.2,[])=some (.brk (1,t.1,t.2.1,t.2.2.1,t.2.2.2,[pw a])):=aN (f:=bm (bw n) (t,[a])) (fun i=>((i:Int),t.1,t.2.1,t.2.2.1,t.2.2.2,[pw a].take i)) 1 (fun i hi=>by
     obtain rfl:i=0:=by omega
     unfold bm
     simp only
     rw[if_pos (by simp),ax (by omega) (by simp),wS];simp only[aa]
     rw[ia];simp only[aa]
     rw[aI (by simp)];rfl) (by unfold bm;simp) (by unfold aQ;omega)
    rw[af hL]
    all_goals rfl
   ·have h7:=yH (show 0<=ar t by omega) k3
    rw[if_pos k2,if_pos k3,show aP [a] 0=some a from rfl];simp only[aa]
    rw[ia];simp only[aa]
    have:=AC (x:=pw a) t.2.2.2.toNat eE t.2.2.1 (by omega) (by omega) (by omega) (by omega)
    rw[Int.toNat_of_nonneg (by omega)] at this
    rw[this];rfl
 ·intro t a b e wa wb iha ihb n hn
  rw[rL,aj,aj] at hn
  have k:=no7 (.inl e)
  match n,hn with
  | n+1,hn =>
   have ia:=iha n (by simp at hn;omega)
   have ib:=ihb n (by simp at hn;omega)
   rw[bw,exp2 k];simp only[oO,aa]
   rw[if_neg (by simpa using k)]
   have hL:ay (bm (bw n) (t,[a,b])) aQ (0,t.1,t.2.1,t.2.2.1,t.2.2.2,[])=some (.brk (2,t.1,t.2.1,t.2.2.1,t.2.2.2,[pw a,pw b])):=aN (f:=bm (bw n) (t,[a,b])) (fun i=>((i:Int),t.1,t.2.1,t.2.2.1,t.2.2.2,[pw a,pw b].take i)) 2 (fun i hi=>by
    have:i=0\/i=1:=by omega
    rcases this with rfl | rfl
    ·unfold bm
     simp only
     rw[if_pos (by simp),ax (by omega) (by simp),wS];simp only[aa]
     rw[ia];simp only[aa]
     rw[aI (by simp)];rfl
    ·unfold bm
     simp only
     rw[if_pos (by simp),ax (by omega) (by simp),LZ];simp only[aa]
     rw[ib];simp only[aa]
     rw[aI (by simp)];rfl) (by unfold bm;simp) (by unfold aQ;omega)
   rw[af hL]
   all_goals rfl
theorem L7 {x:Tr Tok} (h:WT x): ∀n out,(flat x).length<=n->out.length+(flat x).length<=1000000->bq n x out=some (out++flat x):=by
 refine WT.ind (p:=fun x=> ∀n out,(flat x).length<=n->out.length+(flat x).length<=1000000->bq n x out=some (out++flat x)) ?_ ?_ ?_ h
 ·intro t e n out hn hl
  rw[yI] at hn hl⊢
  simp only[au,aD] at hl
  match n,hn with
  | n+1,_ =>
   rw[bq];simp only[oO,aa]
   have hL:ay (bf (bq n) (t,[])) aQ (0,out)=some (.brk (0,out)):=aN (f:=bf (bq n) (t,[])) (fun i=>((i:Int),out)) 0 (fun i hi=>by omega) (by unfold bf;simp) (by unfold aQ;omega)
   rw[af hL]
   simp only
   rw[aI (by simp;omega)];rfl
 ·intro t a e wa ih n out hn hl
  rw[zG] at hn hl⊢
  simp only[aj,au,aD] at hn hl
  match n,hn with
  | n+1,hn =>
   rw[bq];simp only[oO,aa]
   have hL:ay (bf (bq n) (t,[a])) aQ (0,out)=some (.brk (1,out++flat a)):=aN (f:=bf (bq n) (t,[a])) (fun i=>((i:Int),if i=0 then out else out++flat a)) 1 (fun i hi=>by
    obtain rfl:i=0:=by omega
    unfold bf
    simp only
    rw[if_pos (by simp),ax (by omega) (by simp),wS];simp only[aa,if_true]
    rw[ih n _ (by omega) (by omega)];rfl) (by unfold bf;simp) (by unfold aQ;omega)
   rw[af hL]
   simp only
   rw[aI (by simp;omega)];simp
 ·intro t a b e wa wb iha ihb n out hn hl
  rw[rL] at hn hl⊢
  simp only[aj,au,aD] at hn hl
  match n,hn with
  | n+1,hn =>
   rw[bq];simp only[oO,aa]
   have hL:ay (bf (bq n) (t,[a,b])) aQ (0,out)=some (.brk (2,(out++flat a)++flat b)):=aN (f:=bf (bq n) (t,[a,b])) (fun i=>((i:Int),if i=0 then out else if i=1 then out++flat a else (out++flat a)++flat b)) 2 (fun i hi=>by
    have:i=0\/i=1:=by omega
    rcases this with rfl | rfl
    ·unfold bf
     simp only
     rw[if_pos (by simp),ax (by omega) (by simp),wS];simp only[aa,if_true]
     rw[iha n _ (by omega) (by omega)];rfl
    ·unfold bf
     simp only
     rw[if_pos (by simp),ax (by omega) (by simp),LZ];simp only[aa,if_true]
     rw[ihb n _ (by omega) (by simp;omega)];rfl) (by unfold bf;simp) (by unfold aQ;omega)
   rw[af hL]
   simp only
   rw[aI (by simp;omega)];simp
theorem Hf {x:Tr Tok} (h:WT x): ∀n,(flat x).length<=n->(flat x).length<=1000000->szX x<=50000->cQ n (flat x)=some (flat (pw x)):=by
 have hF:=ni
 refine WT.ind (p:=fun x=> ∀n,(flat x).length<=n->(flat x).length<=1000000->szX x<=50000->cQ n (flat x)=some (flat (pw x))) ?_ ?_ ?_ h
 ·intro t e n hn hl hs
  rw[yI] at hn hl⊢
  match n,hn with
  | n+1,_ =>
   have hk:=Vm e
   rw[cQ]
   have:=(jv (A:=[]) (t:=t) (by simp)).1
   rw[List.nil_append] at this
   rw[this];simp only[aa]
   rw[Pn (.inr e)];simp only[aa,hk.1,hk.2,Bool.false_eq_true,if_false]
   rw[Wu (no7 (.inr e)),yI]
 ·intro t a e wa ih n hn hl hs
  have hs':min ((1:Int)+(if t.1=7 then (szX a+3)*t.2.2.2 else szX a)) 100000<=50000:=hs
  rw[zG] at hn hl⊢
  simp only[aj,au,aD] at hn hl
  match n,hn with
  | n+1,hn =>
   have hr:=eu wa
   have hsa:szX a<=50000:=by
    by_cases k:t.1=7
    ·rw[if_pos k] at hs'
     have h7:=yH (show 0<=ar t by omega) k
     have hge:szX a+3<=(szX a+3)*t.2.2.2:=by
      have:=Int.mul_le_mul_of_nonneg_left (c:=szX a+3) h7.2.1 (by omega)
      omega
     omega
    ·rw[if_neg k] at hs';omega
   have hla:=yL wa (by omega)
   rw[cQ]
   obtain ⟨l1,l2⟩:=jv (A:=flat a) (t:=t) (by omega)
   rw[l1];simp only[aa]
   rw[Pn (.inl e)];simp only[aa,Bool.false_eq_true,if_false]
   rw[l2,Int.toNat_natCast,List.take_left,ic (by simp only[aj,au,aD];omega)];simp only[aa]
   rw[ih n (by omega) (by omega) hsa,Wt];simp only[aa]
   rcases L4 e with ⟨k1,k2⟩ | ⟨k1,k2,k3⟩
   ·rw[if_pos k1,if_neg (by omega),yM (by simp;omega),zG];simp
   ·have h7:=yH (show 0<=ar t by omega) k3
    rw[if_neg (by simp[k1]),if_pos k2,if_pos k3]
    have:=L6 (x:=pw a) t.2.2.2.toNat eE t.2.2.1 (by omega) (by omega) (by omega) (by omega) (by omega)
    rw[Int.toNat_of_nonneg (by omega)] at this
    rw[this];rfl
 ·intro t a b e wa wb iha ihb n hn hl hs
  have k:=no7 (.inl e)
  have hs':min ((1:Int)+(if t.1=7 then (szX a+3)*t.2.2.2 else szX a)+(if t.1=7 then (szX b+3)*t.2.2.2 else szX b)) 100000<=50000:=hs
  rw[if_neg k,if_neg k] at hs'
  rw[rL] at hn hl⊢
  obtain ⟨p1,p2,p3,p4⟩:=uz (a:=a) (t:=t) wb hl
  simp only[aj,au,aD] at hn hl
  match n,hn with
  | n+1,hn =>
   have hra:=eu wa
   have hrb:=eu wb
   have hla:=yL wa (by omega)
   have hlb:=yL wb (by omega)
   rw[cQ]
   obtain ⟨l1,l2⟩:=jv (A:=flat a++flat b) (t:=t) (by rw[aj];omega)
   rw[l1];simp only[aa]
   rw[XQ e];simp only[aa,if_true]
   rw[l2,p1,p2,ic (by simp only[aj,au,aD];omega)];simp only[aa]
   rw[ic (by simp only[aj,au,aD];omega),p3,p4];simp only[aa]
   rw[iha n (by omega) (by omega) (by omega),ic (by simp only[aj,au,aD];omega)];simp only[aa]
   rw[ihb n (by have:=wa.pos;omega) (by omega) (by omega)];simp only[aa]
   rw[yM (by omega),exp2 k,rL];rfl
def zf (e:List Tok):List Tok×Bool:=
 if decide (e.length<=24)&&isX e then (if 5000<szX (wB e) then ([],false) else (if 400<(flat (pw (wB e))).length then ([],false) else (flat (pw (wB e)),true))) else ([],false)
theorem Fv {e:List Tok} (he:e.length<=1048576):gj e=some (zf e)/\kS e=some (zf e):=by
 have hF:=ni
 unfold gj kS zf
 rw[yK he,Fs he];simp only[aa]
 by_cases c:(decide (e.length<=24)&&isX e)=true
 ·rw[if_pos c,if_pos c,if_pos c,BS he];simp only[aa]
  rw[ah] at c
  obtain ⟨x,h1,hw,rfl⟩:=He c.2
  have h24:(flat x).length<=24:=by simpa using c.1
  have hr:=eu hw
  rw[ry hw,QN hw eE (by omega) (by omega),Tj hw eE (by omega)];simp only[aa]
  by_cases c2:5000<szX x
  ·have c2':decide (szX x>5000)=true:=by simpa using c2
   simp only[gt_iff_lt,c2,decide_true,if_true,and_self]
  ·have c2':decide (szX x>5000)=false:=by simpa using c2
   simp only[gt_iff_lt,c2,decide_false,if_false,Bool.false_eq_true]
   have hl:=yL hw (by omega)
   rw[Hf hw eE (by omega) (by omega) (by omega),Pp hw eE (by omega)];simp only[aa]
   unfold pe
   rw[L7 (QO hw) eE [] (by omega) (by simp;omega)];simp only[aa,List.nil_append]
   by_cases c3:400<(flat (pw x)).length
   ·have c3':decide (((flat (pw x)).length:Int)>400)=true:=decide_eq_true (by omega)
    simp only[c3',c3,decide_true,if_true,and_self]
   ·have c3':decide (((flat (pw x)).length:Int)>400)=false:=decide_eq_false (by omega)
    simp only[c3',c3,decide_false,if_false,Bool.false_eq_true,and_self]
 ·rw[if_neg c,if_neg c,if_neg c];exact ⟨rfl,rfl⟩
theorem L8 {e:List Tok} (h:(zf e).2=true): ∃y,WT y/\(zf e).1=flat y/\(flat y).length<=400:=by
 unfold zf at h⊢
 split at h
 ·rename_i c
  rw[if_pos c]
  rw[ah] at c
  obtain ⟨x,h1,hw,rfl⟩:=He c.2
  rw[ry hw] at h⊢
  split at h
  ·cases h
  ·rename_i c2
   rw[if_neg c2]
   split at h
   ·cases h
   ·rename_i c3
    rw[if_neg c3]
    exact ⟨_,QO hw,rfl,by omega⟩
 ·cases h
end D
namespace D
open Go.RowKit
def L9 (out:List Bool) (t:Int):Bool:=decide (t≥0)&&nth out t
def hit (out:List Bool) (row:List Int):Bool:=row.any (L9 out)
def wg (a:AutT) (out:List Bool) (s:Nat):List Bool:=if hit out (nth a.2.2 s) then out.set s true else out
def jP (a:AutT) (out:List Bool):Nat->List Bool
 | 0=>out
 | s+1=>wg a (jP a out s) s
def cnt (out:List Bool):Nat:=out.count true
theorem Vn (out:List Bool):cnt out<=out.length:=List.count_le_length
theorem Hg {out:List Bool} {s:Nat} (h:s<out.length) (k:out[s] =true):out.set s true=out:=by
 refine List.ext_getElem (by simp) fun i h1 h2=>?_
 rw[List.getElem_set]
 split
 ·rename_i e;subst e;exact k.symm
 ·rfl
theorem Tk {out:List Bool} {s:Nat} (h:s<out.length) (k:out[s] =false):cnt (out.set s true)=cnt out+1:=by
 unfold cnt
 rw[List.count_set h];simp[k]
section
variable {a:AutT} {n:Nat}
theorem BU (a:AutT) (out:List Bool) (s:Nat):(wg a out s).length=out.length:=by unfold wg;split <;> simp
theorem ko (a:AutT) (out:List Bool): ∀s,(jP a out s).length=out.length
 | 0=>rfl
 | s+1=>by rw[jP,BU,ko a out s]
theorem wh {out:List Bool} {s:Nat} (h:s<out.length):(wg a out s=out/\ ¬(hit out (nth a.2.2 s)=true/\nth out s=false))\/(cnt (wg a out s)=cnt out+1/\hit out (nth a.2.2 s)=true/\nth out s=false):=by
 unfold wg
 rw[bT h]
 cases hh:hit out (nth a.2.2 s) with
 | false=>exact .inl ⟨by simp,by simp⟩
 | true =>
  cases hk:out[s] with
  | true=>exact .inl ⟨by simp[Hg h hk],by simp⟩
  | false=>exact .inr ⟨by simp[Tk h hk],rfl,rfl⟩
theorem vy {out:List Bool} : ∀s,s<=out.length->(jP a out s=out/\cnt (jP a out s)=cnt out)\/cnt out<cnt (jP a out s)
 | 0,_=>.inl ⟨rfl,rfl⟩
 | s+1,hs=>by
  have hl:s<(jP a out s).length:=by rw[ko];omega
  have ih:=vy (out:=out) s (by omega)
  rw[jP]
  rcases wh (a:=a) hl with ⟨e,-⟩ | ⟨e,-,-⟩
  ·rw[e];exact ih
  ·rcases ih with ⟨-,h2⟩ | h
   ·exact .inr (by omega)
   ·exact .inr (by omega)
def it (a:AutT):Nat->List Bool
 | 0=>a.2.1
 | j+1=>jP a (it a j) a.2.1.length
theorem oP (a:AutT): ∀j,(it a j).length=a.2.1.length
 | 0=>rfl
 | j+1=>by rw[it,ko,oP a j]
theorem QP (a:AutT) (j:Nat):cnt (it a j)<=a.2.1.length:=by rw[<-oP a j];exact Vn _
theorem Fw (a:AutT) (j:Nat):(it a (j+1)=it a j)\/cnt (it a j)<cnt (it a (j+1)):=by
 rcases vy (a:=a) (out:=it a j) a.2.1.length (by rw[oP];exact aC _) with h | h
 ·exact .inl h.1
 ·exact .inr h
theorem QQ {j k:Nat} (h:it a (j+1)=it a j) (hk:j<=k):it a k=it a j:=by
 induction hk with
 | refl=>rfl
 | step _ ih=>rw[it,ih];exact h
theorem Ma {j k:Nat} (h:it a (j+1)=it a j) (h':it a (k+1)=it a k):it a j=it a k:=by
 rcases Nat.le_total j k with e | e
 ·exact (QQ h e).symm
 ·exact QQ h' e
theorem Tl (a : AutT) : it a (a.2.1.length + 1) = it a a.2.1.length := by
  have key : ∀ j, it a (j + 1) = it a j \/ j + 1 <= cnt (it a (j + 1)) := by
    intro j
    induction j with
    | zero => rcases Fw a 0 with h | h
              · exact .inl h
              · exact .inr (by omega)
    | succ j ih =>
      rcases Fw a (j + 1) with h | h
      · exact .inl h
      · rcases ih with h' | h'
        · left; rw [it, h']; exact h'
        · exact .inr (by omega)
  rcases key a.2.1.length with h | h
  · exact h
  · have := QP a (a.2.1.length + 1); omega
def live (a:AutT):List Bool:=it a a.2.1.length
theorem tc (a:AutT):(live a).length=a.2.1.length:=oP a _
theorem Hh {α:Type} [Inhabited α] {row:List α} {p:α->Bool} {k:Nat} (h:k<row.length):(row.take (k+1)).any p=((row.take k).any p || p (nth row (k:Int))):=by
 rw[List.take_succ_eq_append_getElem h,List.any_append,bT h];simp
section
variable (V:VA a n) (hn:n<=1000000)
include V hn
theorem Mb {out:List Bool} {s:Nat} (hs:s<n) (hl:out.length=n):ay (iZ a (out,(s:Int))) aQ (out,0)=some (.brk (wg a out s,9)):=by
 have hr:=V.rowAt (s:=s) (by omega) (by omega)
 have hls:s<out.length:=by omega
 have:=aN (f:=iZ a (out,(s:Int))) (fun k=>(if ((nth a.2.2 (s:Int)).take k).any (L9 out) then out.set s true else out,(k:Int))) 9 (fun k hk=>by
  unfold iZ
  simp only
  rw[if_pos (by simp;omega),V.get (by omega) (by omega)];simp only[aa]
  rw[V.get2 (by omega) (by omega) hk];simp only[aa]
  rw[Hh (by omega),show nth (nth a.2.2 (s:Int)) (k:Int)=mv a s k from rfl]
  simp only[ai (show k<9223372036854775807 by omega)]
  by_cases c:mv a s k≥0
  ·have hset:(out.set s true).length=n:=by simp[hl]
   have hm:=(V.mv (s:=s) (k:=k) (by omega) (by omega) hk).2
   rw[if_pos (by simpa using c)]
   by_cases q:((nth a.2.2 (s:Int)).take k).any (L9 out)=true
   ·simp only[q,if_true,Bool.true_or]
    rw[ax c (by rw[hset];exact hm),ax (by omega) (by rw[hset];omega)];simp only[aa,Int.toNat_natCast]
    split <;> simp
   ·simp only[q,Bool.false_eq_true,if_false,Bool.false_or,L9]
    rw[ax c (by rw[hl];exact hm),ax (by omega) (by rw[hl];omega)];simp only[aa,Int.toNat_natCast]
    cases hc:nth out (mv a s k) <;> simp[hc,c]
  ·rw[if_neg (by simpa using c)]
   simp[L9,c]) (by unfold iZ;simp) (by unfold aQ;omega)
 have e9:(nth a.2.2 (s:Int)).take 9=nth a.2.2 (s:Int):=List.take_of_length_le (by omega)
 rw[e9] at this
 exact this
theorem DP {out:List Bool} (hl:out.length=n):ay (ja a) aQ (out,0)=some (.brk (jP a out n,(n:Int))):=by
 have hlen:=V.len
 refine aN (f:=ja a) (fun s=>(jP a out s,(s:Int))) n (fun s hs=>?_) ?_ (ju (by omega))
 ·unfold ja
  simp only
  rw[if_pos (by simp;omega),af (Mb V hn hs (by rw[ko];exact hl)),ai (by omega)]
  rfl
 ·unfold ja
  simp only
  rw[if_neg (by simp;omega)]
theorem QR:kA a=some (live a):=by
 have hlen:=V.len
 unfold kA
 rw[aI (by simp;omega)];simp only[aa,List.nil_append]
 have:=aN (f:=kO a) (fun j=>(it a j,(j:Int))) n (fun j hj=>by
  unfold kO
  simp only
  rw[if_pos (by simp;omega),af (DP V hn (by rw[oP];exact hlen)),ai (by omega),it,hlen]) (by
  unfold kO
  simp only
  rw[if_neg (by simp;omega)]) (ju (by omega))
 exact (af this).trans (by simp[live,hlen])
theorem Mc {out:List Bool} {g:Bool} {s:Nat} (hs:s<n) (hl:out.length=n):ay (dw (g,(s:Int),out) (nth a.2.2 (s:Int))) aQ (g,0,out)=some (.brk (g || (hit out (nth a.2.2 (s:Int)) && !nth out (s:Int)),9,wg a out s)):=by
 have hr:=V.rowAt (s:=s) (by omega) (by omega)
 have hls:s<out.length:=by omega
 have:=aN (f:=dw (g,(s:Int),out) (nth a.2.2 (s:Int))) (fun k=>(g || (((nth a.2.2 (s:Int)).take k).any (L9 out) && !nth out (s:Int)),(k:Int),if ((nth a.2.2 (s:Int)).take k).any (L9 out) then out.set s true else out)) 9 (fun k hk=>by
  unfold dw
  simp only
  rw[if_pos (by simp[hr];omega),V.get2 (by omega) (by omega) hk];simp only[aa]
  rw[Hh (by omega),show nth (nth a.2.2 (s:Int)) (k:Int)=mv a s k from rfl]
  simp only[ai (show k<9223372036854775807 by omega)]
  by_cases c:mv a s k≥0
  ·have hset:(out.set s true).length=n:=by simp[hl]
   have hm:=(V.mv (s:=s) (k:=k) (by omega) (by omega) hk).2
   rw[if_pos (by simpa using c)]
   by_cases q:((nth a.2.2 (s:Int)).take k).any (L9 out)=true
   ·simp only[q,if_true,Bool.true_or]
    have hself:nth (out.set s true) (s:Int)=true:=by
     have:=hZ (xs:=out) (i:=(s:Int)) (x:=true) (by omega) (by omega)
     simpa using this
    rw[ax c (by rw[hset];exact hm),ax (by omega) (by rw[hset];omega)];simp only[aa,Int.toNat_natCast,hself,if_true]
    split <;> simp
   ·simp only[q,Bool.false_eq_true,if_false,Bool.false_or,L9,Bool.false_and,Bool.or_false]
    rw[ax c (by rw[hl];exact hm),ax (by omega) (by rw[hl];omega)];simp only[aa,Int.toNat_natCast]
    cases hc:nth out (mv a s k) with
    | false=>simp[c]
    | true =>
     cases hd:nth out (s:Int) with
     | false=>simp[c]
     | true =>
      rw[bT hls] at hd
      simp[c,Hg hls hd]
  ·rw[if_neg (by simpa using c)]
   simp[L9,c]) (by unfold dw;simp[hr]) (by unfold aQ;omega)
 have e9:(nth a.2.2 (s:Int)).take 9=nth a.2.2 (s:Int):=List.take_of_length_le (by omega)
 rw[e9] at this
 have e0:(g || (((nth a.2.2 (s:Int)).take 0).any (L9 out) && !nth out (s:Int)))=g:=by simp
 rw[e0] at this
 exact this
theorem DQ {out:List Bool} (hl:out.length=n): ∃g,ay (dx a) aQ (false,0,out)=some (.brk (g,(n:Int),jP a out n))/\(g=true↔cnt out<cnt (jP a out n)):=by
 have hlen:=V.len
 have hnl:=V.nlen
 obtain ⟨s',e,⟨g,rfl,hg⟩⟩:=db (f:=dx a) (fun s st=> ∃g,st=(g,(s:Int),jP a out s)/\(g=true↔cnt out<cnt (jP a out s))) n (by
  rintro s st hs ⟨g,rfl,hg⟩
  have hpl:(jP a out s).length=n:=by rw[ko];exact hl
  unfold dx
  simp only
  rw[if_pos (by simp;omega),V.get (by omega) (by omega)];simp only[aa]
  rw[af (Mc V hn hs hpl),ai (by omega)]
  refine ⟨_,rfl,_,rfl,?_⟩
  rw[Bool.or_eq_true,ah,Bool.not_eq_true',hg,jP]
  have hc:=vy (a:=a) (out:=out) s (by omega)
  rcases wh (a:=a) (out:=jP a out s) (s:=s) (by omega) with ⟨e,k⟩ | ⟨e,k⟩
  ·rw[e];exact ⟨fun h=>h.elim id fun h=>absurd h k,.inl⟩
  ·rw[e]
   exact ⟨fun _=>by rcases hc with ⟨-,h⟩ | h <;> omega,fun _=>.inr k⟩) (by
  rintro s ⟨g,rfl,hg⟩
  unfold dx
  simp only
  rw[if_neg (by simp;omega)]) ⟨false,rfl,by simp[jP]⟩ (ju (by omega))
 exact ⟨g,e,hg⟩
theorem Vo:eQ a=some (live a):=by
 have hlen:=V.len
 unfold eQ
 rw[aI (by simp;omega)];simp only[aa,List.nil_append]
 obtain ⟨o,e,i,rfl,hi⟩:=bX (f:=gL a) (fun i s=> ∃b,s=(b,it a i)/\(b=true->i<=cnt (it a i))/\(b=false->it a (i+1)=it a i)) (fun o=> ∃i,o= .brk (false,it a i)/\it a (i+1)=it a i) (n+1) (s:=(true,a.2.1)) (by
  rintro i s hi ⟨b,rfl,h1,h2⟩
  unfold gL
  simp only
  cases b with
  | false=>exact .inr ⟨_,by rw[if_neg (by simp)],(fun s' e=>by cases e),i,rfl,h2 rfl⟩
  | true =>
   have hc:=QP a i
   have h1:=h1 rfl
   obtain ⟨g,e,hg⟩:=DQ V hn (out:=it a i) (by rw[oP];exact hlen)
   have ee:jP a (it a i) n=it a (i+1):=by rw[it,hlen]
   rw[ee] at e hg
   refine .inl ⟨by omega,(g,it a (i+1)),by rw[if_pos rfl,af e],g,rfl,fun h=>?_,fun h=>?_⟩
   ·have:=hg.1 h;omega
   ·have hs:it a (i+1)=it a i:=by
     rcases Fw a i with h' | h'
     ·exact h'
     ·rw[<-hg,h] at h';cases h'
    rw[it,hs];exact hs) ⟨true,rfl,fun _=>Nat.zero_le _,fun h=>by cases h⟩ (ju (by omega))
 rw[af e]
 have:=Ma hi (Tl a)
 simp[live,this]
end
end
end D
namespace D
open Go.RowKit
def nothing:AutT:=(0,[false],[[-1,-1,-1,-1,-1,-1,-1,-1,-1]])
theorem Md:nU=some nothing:=by kernel_rfl
theorem Me:sI=some nothing:=by kernel_rfl
theorem Mf {n:Nat} (h:n<=1000000):iOk (n:Int)=true:=by
 have h1:IntKind.i64.min= -9223372036854775808:=by decide
 have h2:IntKind.i64.max=9223372036854775807:=by decide
 simp only[iOk,Lit.wf,h1,h2,ah,decide_eq_true_eq]
 omega
theorem take_one {α:Type} [Inhabited α] {xs:List α} {k:Nat} (h:k<xs.length):xs.take (k+1)=xs.take k++ [nth xs (k:Int)]:=by
 rw[List.take_succ_eq_append_getElem h,bT h]
theorem iM {α:Type} [Inhabited α] {xs ys:List α} (h:xs <+:ys) {i:Int} (h0:0<=i) (h1:i<xs.length):nth ys i=nth xs i:=by
 obtain ⟨t,rfl⟩:=h
 exact hY h0 h1
structure NumOk {κ:Type} [DecidableEq κ] (nx:κ->List (Option κ)) (first:κ) (G:κ->Prop) (B:Nat):Prop where
 g0:G first
 gn: ∀x,G x-> ∀y,some y∈nx x->G y
 len: ∀x,G x->(nx x).length=9
 bound: ∀l:List κ,l.Nodup->(∀x∈l,G x)->l.length<=B
section
variable {κ:Type} [DecidableEq κ] [Inhabited κ] {nx:κ->List (Option κ)} {first:κ} {G:κ->Prop} {B:Nat}
theorem NumOk.le (H:NumOk nx first G B) (i:Nat):(bfS nx first i).length<=B:=H.bound _ (km i) (iK H.g0 H.gn i)
theorem NumOk.at (H:NumOk nx first G B) {i:Nat} (h:i<(bfS nx first i).length):G (nth (bfS nx first i) (i:Int)):=iK H.g0 H.gn i _ (bg (by omega) (by omega))
theorem ig {i:Nat} (h:i<(bfS nx first i).length):bfS nx first (i+1)=nbS (bfS nx first i) (nx (nth (bfS nx first i) (i:Int))):=by rw[wQ h,bT h]
theorem uB {i:Nat} (h:i<(bfS nx first i).length):bfR nx first (i+1)=bfR nx first i++ [nbR (bfS nx first i) (nx (nth (bfS nx first i) (i:Int)))]:=by rw[rv h,bT h]
theorem rz {β:Type} {acc:κ->β} {i:Nat} (h:i<(bfS nx first i).length):((bfS nx first (i+1)).take (i+1)).map acc=((bfS nx first i).take i).map acc++ [acc (nth (bfS nx first i) (i:Int))]:=by
 have hp:=bH (nx:=nx) (first:=first) i
 have hl:=hp.length_le
 have e:(bfS nx first (i+1)).take i=(bfS nx first i).take i:=by
  obtain ⟨t,ht⟩:=hp
  rw[<-ht,List.take_append_of_le_length (by omega)]
 rw[take_one (by omega),aJ,e,iM hp (by omega) (by omega)];rfl
def MapOf (M:List (κ×Int)) (l:List κ):Prop:=M.length=l.length/\ ∀x,M.lookup x=if x∈l then some (l.idxOf x:Int) else none
theorem MapOf.one (x:κ):MapOf [(x,0)] [x]:=by
 refine ⟨rfl,fun y=>?_⟩
 rw[List.lookup_cons]
 by_cases e:y=x
 ·subst e;simp
 ·simp only[show (y==x)=false from by simp[e]];simp[e]
theorem MapOf.put {M:List (κ×Int)} {l:List κ} (h:MapOf M l) {x:κ} (hx:x∉l):MapOf ((x,(l.length:Int))::M) (l++ [x]):=by
 refine ⟨by simp[h.1],fun y=>?_⟩
 rw[List.lookup_cons]
 by_cases e:y=x
 ·subst e
  simp[List.idxOf_append,hx]
 ·simp only[show (y==x)=false from by simp[e],h.2 y,List.mem_append,List.mem_singleton,e,or_false]
  by_cases k:y∈l
  ·simp[k,List.idxOf_append]
  ·simp[k]
end
section
variable {nx:Int->List (Option Int)} {first:Int} {G:Int->Prop} {B:Nat}
theorem DR {p3:Int->Int->Option (Int×Bool)} {l:List Int} {M:List (Int×Int)} {os:List (Option Int)} {acs:List Bool} {rws:List (List Int)} {i:Nat}
  (hi:i<l.length) (hos:os.length=9) (hM:MapOf M l) (hok: ∀y,some y∈os->iOk y=true) (hB: ∀k,(nbS l (os.take k)).length<=1000000)
  (hp: ∀(k:Nat) (hk:k<9),∃j,p3 (nth l (i:Int)) (k:Int)=some (match nth os (k:Int) with | some y=>(y,true) | none=>(j,false))) :
  ∃M',ay (dW p3 (l,M,(i:Int),0,acs,rws)) aQ (l,M,[],0)=some (.brk (nbS l os,M',nbR l os,9))/\MapOf M' (nbS l os):=by
 obtain ⟨s',e,M',rfl,hM'⟩:=db (f:=dW p3 (l,M,(i:Int),0,acs,rws)) (fun k s=> ∃M',s=(nbS l (os.take k),M',nbR l (os.take k),(k:Int))/\MapOf M' (nbS l (os.take k))) 9 (by
  rintro k s hk ⟨M1,rfl,hM1⟩
  have hpre:=iJ l (os.take k)
  have hlen:=hpre.length_le
  have hBk:=hB k
  obtain ⟨j,hj⟩:=hp k hk
  have hrl:(nbR l (os.take k)).length<=9:=by rw[eN,aE];omega
  unfold dW
  simp only
  rw[if_pos (by simp;omega),ax (by omega) (by omega)];simp only[aa]
  rw[iM hpre (by omega) (by omega),hj,take_one (by omega),pv,ru]
  simp only[aa,ai (show k<9223372036854775807 by omega)]
  cases ho:nth os (k:Int) with
  | none =>
   simp only[Bool.false_eq_true,if_false]
   rw[aI (by simp;omega)]
   exact ⟨_,rfl,M1,rfl,hM1⟩
  | some y =>
   have hy:iOk y=true:=hok y (ho ▸ bg (by omega) (by omega))
   simp only[if_true]
   rw[show chk (iOk y=true)=some () from by unfold chk;rw[if_pos hy]];simp only[aa]
   rw[show lkM M1 y=_ from hM1.2 y]
   by_cases c:y∈nbS l (os.take k)
   ·simp only[c,if_true,Option.isSome_some,Option.getD_some,aa]
    rw[aI (by simp;omega)]
    exact ⟨_,rfl,M1,by rw[jB c];rfl,by rw[jB c];exact hM1⟩
   ·have hput:Cp M1 iOk iOk y ((nbS l (os.take k)).length:Int)=some ((y,((nbS l (os.take k)).length:Int))::M1):=by
     unfold Cp
     rw[if_pos ⟨by have:=hM1.1;omega,hy,Mf hBk⟩]
    simp only[c,if_false,Option.isSome_none,Bool.false_eq_true,hput,aa]
    rw[aI (by simp;omega)];simp only[aa]
    rw[aI (by simp;omega)]
    refine ⟨_,rfl,(y,((nbS l (os.take k)).length:Int))::M1,?_,?_⟩
    ·rw[iS c];simp only[nbI,oM c]
    ·rw[iS c];exact hM1.put c) (by
  rintro s ⟨M1,rfl,hM1⟩
  unfold dW
  simp) (s:=(l,M,[],0)) ⟨M,rfl,hM⟩ (by unfold aQ;omega)
 rw[List.take_of_length_le (by omega)] at e hM'
 exact ⟨M',e,hM'⟩
theorem Vp {most:Int} {p2:Int->Option Bool} {p3:Int->Int->Option (Int×Bool)} {acc:Int->Bool} (H:NumOk nx first G B) (hB:B<=1000000) (hmost:(B:Int)<=most) (hok: ∀x,G x->iOk x=true)
  (h2: ∀x,G x->p2 x=some (acc x)) (h3: ∀x (k:Nat),G x->k<9-> ∃j,p3 x (k:Int)=some (match nth (nx x) (k:Int) with | some y=>(y,true) | none=>(j,false))) :
  ∃N,bfE nx first N/\eJ first most p2 p3=some ((0,(bfS nx first N).map acc,bfR nx first N),true):=by
 obtain ⟨N,hNB,hN⟩:=Hb (nx:=nx) (first:=first) (H.le)
 refine ⟨N,hN,?_⟩
 unfold eJ
 rw[show Cp ([] :List (Int×Int)) iOk iOk first 0=some [(first,0)] from by unfold Cp;rw[if_pos ⟨by simp,hok _ H.g0,by decide⟩]];simp only[aa]
 obtain ⟨s',e,M',rfl,hM'⟩:=db (f:=cd most p2 p3) (fun i s=> ∃M,s=(bfS nx first i,M,(i:Int),0,((bfS nx first i).take i).map acc,bfR nx first i)/\MapOf M (bfS nx first i)) N (by
  rintro i s hi ⟨M,rfl,hM⟩
  have hlt:=hN.2 i hi
  have hG:=H.at hlt
  have hle:=H.le i
  have hle':=H.le (i+1)
  obtain ⟨M',e,hM'⟩:=DR (p3:=p3) (l:=bfS nx first i) (M:=M) (os:=nx (nth (bfS nx first i) (i:Int))) (acs:=((bfS nx first i).take i).map acc) (rws:=bfR nx first i) hlt (H.len _ hG) hM (fun y hy=>hok y (H.gn _ hG y hy))
   (fun k=>by
    have:(nbS (bfS nx first i) ((nx (nth (bfS nx first i) (i:Int))).take k)).length<=B:=H.bound _ (nh (km i)) fun x hx=>by
     rcases n9.1 hx with hx | hx
     ·exact iK H.g0 H.gn i x hx
     ·exact H.gn _ hG x (List.mem_of_mem_take hx)
    omega) (fun k hk=>h3 _ k hG hk)
  unfold cd
  simp only
  rw[if_pos (by simp;omega),af e,<-ig hlt]
  rw[<-ig hlt] at hM'
  have hl2:=(bH (nx:=nx) (first:=first) i).length_le
  simp only
  rw[if_neg (by simp;omega),ax (by omega) (by omega)];simp only[aa]
  rw[iM (bH i) (by omega) (by omega),h2 _ hG];simp only[aa]
  have hr:(bfR nx first i).length=i:=iL fun j hj=>hN.2 j (by omega)
  rw[aI (by simp;omega)];simp only[aa]
  rw[aI (by simp;omega)];simp only[aa,ai (show i<9223372036854775807 by omega)]
  exact ⟨_,rfl,M',by rw[rz hlt,uB hlt],hM'⟩) (by
  rintro s ⟨M,rfl,hM⟩
  unfold cd
  simp only
  rw[if_neg (by have:=hN.1;simp;omega)]) (s:=([first],[(first,0)],0,0,[],[])) ⟨_,rfl,MapOf.one first⟩ (ju (by omega))
 rw[af e]
 simp only
 rw[List.take_of_length_le (by have:=hN.1;omega)]
end
theorem QS {l:List Int} {x:Int} (h:l.length<=9223372036854775807):mG l x=some (if x∈l then (l.idxOf x:Int) else -1):=by
 unfold mG
 obtain ⟨o,e,hq⟩:=bX (f:=nT l x) (fun i s=>s=(i:Int)/\x∉l.take i) (fun o=>(x∈l/\o= .ret (l.idxOf x:Int))\/(x∉l/\ ∃s,o= .brk s)) l.length (s:=0) (by
  rintro i s hi ⟨rfl,hx⟩
  unfold nT
  by_cases hl:i<l.length
  ·rw[if_pos (by simp;omega),ax (by omega) (by omega)];simp only[aa]
   by_cases c:nth l (i:Int)=x
   ·refine .inr ⟨_,by rw[if_pos (by simpa using c)],(fun s' e=>by cases e),.inl ?_⟩
    have e:l=l.take i++(x::l.drop (i+1)):=by
     rw[<-c,bT hl,<-List.drop_eq_getElem_cons hl,List.take_append_drop]
    refine ⟨by rw[e];simp,?_⟩
    congr 1
    conv=>rhs;rw[e,List.idxOf_append,if_neg hx,List.idxOf_cons_self]
    simp[aE];first | done | omega
   ·refine .inl ⟨hl,_,by rw[if_neg (by simpa using c)],by rw[ai (by omega)],?_⟩
    rw[take_one hl,List.mem_append,List.mem_singleton]
    rintro (h | h)
    ·exact hx h
    ·exact c h.symm
  ·refine .inr ⟨_,by rw[if_neg (by simp;omega)],(fun s' e=>by cases e),.inr ⟨?_,_,rfl⟩⟩
   rwa [List.take_of_length_le (by omega)] at hx) ⟨rfl,by simp⟩ (ju h)
 rcases hq with ⟨hx,rfl⟩ | ⟨hx,s,rfl⟩
 ·rw[bN e,if_pos hx]
 ·rw[af e,if_neg hx]
section
variable {a:AutT} {n:Nat} {c:List Int} {lv:List Bool} {nx:Int->List (Option Int)} {G:Int->Prop} {B:Nat} {acc:Int->Bool}
def good (n:Nat) (lv:List Bool) (r:Int):Prop:=0<=r/\r<n/\nth lv r=true
def te (a:AutT) (c:List Int) (lv:List Bool) (r:Int):List (Option Int):=(List.range 9).map fun k=>if mv a r k≥0/\nth lv (mv a r k)=true then some (nth c (mv a r k)) else none
theorem Hi {r:Int} {k:Nat} (hk:k<9):nth (te a c lv r) (k:Int)=if mv a r k≥0/\nth lv (mv a r k)=true then some (nth c (mv a r k)) else none:=by
 have:k<(te a c lv r).length:=by simp[te];omega
 rw[bT this];simp[te]
def RepsOf (n:Nat) (lv:List Bool) (c:List Int) (rs l:List Int):Prop:=rs.length=l.length/\ ∀j:Nat,j<l.length->good n lv (nth rs j)/\nth c (nth rs j)=nth l (j:Int)
theorem RepsOf.snoc {rs l:List Int} (h:RepsOf n lv c rs l) {t:Int} (ht:good n lv t):RepsOf n lv c (rs++ [t]) (l++ [nth c t]):=by
 refine ⟨by simp[h.1],fun j hj=>?_⟩
 by_cases e:j<l.length
 ·rw[hY (by omega) (by have:=h.1;omega),hY (by omega) (by omega)];exact h.2 j e
 ·have e:j=l.length:=by simp at hj;omega
  subst e
  have h1:nth (rs++ [t]) (l.length:Int)=t:=by rw[bT (by simp[h.1])];simp[<-h.1]
  have h2:nth (l++ [nth c t]) (l.length:Int)=nth c t:=by rw[bT (by simp)];simp
  rw[h1,h2];exact ⟨ht,rfl⟩
theorem Mg (V:VA a n) (hn:n<=1000000) (hc:c.length=n) (hlv:lv.length=n) {l rs:List Int} {acs:List Bool} {rws:List (List Int)} {i:Nat} (hi:i<l.length) (hR:RepsOf n lv c rs l) {os:List (Option Int)} (hos:os.length=9)
  (ho: ∀r,good n lv r->nth c r=nth l (i:Int)->te a c lv r=os) (hB: ∀k,(nbS l (os.take k)).length<=1000000) :
  ∃rs',ay (fZ a c lv (l,rs,(i:Int),0,acs,rws)) aQ (l,rs,[],0)=some (.brk (nbS l os,rs',nbR l os,9))/\RepsOf n lv c rs' (nbS l os):=by
 obtain ⟨s',e,rs',rfl,hR'⟩:=db (f:=fZ a c lv (l,rs,(i:Int),0,acs,rws)) (fun k s=> ∃rs',s=(nbS l (os.take k),rs',nbR l (os.take k),(k:Int))/\RepsOf n lv c rs' (nbS l (os.take k))) 9 (by
  rintro k s hk ⟨r1,rfl,hR1⟩
  have hpre:=iJ l (os.take k)
  have hlen:=hpre.length_le
  have hBk:=hB k
  have hrl:(nbR l (os.take k)).length<=9:=by rw[eN,aE];omega
  have hr1:=hR1.1
  obtain ⟨⟨g0,g1,g2⟩,gc⟩:=hR1.2 i (by omega)
  rw[iM hpre (by omega) (by omega)] at gc
  have hsu:=ho _ ⟨g0,g1,g2⟩ gc
  have hok:nth os (k:Int)=if mv a (nth r1 (i:Int)) k≥0/\nth lv (mv a (nth r1 (i:Int)) k)=true then some (nth c (mv a (nth r1 (i:Int)) k)) else none:=by
   rw[<-hsu];exact Hi hk
  have hmv:=V.mv (s:=nth r1 (i:Int)) (k:=k) g0 g1 hk
  unfold fZ
  simp only
  rw[if_pos (by simp;omega),ax (xs:=r1) (by omega) (by omega)];simp only[aa]
  rw[V.get g0 g1];simp only[aa]
  rw[V.get2 g0 g1 hk,take_one (by omega),pv,ru]
  simp only[aa,ai (show k<9223372036854775807 by omega)]
  by_cases c1:mv a (nth r1 (i:Int)) k≥0
  ·rw[if_pos (by simpa using c1),ax (xs:=lv) c1 (by omega)];simp only[aa]
   by_cases c2:nth lv (mv a (nth r1 (i:Int)) k)=true
   ·rw[if_pos ⟨c1,c2⟩] at hok
    rw[if_pos c2,ax (xs:=c) c1 (by omega),hok];simp only[aa]
    rw[QS (by omega)];simp only[aa]
    by_cases c3:nth c (mv a (nth r1 (i:Int)) k)∈nbS l (os.take k)
    ·rw[if_pos c3,if_neg (by simp)];simp only[aa]
     rw[aI (by simp;omega)]
     exact ⟨_,rfl,r1,by rw[jB c3];rfl,by rw[jB c3];exact hR1⟩
    ·rw[if_neg c3,if_pos (by decide)]
     rw[aI (by simp;omega)];simp only[aa]
     rw[aI (by simp;omega)];simp only[aa]
     rw[aI (by simp;omega)];simp only[aa]
     refine ⟨_,rfl,r1++ [mv a (nth r1 (i:Int)) k],?_,?_⟩
     ·rw[iS c3];simp only[nbI,oM c3]
     ·rw[iS c3];exact hR1.snoc ⟨c1,hmv.2,c2⟩
   ·rw[if_neg (fun h=>c2 h.2)] at hok
    rw[if_neg c2,hok];simp only[aa]
    rw[aI (by simp;omega)]
    exact ⟨_,rfl,r1,rfl,hR1⟩
  ·rw[if_neg (fun h=>c1 h.1)] at hok
   rw[if_neg (by simpa using c1),hok];simp only[aa]
   rw[aI (by simp;omega)]
   exact ⟨_,rfl,r1,rfl,hR1⟩) (by
  rintro s ⟨r1,rfl,hR1⟩
  unfold fZ
  simp) (s:=(l,rs,[],0)) ⟨rs,rfl,hR⟩ (by unfold aQ;omega)
 rw[List.take_of_length_le (by omega)] at e hR'
 exact ⟨rs',e,hR'⟩
theorem Vq (V:VA a n) (hn:n<=1000000) (hc:c.length=n) (hlv:lv.length=n) (hs:nth lv a.1=true) (H:NumOk nx (nth c a.1) G B) (hB:B<=1000000)
  (hnx: ∀r,good n lv r->nx (nth c r)=te a c lv r) (hacc: ∀r,good n lv r->acc (nth c r)=nth a.2.1 r) :
  ∃N,bfE nx (nth c a.1) N/\iw a c lv=some (0,(bfS nx (nth c a.1) N).map acc,bfR nx (nth c a.1) N):=by
 obtain ⟨N,hNB,hN⟩:=Hb (nx:=nx) (first:=nth c a.1) (H.le)
 refine ⟨N,hN,?_⟩
 have hst:=V.start
 have hlen:=V.len
 unfold iw
 rw[ax hst.1 (by omega)];simp only[aa]
 rw[if_pos hs,ax hst.1 (by omega)];simp only[aa]
 obtain ⟨s',e,rs,rfl,hR⟩:=db (f:=jo a c lv) (fun i s=> ∃rs,s=(bfS nx (nth c a.1) i,rs,(i:Int),0,((bfS nx (nth c a.1) i).take i).map acc,bfR nx (nth c a.1) i)/\RepsOf n lv c rs (bfS nx (nth c a.1) i)) N (by
  rintro i s hi ⟨rs,rfl,hR⟩
  have hlt:=hN.2 i hi
  have hG:=H.at hlt
  have hle:=H.le i
  have hle':=H.le (i+1)
  obtain ⟨rs',e,hR'⟩:=Mg (acs:=((bfS nx (nth c a.1) i).take i).map acc) (rws:=bfR nx (nth c a.1) i) V hn hc hlv hlt hR (os:=nx (nth (bfS nx (nth c a.1) i) (i:Int))) (H.len _ hG) (fun r hr e=>by rw[<-hnx r hr,e]) (fun k=>by
    have:(nbS (bfS nx (nth c a.1) i) ((nx (nth (bfS nx (nth c a.1) i) (i:Int))).take k)).length<=B:=H.bound _ (nh (km i)) fun x hx=>by
     rcases n9.1 hx with hx | hx
     ·exact iK H.g0 H.gn i x hx
     ·exact H.gn _ hG x (List.mem_of_mem_take hx)
    omega)
  unfold jo
  simp only
  rw[if_pos (by simp;omega),af e]
  rw[<-ig hlt] at hR'
  have hl2:=(bH (nx:=nx) (first:=nth c a.1) i).length_le
  have hr1:=hR'.1
  obtain ⟨⟨g0,g1,g2⟩,gc⟩:=hR'.2 i (by omega)
  rw[iM (bH i) (by omega) (by omega)] at gc
  rw[ax (xs:=rs') (by omega) (by omega)];simp only[aa]
  rw[V.acc g0 g1,<-hacc _ ⟨g0,g1,g2⟩,gc];simp only[aa]
  have hr:(bfR nx (nth c a.1) i).length=i:=iL fun j hj=>hN.2 j (by omega)
  rw[aI (by simp;omega)];simp only[aa]
  rw[aI (by simp;omega)];simp only[aa,ai (show i<9223372036854775807 by omega)]
  exact ⟨_,rfl,rs',by rw[<-ig hlt,rz hlt,uB hlt],hR'⟩) (by
  rintro s ⟨rs,rfl,hR⟩
  unfold jo
  simp only
  rw[if_neg (by have:=hN.1;simp;omega)]) (s:=([nth c a.1],[a.1],0,0,[],[])) ⟨[a.1],rfl,rfl,fun j hj=>by
   obtain rfl:j=0:=by simpa [bfS] using hj
   exact ⟨⟨hst.1,hst.2,hs⟩,rfl⟩⟩ (ju (by omega))
 rw[af e]
 simp only
 rw[List.take_of_length_le (by have:=hN.1;omega)]
theorem Fx (V:VA a n) (hlv:lv.length=n) (hs:nth lv a.1=false):iw a c lv=some nothing:=by
 have hst:=V.start
 unfold iw
 rw[ax hst.1 (by omega)];simp only[aa]
 rw[hs,Md];rfl
end
end D
namespace D
open Go.RowKit
abbrev AD:=(List Int)×Int×Int×(List Int)×Bool
abbrev Pq (x:Int) (j:Nat):Bool:=(od (lT x (j:Int)) 1)==1
def Ps (F:List Int) (set m0:Int):Nat->Int
 | 0=>m0
 | i+1=>if Pq set (i+1) then orI (Ps F set m0 i) (nth F (i:Int)) else Ps F set m0 i
def pick (L:List Int) (m letter:Int):Nat->Int
 | 0=>0
 | i+1=>if nth L (i:Int)=letter/\Pq m i=true then orI (pick L m letter i) (tn 1 ((i+1:Nat):Int)) else pick L m letter i
def aft (p:AD) (set letter:Int):Int:=pick p.1 (Ps p.2.2.2.1 set (if (od set 1)==1 then p.2.1 else 0) p.2.2.2.1.length) letter p.1.length
def qJ (p:AD) (set:Int):Bool:=if (od set 1)==1 then (if p.2.2.2.2 then true else (od (lT set 1) p.2.2.1) !=0) else (od (lT set 1) p.2.2.1) !=0
theorem qK (i:Nat):chk (0<=(i:Int))=some ():=by unfold chk;rw[if_pos (by omega)]
theorem Tm {p:AD} {set letter:Int} (hl:p.2.2.2.1.length=p.1.length) (hb:p.1.length<=1000000):nz p set letter=some (aft p set letter):=by
 have h0: ∀m0,ay (gI p set) aQ (m0,0)=some (.brk (Ps p.2.2.2.1 set m0 p.1.length,(p.1.length:Int))):=fun m0 =>
  aN (f:=gI p set) (fun i=>(Ps p.2.2.2.1 set m0 i,(i:Int))) p.1.length (fun i hi=>by
   unfold gI
   simp only
   rw[if_pos (by simp;omega),ai (by omega),qK];simp only[aa]
   rw[Ps]
   by_cases c:Pq set (i+1)=true
   ·rw[if_pos c,if_pos c,ax (by omega) (by omega)];rfl
   ·rw[if_neg c,if_neg c];rfl) (by unfold gI;simp) (ju (by omega))
 have h1: ∀s7:Int×Int,ay (gJ p letter s7) aQ (0,0)=some (.brk (pick p.1 s7.1 letter p.1.length,(p.1.length:Int))):=fun s7 =>
  aN (f:=gJ p letter s7) (fun i=>(pick p.1 s7.1 letter i,(i:Int))) p.1.length (fun i hi=>by
   unfold gJ
   simp only
   rw[if_pos (by simp;omega),ai (by omega),qK,qK];simp only[aa]
   rw[pick]
   by_cases c:Pq s7.1 i=true
   ·rw[if_pos c,ax (by omega) (by omega)];simp only[aa]
    by_cases d:nth p.1 (i:Int)=letter
    ·rw[if_pos (by simpa using d),if_pos ⟨d,c⟩];rfl
    ·rw[if_neg (by simpa using d),if_neg (fun h=>d h.1)];rfl
   ·rw[if_neg c,if_neg (fun h=>c h.2)];rfl) (by unfold gJ;simp) (ju (by omega))
 unfold nz aft
 rw[hl]
 by_cases c:((od set 1)==1)=true
 ·rw[if_pos c,if_pos c];simp only[aa]
  rw[af (h0 _),af (h1 _)]
 ·rw[if_neg c,if_neg c];simp only[aa]
  rw[af (h0 _),af (h1 _)]
theorem Tn {p:AD} {set letter:Int} (hl:p.2.2.2.1.length=p.1.length) (hb:p.1.length<=1000000):fQ p set letter=some (aft p set letter):=by
 have h0: ∀m0,ay (c9 p set) aQ (m0,0)=some (.brk (Ps p.2.2.2.1 set m0 p.2.2.2.1.length,(p.2.2.2.1.length:Int))):=fun m0 =>
  aN (f:=c9 p set) (fun i=>(Ps p.2.2.2.1 set m0 i,(i:Int))) p.2.2.2.1.length (fun i hi=>by
   unfold c9
   simp only
   rw[if_pos (by simp;omega),ax (by omega) (by omega)];simp only[aa]
   rw[ai (by omega),qK];simp only[aa]
   rw[Ps]
   by_cases c:Pq set (i+1)=true
   ·rw[if_pos c,if_pos c];rfl
   ·rw[if_neg c,if_neg c];rfl) (by unfold c9;simp) (ju (by omega))
 have h1: ∀s7:Int×Int,ay (da p letter s7) aQ (0,0)=some (.brk (pick p.1 s7.1 letter p.1.length,(p.1.length:Int))):=fun s7 =>
  aN (f:=da p letter s7) (fun i=>(pick p.1 s7.1 letter i,(i:Int))) p.1.length (fun i hi=>by
   unfold da
   simp only
   rw[if_pos (by simp;omega),ax (by omega) (by omega)];simp only[aa]
   rw[ai (by omega),qK,qK];simp only[aa]
   rw[pick]
   by_cases d:nth p.1 (i:Int)=letter
   ·rw[if_pos (by simpa using d)]
    by_cases c:Pq s7.1 i=true
    ·rw[if_pos c,if_pos ⟨d,c⟩];rfl
    ·rw[if_neg c,if_neg (fun h=>c h.2)];rfl
   ·rw[if_neg (by simpa using d),if_neg (fun h=>d h.1)];rfl) (by unfold da;simp) (ju (by omega))
 unfold fQ aft
 by_cases c:((od set 1)==1)=true
 ·rw[if_pos c,if_pos c];simp only[aa]
  rw[af (h0 _),af (h1 _)]
 ·rw[if_neg c,if_neg c];simp only[aa]
  rw[af (h0 _),af (h1 _)]
theorem Vr (p:AD) (x:Int):kN p x=some (qJ p x):=by
 unfold kN qJ
 split <;> (try split) <;> rfl
theorem Vs (p:AD) (x:Int):du p x=some (qJ p x):=by
 unfold du qJ
 split <;> (try split) <;> rfl
theorem IU (x:Int): -9223372036854775808<=IntKind.i64.wrap x/\IntKind.i64.wrap x<=9223372036854775807:=by
 simp only[IntKind.wrap,IntKind.bits,IntKind.signed,Bool.true_and]
 split <;> rename_i h <;> simp at h <;> omega
theorem To (x:Int):iOk (IntKind.i64.wrap x)=true:=by
 have h1:IntKind.i64.min= -9223372036854775808:=by decide
 have h2:IntKind.i64.max=9223372036854775807:=by decide
 have h3:=IU x
 simp only[iOk,Lit.wf,h1,h2,ah,decide_eq_true_eq]
 omega
theorem Vt (m n:Int):iOk (orI m n)=true:=To _
theorem Mh (L:List Int) (m letter:Int): ∀i,iOk (pick L m letter i)=true
 | 0=>by unfold pick;decide
 | i+1=>by
  rw[pick]
  split
  ·exact Vt _ _
  ·exact Mh L m letter i
def nxS (p:AD) (x:Int):List (Option Int):=(List.range 9).map fun k:Nat=>if aft p x (k:Int)=0 then none else some (aft p x (k:Int))
theorem QU {p:AD} {x:Int} {k:Nat} (hk:k<9):nth (nxS p x) (k:Int)=if aft p x k=0 then none else some (aft p x k):=by
 have:k<(nxS p x).length:=by simp[nxS];omega
 rw[bT this];simp[nxS]
theorem yN (p:AD) (x:Int):(nxS p x).length=9:=by simp[nxS]
theorem Vu {p:AD} {x y:Int} (h:some y∈nxS p x):iOk y=true:=by
 obtain ⟨k,hk,e⟩:=List.mem_map.1 h
 split at e
 ·cases e
 ·obtain rfl:=ae e
  exact Mh _ _ _ _
theorem Mi {κ:Type} [DecidableEq κ] : ∀(l:List κ) (os:List (Option κ)),(nbS l os).length<=l.length+os.length
 | l,[] =>by simp[nbS]
 | l,o::os=>by
  have h:=Mi (nbL l o) os
  have h2:(nbL l o).length<=l.length+1:=by
   cases o with
   | none=>simp[nbL]
   | some x=>unfold nbL;simp only;split <;> simp
  show (nbS (nbL l o) os).length<=_
  simp only[au];omega
section
variable {κ:Type} [DecidableEq κ] (nx:κ->List (Option κ)) (first:κ) (acc:κ->Bool) (most:Nat)
def goM:Nat->Nat->AutT×Bool
 | 0,i=>((0,[],[]),false)
 | f+1,i=>if i<(bfS nx first i).length then (if (bfS nx first (i+1)).length>most then ((0,[],[]),false) else goM f (i+1)) else ((0,((bfS nx first i).take i).map acc,bfR nx first i),true)
end
section
variable {κ:Type} [DecidableEq κ] {nx:κ->List (Option κ)} {first:κ} {acc:κ->Bool} {most:Nat}
theorem BV {i:Nat} (h: ∀j,j<i->j<(bfS nx first j).length):i<=(bfS nx first i).length:=by
 cases i with
 | zero=>omega
 | succ i =>
  have h1:=h i (by omega)
  have h2:=(bH (nx:=nx) (first:=first) i).length_le
  omega
theorem Hj {S:Type} {f:S->Option (Out (AutT×Bool) S)} (hm:most<=1000000) (h1:1<=most) (st:Nat->S->Prop)
  (hs: ∀i s,st i s->(∀j,j<i->j<(bfS nx first j).length)->(bfS nx first i).length<=most->i<(bfS nx first i).length->((bfS nx first (i+1)).length>most->f s=some (.ret ((0,[],[]),false)))/\((bfS nx first (i+1)).length<=most-> ∃s',f s=some (.nxt s')/\st (i+1) s'))
  (he: ∀i s,st i s-> ¬i<(bfS nx first i).length->f s=some (.brk s)) {s:S} (h0:st 0 s) :
  (ay f aQ s=some (.ret ((0,[],[]),false))/\goM nx first acc most (most+2) 0=((0,[],[]),false)) \/
  ∃N s',ay f aQ s=some (.brk s')/\st N s'/\bfE nx first N/\N<=most/\goM nx first acc most (most+2) 0=((0,(bfS nx first N).map acc,bfR nx first N),true):=by
 obtain ⟨o,e,hq⟩:=bX (f:=f) (fun i s=>st i s/\(∀j,j<i->j<(bfS nx first j).length)/\(bfS nx first i).length<=most/\goM nx first acc most (most+2) 0=goM nx first acc most (most+2 - i) i)
  (fun o=>(o= .ret ((0,[],[]),false)/\goM nx first acc most (most+2) 0=((0,[],[]),false))\/ ∃N s',o= .brk s'/\st N s'/\bfE nx first N/\N<=most/\goM nx first acc most (most+2) 0=((0,(bfS nx first N).map acc,bfR nx first N),true)) most (s:=s) (by
  rintro i s hi ⟨k1,k2,k3,k4⟩
  have hle:=BV k2
  rw[show most+2 - i=(most+1 - i)+1 from by omega] at k4
  have k5:goM nx first acc most (most+1 - i+1) i=if i<(bfS nx first i).length then (if (bfS nx first (i+1)).length>most then ((0,[],[]),false) else goM nx first acc most (most+1 - i) (i+1)) else ((0,((bfS nx first i).take i).map acc,bfR nx first i),true):=rfl
  rw[k5] at k4
  by_cases c:i<(bfS nx first i).length
  ·rw[if_pos c] at k4
   obtain ⟨q1,q2⟩:=hs i s k1 k2 k3 c
   by_cases d:(bfS nx first (i+1)).length>most
   ·rw[if_pos d] at k4
    exact .inr ⟨_,q1 d,(fun s' e=>by cases e),.inl ⟨rfl,k4⟩⟩
   ·rw[if_neg d] at k4
    obtain ⟨s',e,hs'⟩:=q2 (by omega)
    exact .inl ⟨by omega,s',e,hs',fun j hj=>(by
     by_cases ej:j=i
     ·subst ej;exact c
     ·exact k2 j (by omega)),by omega,by rw[k4];congr 1;omega⟩
  ·rw[if_neg c] at k4
   refine .inr ⟨_,he i s k1 c,(fun s' e=>by cases e),.inr ⟨i,s,rfl,k1,⟨by omega,k2⟩,hi,?_⟩⟩
   rw[k4,List.take_of_length_le (by omega)]) ⟨h0,fun j hj=>by omega,by simp[bfS];omega,rfl⟩ (ju (by omega))
 rcases hq with ⟨rfl,h⟩ | ⟨N,s',rfl,h⟩
 ·exact .inl ⟨e,h⟩
 ·exact .inr ⟨N,s',e,h⟩
end
section
variable {p:AD} {most:Nat} (hl:p.2.2.2.1.length=p.1.length) (hb:p.1.length<=1000000) (hm:most<=900000) (h1:1<=most)
include hl hb hm h1
theorem W4:gK p most=some (goM (nxS p) 1 (qJ p) most (most+2) 0):=by
 have hp3: ∀(l:List Int) (i k:Nat),k<9-> ∃j,(fun a0 a1=>de a0 a1 (p.1,p.2.1,p.2.2.1,p.2.2.2.1,p.2.2.2.2)) (nth l (i:Int)) (k:Int)=some (match nth (nxS p (nth l (i:Int))) (k:Int) with | some y=>(y,true) | none=>(j,false)):=by
  intro l i k hk
  refine ⟨0,?_⟩
  show de _ _ p=_
  unfold de
  simp only[iP]
  rw[Tn hl hb,QU hk];simp only[aa]
  by_cases c:aft p (nth l (i:Int)) k=0
  ·rw[if_pos c];simp[c]
  ·rw[if_neg c];simp[c]
 unfold gK eJ
 rw[show Cp ([] :List (Int×Int)) iOk iOk 1 0=some [(1,0)] from by unfold Cp;rw[if_pos ⟨by simp,by decide,by decide⟩]];simp only[aa]
 rcases Hj (nx:=nxS p) (first:=1) (acc:=qJ p) (most:=most) (f:=cd most (fun a0=>du (p.1,p.2.1,p.2.2.1,p.2.2.2.1,p.2.2.2.2) a0) (fun a0 a1=>de a0 a1 (p.1,p.2.1,p.2.2.1,p.2.2.2.1,p.2.2.2.2)))
  (by omega) h1 (fun i s=> ∃M,s=(bfS (nxS p) 1 i,M,(i:Int),0,((bfS (nxS p) 1 i).take i).map (qJ p),bfR (nxS p) 1 i)/\MapOf M (bfS (nxS p) 1 i)) (by
   rintro i s ⟨M,rfl,hM⟩ hj hle hlt
   have hil:=BV hj
   obtain ⟨M',e,hM'⟩:=DR (p3:=fun a0 a1=>de a0 a1 (p.1,p.2.1,p.2.2.1,p.2.2.2.1,p.2.2.2.2)) (l:=bfS (nxS p) 1 i) (M:=M) (os:=nxS p (nth (bfS (nxS p) 1 i) (i:Int))) (acs:=((bfS (nxS p) 1 i).take i).map (qJ p)) (rws:=bfR (nxS p) 1 i) hlt (yN _ _) hM (fun y hy=>Vu hy)
    (fun k=>by
     have:=Mi (bfS (nxS p) 1 i) ((nxS p (nth (bfS (nxS p) 1 i) (i:Int))).take k)
     have h9:=yN p (nth (bfS (nxS p) 1 i) (i:Int))
     rw[aE] at this
     omega) (fun k hk=>hp3 _ i k hk)
   rw[<-ig hlt] at hM'
   have hl2:=(bH (nx:=nxS p) (first:=1) i).length_le
   constructor
   ·intro hgt
    unfold cd
    simp only
    rw[if_pos (by simp;omega),af e,<-ig hlt]
    simp only
    rw[if_pos (by simp;omega)]
   ·intro hle2
    unfold cd
    simp only
    rw[if_pos (by simp;omega),af e,<-ig hlt]
    simp only
    rw[if_neg (by simp;omega),ax (by omega) (by omega)];simp only[aa]
    rw[iM (bH i) (by omega) (by omega)]
    simp only[iP]
    rw[Vs];simp only[aa]
    have hr:(bfR (nxS p) 1 i).length=i:=iL hj
    rw[aI (by simp;omega)];simp only[aa]
    rw[aI (by simp;omega)];simp only[aa,ai (show i<9223372036854775807 by omega)]
    exact ⟨_,rfl,M',by rw[rz hlt,uB hlt],hM'⟩) (by
   rintro i s ⟨M,rfl,hM⟩ hn
   unfold cd
   simp only
   rw[if_neg (by simp;omega)]) (s:=([1],[(1,0)],0,0,[],[])) ⟨_,rfl,MapOf.one 1⟩ with ⟨e,hg⟩ | ⟨N,s',e,⟨M,rfl,hM⟩,hN,hNm,hg⟩
 ·rw[bN e,hg];rfl
 ·rw[af e,hg];simp only[aa]
  rw[List.take_of_length_le (by have:=hN.1;omega)]
theorem Pt {l:List Int} {acs:List Bool} {rws:List (List Int)} {i:Nat} (hi:i<l.length) (hle:l.length<=most) :
  ay (fw p (l,(i:Int),0,acs,rws)) aQ (l,[],0)=some (.brk (nbS l (nxS p (nth l (i:Int))),nbR l (nxS p (nth l (i:Int))),9)):=by
 have h9:=yN p (nth l (i:Int))
 have:=aN (f:=fw p (l,(i:Int),0,acs,rws)) (fun k=>(nbS l ((nxS p (nth l (i:Int))).take k),nbR l ((nxS p (nth l (i:Int))).take k),(k:Int))) 9 (fun k hk=>by
  have hpre:=iJ l ((nxS p (nth l (i:Int))).take k)
  have hlen:=hpre.length_le
  have hB:=Mi l ((nxS p (nth l (i:Int))).take k)
  rw[aE] at hB
  have hrl:(nbR l ((nxS p (nth l (i:Int))).take k)).length<=9:=by rw[eN,aE];omega
  unfold fw
  simp only[iP]
  rw[if_pos (by simp;omega),ax (by omega) (by omega)];simp only[aa]
  rw[iM hpre (by omega) (by omega),Tm hl hb];simp only[aa]
  rw[take_one (by omega),pv,ru,QU hk]
  simp only[ai (show k<9223372036854775807 by omega)]
  by_cases c:aft p (nth l (i:Int)) k=0
  ·rw[if_pos c,if_neg (by simp[c])];simp only[aa]
   rw[aI (by simp;omega)];rfl
  ·rw[if_neg c,if_pos (by simpa using c),QS (by omega)];simp only[aa]
   by_cases d:aft p (nth l (i:Int)) k∈nbS l ((nxS p (nth l (i:Int))).take k)
   ·rw[if_pos d,if_neg (by simp),jB d];simp only[aa]
    rw[aI (by simp;omega)];rfl
   ·rw[if_neg d,if_pos (by decide),aI (by simp;omega),iS d];simp only[aa]
    rw[aI (by simp;omega)];simp only[nbI,oM d,aa]) (by
  unfold fw
  simp) (by unfold aQ;omega)
 have e9:(nxS p (nth l (i:Int))).take 9=nxS p (nth l (i:Int)):=List.take_of_length_le (by omega)
 rw[e9] at this
 exact this
theorem Vv:dk p most=some (goM (nxS p) 1 (qJ p) most (most+2) 0):=by
 unfold dk
 rcases Hj (nx:=nxS p) (first:=1) (acc:=qJ p) (most:=most) (f:=fx p most)
  (by omega) h1 (fun i s=>s=(bfS (nxS p) 1 i,(i:Int),0,((bfS (nxS p) 1 i).take i).map (qJ p),bfR (nxS p) 1 i)) (by
   rintro i s rfl hj hle hlt
   have hil:=BV hj
   have e:=Pt hl hb hm h1 (acs:=((bfS (nxS p) 1 i).take i).map (qJ p)) (rws:=bfR (nxS p) 1 i) hlt hle
   have hl2:=(bH (nx:=nxS p) (first:=1) i).length_le
   constructor
   ·intro hgt
    unfold fx
    simp only
    rw[if_pos (by simp;omega),af e,<-ig hlt]
    simp only
    rw[if_pos (by simp;omega)]
   ·intro hle2
    unfold fx
    simp only
    rw[if_pos (by simp;omega),af e,<-ig hlt]
    simp only
    rw[if_neg (by simp;omega),ax (by omega) (by omega)];simp only[aa]
    rw[iM (bH i) (by omega) (by omega)]
    simp only[iP]
    rw[Vr];simp only[aa]
    have hr:(bfR (nxS p) 1 i).length=i:=iL hj
    rw[aI (by simp;omega)];simp only[aa]
    rw[aI (by simp;omega)];simp only[aa,ai (show i<9223372036854775807 by omega)]
    exact ⟨_,rfl,by rw[rz hlt,uB hlt]⟩) (by
   rintro i s rfl hn
   unfold fx
   simp only
   rw[if_neg (by simp;omega)]) (s:=([1],0,0,[],[])) rfl with ⟨e,hg⟩ | ⟨N,s',e,rfl,hN,hNm,hg⟩
 ·rw[bN e,hg]
 ·rw[af e,hg];simp only
  rw[List.take_of_length_le (by have:=hN.1;omega)]
end
end D
namespace D
open Go.RowKit
theorem Pu (m n:Int):orI m n=orI n m:=by unfold orI;rw[BitVec.or_comm]
def lk (F:List Int) (from_ to_:Int):Nat->List Int
 | 0=>F
 | i+1=>if Pq from_ i then (lk F from_ to_ i).set i (orI (nth (lk F from_ to_ i) (i:Int)) to_) else lk F from_ to_ i
theorem uC (F:List Int) (f t:Int): ∀i,(lk F f t i).length=F.length
 | 0=>rfl
 | i+1=>by
  rw[lk]
  split
  ·rw[List.length_set,uC]
  ·exact uC F f t i
theorem Hk {p:AD} {f t:Int} (hl:p.2.2.2.1.length<=1000000):mF p f t=some (p.1,p.2.1,p.2.2.1,lk p.2.2.2.1 f t p.2.2.2.1.length,p.2.2.2.2):=by
 have hL:ay (iY f t) aQ (0,p.2.2.2.1)=some (.brk ((p.2.2.2.1.length:Int),lk p.2.2.2.1 f t p.2.2.2.1.length)):=aN (f:=iY f t) (fun i=>((i:Int),lk p.2.2.2.1 f t i)) p.2.2.2.1.length (fun i hi=>by
  have hk:=uC p.2.2.2.1 f t i
  unfold iY
  simp only
  rw[if_pos (by simp;omega),qK];simp only[aa]
  rw[lk,ai (by omega)]
  by_cases c:Pq f i=true
  ·rw[if_pos c,if_pos c,ax (by omega) (by omega)];simp only[aa,Int.toNat_natCast]
  ·rw[if_neg c,if_neg c];rfl) (by unfold iY;simp[uC]) (ju (by omega))
 unfold mF
 rw[af hL]
theorem Hl {p:AD} {f t:Int} (hl:p.2.2.2.1.length<=1000000):dF p f t=some (p.1,p.2.1,p.2.2.1,lk p.2.2.2.1 f t p.2.2.2.1.length,p.2.2.2.2):=by
 have hL:ay (cT p f t) aQ (0,p.2.2.2.1)=some (.brk ((p.2.2.2.1.length:Int),lk p.2.2.2.1 f t p.2.2.2.1.length)):=aN (f:=cT p f t) (fun i=>((i:Int),lk p.2.2.2.1 f t i)) p.2.2.2.1.length (fun i hi=>by
  have hk:=uC p.2.2.2.1 f t i
  unfold cT
  simp only
  rw[if_pos (by simp;omega),qK];simp only[aa]
  rw[lk,ai (by omega)]
  by_cases c:Pq f i=true
  ·rw[if_pos c,if_pos c,ax (by omega) (by omega)];simp only[aa,Int.toNat_natCast]
  ·rw[if_neg c,if_neg c];rfl) (by unfold cT;simp) (ju (by omega))
 unfold dF
 rw[af hL]
def BOk (x:Tr Tok):Prop:= ∀(n m:Nat) (p:AD),(flat x).length<=n->(flat x).length<=m->p.2.2.2.1.length=p.1.length->p.1.length+(flat x).length<=100000->
 ∃(nu:Bool) (fi la:Int) (q:AD),b7 n p (flat x)=some ((nu,fi,la),q)/\bz m p x=some ((fi,la,nu),q)/\q.2.2.2.1.length=q.1.length/\q.1.length<=p.1.length+(flat x).length
theorem Pv {x:Tr Tok} (h:WT x):BOk x:=by
 refine WT.ind (p:=BOk) ?_ ?_ ?_ h
 ·intro t e n m p hn hm hF hl
  rw[yI] at hn hm hl⊢
  simp only[au,aD] at hl
  match n,m,hn,hm with
  | n+1,m+1,_,_ =>
   rw[b7,bz];simp only[oO,aa]
   have:=(jv (A:=[]) (t:=t) (by simp)).1
   rw[List.nil_append] at this
   rw[this];simp only[aa,iP]
   rcases kK (show 0<=ar t by omega) with ⟨k,_⟩ | ⟨k,_⟩ | ⟨_,k⟩
   ·omega
   ·omega
   rcases k with k | k | k
   ·exact ⟨false,0,0,p,by simp[k],by simp[k],hF,by simp⟩
   ·exact ⟨true,0,0,p,by simp[k],by simp[k],hF,by simp⟩
   ·refine ⟨false,tn 1 (p.1.length:Int),tn 1 (p.1.length:Int),(p.1++ [t.2.1],p.2.1,p.2.2.1,p.2.2.2.1++ [0],p.2.2.2.2),?_,?_,by simp[hF],by simp⟩
    ·rw[if_neg (by simp[k]),if_pos (by simp[k]),aI (by simp;omega)];simp only[aa]
     rw[aI (by simp;omega)];rfl
    ·rw[if_neg (by simp[k]),if_pos (by simp[k]),aI (by simp;omega)];simp only[aa]
     rw[aI (by simp;omega)];rfl
 ·intro t a e wa ih n m p hn hm hF hl
  rw[zG] at hn hm hl⊢
  simp only[aj,au,aD] at hn hm hl
  match n,m,hn,hm with
  | n+1,m+1,hn,hm =>
   rw[b7,bz];simp only[oO,aa,iP]
   obtain ⟨l1,l2⟩:=jv (A:=flat a) (t:=t) (by omega)
   rw[l1];simp only[aa]
   obtain ⟨nu,fi,la,q,hs,hi,hq1,hq2⟩:=ih n m p (by omega) (by omega) hF (by omega)
   rcases L4 e with ⟨k1,k2⟩ | ⟨k1,k2,k3⟩
   ·have g2:(t.1==2)=false:=by simp[k2]
    have g3:(t.1==3)=false:=by simp[k2]
    have g4:(t.1==4)=false:=by simp[k2]
    have g5:(t.1==5)=false:=by simp[k2]
    simp only[g2,g3,g4,g5,k1,Bool.false_eq_true,if_false,if_true]
    rw[l2,Int.toNat_natCast,List.take_left,ic (by simp only[aj,au,aD];omega)];simp only[aa]
    rw[hs,show aP [a] 0=some a from rfl];simp only[aa]
    rw[hi];simp only[aa,iP]
    rw[Hk (by omega),Hl (by omega)];simp only[aa]
    refine ⟨true,fi,la,_,rfl,rfl,?_,?_⟩
    ·simp only[uC];exact hq1
    ·simp only[aj,au,aD];omega
   ·have g2:(t.1==2)=false:=by simp[k3]
    have g3:(t.1==3)=false:=by simp[k3]
    have g4:(t.1==4)=false:=by simp[k3]
    have g5:(t.1==5)=false:=by simp[k3]
    simp only[g2,g3,g4,g5,k1,Bool.false_eq_true,if_false]
    exact ⟨false,0,0,p,rfl,rfl,hF,by omega⟩
 ·intro t a b e wa wb iha ihb n m p hn hm hF hl
  rw[rL] at hn hm hl⊢
  have hl2:((flat a++flat b)++ [t]).length<=1000000:=by omega
  obtain ⟨p1,p2,p3,p4⟩:=uz (a:=a) (t:=t) wb hl2
  simp only[aj,au,aD] at hn hm hl
  match n,m,hn,hm with
  | n+1,m+1,hn,hm =>
   have hpa:=wa.pos
   have hpb:=wb.pos
   rw[b7,bz];simp only[oO,aa,iP]
   obtain ⟨l1,l2⟩:=jv (A:=flat a++flat b) (t:=t) (by rw[aj];omega)
   rw[l1];simp only[aa]
   obtain ⟨nu,fi,la,q,hs,hi,hq1,hq2⟩:=iha n m p (by omega) (by omega) hF (by omega)
   obtain ⟨nu2,fi2,la2,q2,hs2,hi2,hq3,hq4⟩:=ihb n m q (by omega) (by omega) hq1 (by omega)
   have c1: ∀r:Int,0<=r->r<=((flat a++flat b++ [t]).length:Int)->chk (0<=r/\r<=((flat a++flat b++ [t]).length:Int))=some ():=fun r h1 h2=>ic ⟨h1,h2⟩
   have g0:aP [a,b] 0=some a:=rfl
   have g1:aP [a,b] 1=some b:=rfl
   rcases kK (show 0<=ar t by omega) with ⟨_,k⟩ | ⟨k,_⟩ | ⟨k,_⟩
   ·rcases k with k | k
    ·have g2:(t.1==2)=false:=by simp[k]
     have g3:(t.1==3)=false:=by simp[k]
     have g4:(t.1==4)=true:=by simp[k]
     have g5:(t.1==5)=false:=by simp[k]
     simp only[g2,g3,g4,g5,Bool.false_eq_true,if_false,if_true]
     rw[l2,p1,p2,ic (by simp only[aj,au,aD];omega)];simp only[aa]
     rw[ic (by simp only[aj,au,aD];omega),p3,p4,hs,g0,g1];simp only[aa]
     rw[hi,ic (by simp only[aj,au,aD];omega)];simp only[aa,iP]
     rw[hs2,hi2];simp only[aa,iP]
     rw[Hk (by omega),Hl (by omega)];simp only[aa]
     refine ⟨nu&&nu2,if nu then orI fi fi2 else fi,if nu2 then orI la la2 else la2,(q2.1,q2.2.1,q2.2.2.1,lk q2.2.2.2.1 la fi2 q2.2.2.2.1.length,q2.2.2.2.2),?_,?_,?_,?_⟩
     ·cases nu <;> cases nu2 <;> rfl
     ·rw[Pu la la2]
      cases nu <;> cases nu2 <;> rfl
     ·simp only[uC];exact hq3
     ·simp only[aj,au,aD];omega
    ·have g2:(t.1==2)=false:=by simp[k]
     have g3:(t.1==3)=false:=by simp[k]
     have g4:(t.1==4)=false:=by simp[k]
     have g5:(t.1==5)=true:=by simp[k]
     simp only[g2,g3,g4,g5,Bool.false_eq_true,if_false,if_true]
     rw[l2,p1,p2,ic (by simp only[aj,au,aD];omega)];simp only[aa]
     rw[ic (by simp only[aj,au,aD];omega),p3,p4,hs,g0,g1];simp only[aa]
     rw[hi,ic (by simp only[aj,au,aD];omega)];simp only[aa,iP]
     rw[hs2,hi2];simp only[aa,iP]
     refine ⟨nu || nu2,orI fi fi2,orI la la2,q2,?_,?_,hq3,?_⟩
     ·cases nu <;> simp
     ·cases nu <;> simp
     ·simp only[aj,au,aD];omega
   ·omega
   ·omega
def Cg (e:List Tok):Nat->Nat
 | 0=>0
 | i+1=>if (nth e (i:Int)).1=3 then Cg e i+1 else Cg e i
theorem Fy (e:List Tok): ∀i,Cg e i<=i
 | 0=>aC _
 | i+1=>by
  have:=Fy e i
  rw[Cg];split <;> omega
theorem Vx {r:List Tok×Bool} (hl:r.1.length<=1000000):ay (dn r) aQ (0,0)=some (.brk ((Cg r.1 r.1.length:Int),(r.1.length:Int))):=
 aN (f:=dn r) (fun i=>((Cg r.1 i:Int),(i:Int))) r.1.length (fun i hi=>by
  have:=Fy r.1 i
  unfold dn
  simp only
  rw[if_pos (by simp;omega),ax (by omega) (by omega)];simp only[aa]
  rw[Cg,ai (show i<9223372036854775807 by omega),ai (show Cg r.1 i<9223372036854775807 by omega)]
  by_cases c:(nth r.1 (i:Int)).1=3
  ·rw[if_pos (by simpa using c),if_pos c];rfl
  ·rw[if_neg (by simpa using c),if_neg c];rfl) (by unfold dn;simp) (ju (by omega))
theorem W5 {r:List Tok×Bool} (hl:r.1.length<=1000000):ay (dt r) aQ (0,0)=some (.brk ((Cg r.1 r.1.length:Int),(r.1.length:Int))):=
 aN (f:=dt r) (fun i=>((Cg r.1 i:Int),(i:Int))) r.1.length (fun i hi=>by
  have:=Fy r.1 i
  unfold dt
  simp only
  rw[if_pos (by simp;omega),ax (by omega) (by omega)];simp only[aa]
  rw[Cg,ai (show i<9223372036854775807 by omega),ai (show Cg r.1 i<9223372036854775807 by omega)]
  by_cases c:(nth r.1 (i:Int)).1=3
  ·rw[if_pos (by simpa using c),if_pos c];rfl
  ·rw[if_neg (by simpa using c),if_neg c];rfl) (by unfold dt;simp) (ju (by omega))
theorem tf {e:List Tok} (he:e.length<=1048576): ∃r:AD×Bool,cR e=some r/\gq e=some r/\r.1.2.2.2.1.length=r.1.1.length/\r.1.1.length<=100000:=by
 have hF:=ni
 obtain ⟨e1,e2⟩:=Fv he
 unfold cR gq
 rw[e1,e2];simp only[aa]
 by_cases c:(zf e).2=true
 ·obtain ⟨y,wy,ey,ly⟩:=L8 c
  rw[if_pos c,if_pos c,af (Vx (by rw[ey];omega)),af (W5 (by rw[ey];omega))]
  simp only
  by_cases d:(Cg (zf e).1 (zf e).1.length:Int)>20
  ·have d':decide ((Cg (zf e).1 (zf e).1.length:Int)>20)=true:=decide_eq_true d
   simp only[d',if_true]
   exact ⟨_,rfl,rfl,rfl,by simp⟩
  ·have d':decide ((Cg (zf e).1 (zf e).1.length:Int)>20)=false:=decide_eq_false d
   simp only[d',Bool.false_eq_true,if_false]
   rw[ey,BS (by omega),ry wy];simp only[aa]
   obtain ⟨nu,fi,la,q,hs,hi,hq1,hq2⟩:=Pv wy eE eE ([],0,0,[],false) (by omega) (by omega) rfl (by simp;omega)
   rw[hs,hi];simp only[aa]
   exact ⟨_,rfl,rfl,hq1,by simp at hq2;show q.1.length<=_;omega⟩
 ·rw[if_neg c,if_neg c]
  exact ⟨_,rfl,rfl,rfl,by simp⟩
end D
namespace D
open Go.RowKit
theorem IV (n:Nat) (l:List Int) (hd:l.Nodup) (h: ∀x∈l,0<=x/\x<n):l.length<=n:=by
 have:=hd.length_le_of_subset (l₂:=(List.range n).map Int.ofNat) (fun x hx=>by
  obtain ⟨h0,h1⟩:=h x hx
  exact List.mem_map.2 ⟨x.toNat,List.mem_range.2 (by omega),by show ((x.toNat:Nat):Int)=x;omega⟩)
 simpa using this
theorem Vy {n:Nat} {x:Int} (hn:n<=1000000) (h0:0<=x) (h1:x<n):iOk x=true:=by
 have:=Mf (n:=x.toNat) (by omega)
 rwa [show ((x.toNat:Nat):Int)=x from by omega] at this
theorem Vz {κ:Type} [DecidableEq κ] {nx:κ->List (Option κ)} {first:κ} {G:κ->Prop} {B N:Nat} {acc:κ->Bool} (H:NumOk nx first G B) (hB:B<=1000000) (hN:bfE nx first N):Data.sm ((0,(bfS nx first N).map acc,bfR nx first N):AutT):=by
 have hl:=H.bound _ (km (nx:=nx) (first:=first) N) (iK H.g0 H.gn N)
 refine ⟨trivial,⟨by rw[List.length_map];omega,fun _ _=>trivial⟩,?_,?_⟩
 ·rw[iL hN.2];have:=hN.1;omega
 ·have key: ∀i,i<=N-> ∀r∈bfR nx first i,r.length=9:=by
   intro i
   induction i with
   | zero=>intro _ r hr;cases hr
   | succ i ih =>
    intro hi r hr
    have hlt:=hN.2 i (by omega)
    rw[rv hlt] at hr
    rcases aH hr with hr | hr
    ·exact ih (by omega) r hr
    ·obtain rfl:=al hr
     rw[eN,H.len _ (iK H.g0 H.gn i _ (List.getElem_mem hlt))]
  intro r hr
  exact ⟨by rw[key N (aC _) r hr];decide,fun _ _=>trivial⟩
theorem IW:Data.sm nothing:=⟨trivial,⟨by decide,fun _ _=>trivial⟩,by decide,fun r hr=>by
 obtain rfl:=al hr
 exact ⟨by decide,fun _ _=>trivial⟩⟩
end D
namespace D
open Go.RowKit
theorem AE {κ:Type} [DecidableEq κ] {l m:List κ} (h:l <+:m) {y:κ} (hy:y∈l):(m.idxOf y:Int)=l.idxOf y:=by
 obtain ⟨t,rfl⟩:=h
 rw[List.idxOf_append,if_pos hy]
theorem Mj {κ:Type} [DecidableEq κ] : ∀(l:List κ) (os:List (Option κ)) (i:Nat),i<os.length->nth (nbR l os) (i:Int)=nbI (nbS l os) (nth os (i:Int))
 | l,o::os,0,_=>by
  show nbI l o=nbI (nbS (nbL l o) os) o
  cases o with
  | none=>rfl
  | some y =>
   have hm:y∈nbL l (some y):=LU.2 (.inr rfl)
   simp only[nbI]
   rw[AE (iJ _ os) hm]
   by_cases c:y∈l
   ·rw[jB c]
   ·rw[iS c,List.idxOf_append,if_neg c,oM c];simp
 | l,o::os,i+1,h=>by
  have h':i<os.length:=by simpa using h
  have ih:=Mj (nbL l o) os i h'
  have e1:nth (nbR l (o::os)) ((i+1:Nat):Int)=nth (nbR (nbL l o) os) (i:Int):=by
   rw[bT (by rw[eN];exact h),bT (by rw[eN];exact h')];rfl
  have e2:nth (o::os) ((i+1:Nat):Int)=nth os (i:Int):=by rw[bT h,bT h'];rfl
  rw[e1,e2];exact ih
theorem oc {κ:Type} [DecidableEq κ] {l:List κ} {y:κ} (h:y∈l): ∃(q:Nat) (hq:q<l.length),nbI l (some y)=(q:Int)/\l[q] =y:=
 ⟨l.idxOf y,List.idxOf_lt_length_of_mem h,rfl,by simp⟩
theorem BW {κ:Type} [DecidableEq κ] {l:List κ} {y:κ} (h:y∉l):nbI l (some y)=(l.length:Int):=by simp only[nbI,oM h]
def QV:List Int->Nat->Nat->Prop
 | [],c,m=>c=m
 | x::xs,c,m=>(x= -1/\QV xs c m)\/(0<=x/\x<c/\QV xs c m)\/(x=c/\QV xs (c+1) m)
theorem BX {κ:Type} [DecidableEq κ] : ∀(os:List (Option κ)) (l:List κ),QV (nbR l os) l.length (nbS l os).length
 | [],l=>rfl
 | none::os,l=>.inl ⟨rfl,BX os l⟩
 | some y::os,l=>by
  by_cases c:y∈l
  ·refine .inr (.inl ⟨Int.natCast_nonneg _,?_,?_⟩)
   ·have:=List.idxOf_lt_length_of_mem c
    simp only[nbI];omega
   ·show QV (nbR (nbL l (some y)) os) l.length (nbS (nbL l (some y)) os).length
    rw[jB c];exact BX os l
  ·refine .inr (.inr ⟨by simp only[nbI,oM c],?_⟩)
   show QV (nbR (nbL l (some y)) os) (l.length+1) (nbS (nbL l (some y)) os).length
   have:=BX os (l++ [y])
   rw[iS c]
   simpa using this
def Wv:List Int->List (Option (List Int))->Prop
 | [],[] =>True
 | x::xs,o::os=>((x<0/\o=none)\/(0<=x/\ ∃t,o=some (x::t)))/\Wv xs os
 | _,_=>False
theorem Mk: ∀(xs:List Int) (os:List (Option (List Int))),xs.length=os.length->(∀i (h:i<xs.length) (h':i<os.length),(xs[i] < 0/\os[i] =none)\/(0<=xs[i] /\ ∃t,os[i] =some (xs[i] ::t)))->Wv xs os
 | [],[],_,_=>trivial
 | x::xs,o::os,hl,h=>⟨h 0 (by simp) (by simp),Mk xs os (by simpa using hl) fun i h1 h2=>h (i+1) (by simpa using h1) (by simpa using h2)⟩
theorem nj: ∀(xs:List Int) (os:List (Option (List Int))) (l:List (List Int)) (c m:Nat),Wv xs os->QV xs c m->(∀y∈l,∃h t,y=h::t/\h<c)->
  m+l.length<=(nbS l os).length+c/\(l.length=c->(∀(q:Nat) (hq:q<l.length),∃t,l[q] =(q:Int)::t)->(nbS l os).length=m->nbR l os=xs)
 | [],[],l,c,m,_,hn,_=>by
  have hn:c=m:=hn
  subst hn
  exact ⟨by simp[nbS];omega,fun _ _ _=>rfl⟩
 | x::xs,o::os,l,c,m,hr,hn,hh=>by
  obtain ⟨hr1,hr2⟩:=hr
  rcases hn with ⟨rfl,hn⟩ | ⟨hx0,hxc,hn⟩ | ⟨rfl,hn⟩
  ·have ho:o=none:=by
    rcases hr1 with ⟨-,h⟩ | ⟨h,-⟩
    ·exact h
    ·omega
   subst ho
   obtain ⟨i1,i2⟩:=nj xs os l c m hr2 hn hh
   exact ⟨i1,fun h1 h2 h3=>by show -1::nbR l os=_;rw[i2 h1 h2 h3]⟩
  ·obtain ⟨t,rfl⟩: ∃t,o=some (x::t):=by
    rcases hr1 with ⟨h,-⟩ | ⟨-,h⟩
    ·omega
    ·exact h
   by_cases k:(x::t)∈l
   ·obtain ⟨i1,i2⟩:=nj xs os l c m hr2 hn hh
    have hb:nbL l (some (x::t))=l:=jB k
    refine ⟨by show m+l.length<=(nbS (nbL l (some (x::t))) os).length+c;rw[hb];exact i1,fun h1 h2 h3=>?_⟩
    have h3:(nbS (nbL l (some (x::t))) os).length=m:=h3
    rw[hb] at h3
    obtain ⟨q,hq,e1,e2⟩:=oc k
    obtain ⟨t',ht'⟩:=h2 _ hq
    rw[e2] at ht'
    have:x=(q:Int):=by injection ht'
    show nbI l (some (x::t))::nbR (nbL l (some (x::t))) os=_
    rw[e1,<-this,hb,i2 h1 h2 h3]
   ·have hb:nbL l (some (x::t))=l++ [x::t]:=iS k
    obtain ⟨i1,i2⟩:=nj xs os (l++ [x::t]) c m hr2 hn (fun y hy=>by
     rcases aH hy with hy | hy
     ·exact hh y hy
     ·obtain rfl:=al hy
      exact ⟨x,t,rfl,hxc⟩)
    rw[aj,List.length_singleton] at i1
    refine ⟨by show m+l.length<=(nbS (nbL l (some (x::t))) os).length+c;rw[hb];omega,fun h1 h2 h3=>?_⟩
    have h3:(nbS (nbL l (some (x::t))) os).length=m:=h3
    rw[hb] at h3
    omega
  ·obtain ⟨t,rfl⟩: ∃t,o=some ((c:Int)::t):=by
    rcases hr1 with ⟨h,-⟩ | ⟨-,h⟩
    ·omega
    ·exact h
   have k:((c:Int)::t)∉l:=fun k=>by
    obtain ⟨h,t',e,hlt⟩:=hh _ k
    have:(c:Int)=h:=by injection e
    omega
   have hb:nbL l (some ((c:Int)::t))=l++ [(c:Int)::t]:=iS k
   obtain ⟨i1,i2⟩:=nj xs os (l++ [(c:Int)::t]) (c+1) m hr2 hn (fun y hy=>by
    rcases aH hy with hy | hy
    ·obtain ⟨h,t',e,hlt⟩:=hh y hy
     exact ⟨h,t',e,by omega⟩
    ·obtain rfl:=al hy
     exact ⟨c,t,rfl,by omega⟩)
   have hlen:(l++ [(c:Int)::t]).length=l.length+1:=by simp
   rw[hlen] at i1
   refine ⟨by show m+l.length<=(nbS (nbL l (some ((c:Int)::t))) os).length+c;rw[hb];omega,fun h1 h2 h3=>?_⟩
   have h3:(nbS (nbL l (some ((c:Int)::t))) os).length=m:=h3
   rw[hb] at h3
   have:=i2 (by rw[hlen,h1]) (fun q hq=>by
    by_cases e:q<l.length
    ·rw[List.getElem_append_left e];exact h2 q e
    ·have e:q=l.length:=by omega
     subst e
     exact ⟨t,by simp;omega⟩) h3
   show nbI l (some ((c:Int)::t))::nbR (nbL l (some ((c:Int)::t))) os=_
   rw[hb,this,BW k,h1]
theorem Fz (xs ys:List Int) (hN:xs.length<=1048576): ∃r,oo xs ys=some r/\(r=0↔xs=ys):=by
 unfold oo
 have h0:=Vk (f:=nA xs ys) xs ys (fun i h h'=>by
  simp only[nA,cW h,cW h',if_true,aO h,aO h',aa,ai (show i<9223372036854775807 by omega)]
  by_cases h1:xs[i] < ys[i]
  ·simp[h1]
  ·by_cases h2:xs[i] > ys[i]
   ·simp[h1,h2]
   ·simp[h1,h2]) (fun i hi=>by
  simp only[nA]
  by_cases h1:i<xs.length
  ·have h2: ¬i<ys.length:=by omega
   simp[h1,h2]
  ·simp[h1]) xs.length 0 aQ (by omega) (jO _ (by omega))
 rw[show (((0:Nat):Int))=(0:Int) from rfl] at h0
 rcases h0 with ⟨r,e,h1,h2⟩ | ⟨s,e,h1⟩
 ·exact ⟨r,by rw[e];rfl,by simp[h1,h2]⟩
 ·rw[e]
  simp only[aM]
  by_cases c1:xs.length<ys.length
  ·exact ⟨-1,by simp[c1],by simp;intro e;subst e;omega⟩
  ·by_cases c2:xs.length>ys.length
   ·exact ⟨1,by simp[c1,c2],by simp;intro e;subst e;omega⟩
   ·exact ⟨0,by simp[c1,c2],by simpa using h1 (by omega)⟩
theorem DS (xs ys:List Int) (hN:xs.length<=9223372036854775807):c8 xs ys=some (decide (xs=ys)):=
 eqL (f:=cE xs ys) xs ys hN (fun i h h'=>by
  simp only[cE,cW h,if_true,aO h,aO h',aa,ai (show i<9223372036854775807 by omega)]
  by_cases c:xs[i] =ys[i] <;> simp[c]) (by simp only[cE,cx];rfl)
def Jm (a:AutT):List Int:=(List.range a.2.1.length).map fun s:Nat=>if nth (live a) (s:Int)=true then (if nth a.2.1 (s:Int)=true then 1 else 0) else -1
def ent (a:AutT) (c:List Int) (s:Int) (k:Nat):Int:=if mv a s k<0 then -1 else nth c (mv a s k)
def BY (a:AutT) (c:List Int) (s:Int):List Int:=nth c s::(List.range 9).map fun k=>ent a c s k
def Ci (a:AutT) (c:List Int) (s:Nat):Option (List Int):=if nth c (s:Int)<0 then none else some (BY a c s)
def keys (a:AutT) (c:List Int):List (Option (List Int)):=(List.range a.2.1.length).map (Ci a c)
def AF (a:AutT) (c:List Int):List Int:=nbR [] (keys a c)
def wT (a:AutT) (c:List Int):Nat:=(nbS [] (keys a c)).length
def cI (a:AutT):Nat->List Int
 | 0=>Jm a
 | j+1=>AF a (cI a j)
section
variable {a:AutT} {n:Nat}
theorem ez (a:AutT) (c:List Int):(keys a c).length=a.2.1.length:=by simp[keys]
theorem FA {c:List Int} {s:Nat} (h:s<a.2.1.length):nth (keys a c) (s:Int)=Ci a c s:=by
 rw[bT (by simpa [keys] using h)];simp[keys]
theorem yO (a:AutT) (c:List Int):(AF a c).length=a.2.1.length:=by rw[AF,eN,ez]
theorem nk (a:AutT): ∀j,(cI a j).length=a.2.1.length
 | 0=>by simp[cI,Jm]
 | j+1=>yO a _
theorem px {κ:Type} [DecidableEq κ] : ∀(l:List κ) (os:List (Option κ)),(nbS l os).length<=l.length+os.length
 | l,[] =>by simp[nbS]
 | l,o::os=>by
  have h:=px (nbL l o) os
  have:(nbL l o).length<=l.length+1:=by
   cases o with
   | none=>simp[nbL]
   | some x=>unfold nbL;simp only;split <;> simp
  show (nbS (nbL l o) os).length<=_
  rw[au];omega
theorem FC (a:AutT) (c:List Int):wT a c<=a.2.1.length:=by
 have:=px ([] :List (List Int)) (keys a c)
 rw[ez] at this
 simpa [wT] using this
theorem BZ {c:List Int} {s:Nat} (h:s<a.2.1.length):nth (AF a c) (s:Int)=nbI (nbS [] (keys a c)) (Ci a c s):=by
 rw[AF,Mj _ _ _ (by rw[ez];exact h),FA h]
theorem yP {c:List Int} {s:Nat} (h:s<a.2.1.length) (hc: ¬nth c (s:Int)<0):BY a c s∈nbS [] (keys a c):=by
 refine n9.2 (.inr ?_)
 refine List.mem_map.2 ⟨s,List.mem_range.2 h,?_⟩
 unfold Ci;rw[if_neg hc]
theorem wU {c:List Int} {s:Nat} (h:s<a.2.1.length):(nth (AF a c) (s:Int)<0↔nth c (s:Int)<0)/\(nth (AF a c) (s:Int)<0->nth (AF a c) (s:Int)= -1):=by
 rw[BZ h]
 unfold Ci
 by_cases hc:nth c (s:Int)<0
 ·rw[if_pos hc];simp[nbI,hc]
 ·rw[if_neg hc]
  obtain ⟨q,hq,e,-⟩:=oc (yP h hc)
  rw[e]
  exact ⟨⟨fun h=>by omega,fun h=>absurd h hc⟩,fun h=>by omega⟩
theorem Tp {c:List Int} {s:Nat} (h:s<a.2.1.length):nth (AF a c) (s:Int)<(a.2.1.length:Int):=by
 rw[BZ h]
 unfold Ci
 by_cases hc:nth c (s:Int)<0
 ·rw[if_pos hc];simp only[nbI];omega
 ·rw[if_neg hc]
  obtain ⟨q,hq,e,-⟩:=oc (yP h hc)
  have:=FC a c
  unfold wT at this
  rw[e];omega
theorem Ml {c:List Int} {s t:Nat} (hs:s<a.2.1.length) (ht:t<a.2.1.length) (h0:0<=nth (AF a c) (s:Int)) (h:nth (AF a c) (s:Int)=nth (AF a c) (t:Int)):BY a c s=BY a c t:=by
 have n1: ¬nth c (s:Int)<0:=fun k=>by have:=(wU hs).1.2 k;omega
 have n2: ¬nth c (t:Int)<0:=fun k=>by have:=(wU ht).1.2 k;omega
 rw[BZ hs,BZ ht] at h
 unfold Ci at h
 rw[if_neg n1,if_neg n2] at h
 obtain ⟨q,hq,e1,e2⟩:=oc (yP hs n1)
 obtain ⟨q',hq',e1',e2'⟩:=oc (yP ht n2)
 rw[e1,e1'] at h
 obtain rfl:q=q':=by omega
 rw[<-e2,<-e2']
theorem AG (a:AutT) {s:Nat} (h:s<a.2.1.length): ∀j,(nth (cI a j) (s:Int)<0↔nth (live a) (s:Int)=false)/\(nth (cI a j) (s:Int)<0->nth (cI a j) (s:Int)= -1)
 | 0=>by
  have e:nth (cI a 0) (s:Int)=if nth (live a) (s:Int)=true then (if nth a.2.1 (s:Int)=true then 1 else 0) else -1:=by
   show nth (Jm a) (s:Int)=_
   rw[bT (by simpa [Jm] using h)];simp[Jm]
  rw[e]
  cases nth (live a) (s:Int) <;> cases nth a.2.1 (s:Int) <;> simp
 | j+1=>by
  have ih:=AG a h j
  have:=wU (c:=cI a j) h
  exact ⟨this.1.trans ih.1,this.2⟩
theorem QW (a:AutT) {s t:Nat} (hs:s<a.2.1.length) (ht:t<a.2.1.length): ∀j,0<=nth (cI a j) (s:Int)->nth (cI a j) (s:Int)=nth (cI a j) (t:Int)->nth a.2.1 (s:Int)=nth a.2.1 (t:Int)
 | 0,h0,h=>by
  have e: ∀ {s:Nat},s<a.2.1.length->nth (cI a 0) (s:Int)=if nth (live a) (s:Int)=true then (if nth a.2.1 (s:Int)=true then 1 else 0) else -1:=by
   intro s h
   show nth (Jm a) (s:Int)=_
   rw[bT (by simpa [Jm] using h)];simp[Jm]
  rw[e hs] at h0 h
  rw[e ht] at h
  revert h0 h
  cases nth (live a) (s:Int) <;> cases nth a.2.1 (s:Int) <;> cases nth (live a) (t:Int) <;> cases nth a.2.1 (t:Int) <;> simp
 | j+1,h0,h=>by
  have k:=Ml (c:=cI a j) hs ht h0 h
  have h1:nth (cI a j) (s:Int)=nth (cI a j) (t:Int):=by
   unfold BY at k;injection k
  refine QW a hs ht j ?_ h1
  have:=(wU (c:=cI a j) hs).1
  by_cases q:nth (cI a j) (s:Int)<0
  ·have:=this.2 q
   have h0:0<=nth (AF a (cI a j)) (s:Int):=h0
   omega
  ·omega
theorem Tq (a:AutT) (j:Nat):QV (cI a (j+1)) 0 (wT a (cI a j)):=BX (keys a (cI a j)) []
theorem Pw (a:AutT) {c:List Int} (hc:c.length=a.2.1.length):Wv c (keys a c):=by
 refine Mk _ _ (by rw[ez,hc]) fun i h h'=>?_
 have e1:c[i] =nth c (i:Int):=(bT h).symm
 have e2:(keys a c)[i] =Ci a c i:=by simp[keys]
 rw[e1,e2]
 unfold Ci
 by_cases k:nth c (i:Int)<0
 ·exact .inl ⟨k,by rw[if_pos k]⟩
 ·exact .inr ⟨by omega,_,by rw[if_neg k];rfl⟩
theorem Mm (a:AutT) (j:Nat):wT a (cI a j)<=wT a (cI a (j+1))/\(wT a (cI a (j+1))=wT a (cI a j)->cI a (j+2)=cI a (j+1)):=by
 obtain ⟨h1,h2⟩:=nj (cI a (j+1)) (keys a (cI a (j+1))) [] 0 (wT a (cI a j)) (Pw a (nk a _)) (Tq a j) (fun y hy=>by cases hy)
 exact ⟨by simpa [wT] using h1,fun h=>h2 rfl (fun q hq=>absurd hq (Nat.not_lt_zero q)) h⟩
theorem QX {j k:Nat} (h:cI a (j+1)=cI a j) (hk:j<=k):cI a k=cI a j:=by
 induction hk with
 | refl=>rfl
 | step _ ih=>rw[cI,ih];exact h
theorem Mn {j k:Nat} (h:cI a (j+1)=cI a j) (h':cI a (k+1)=cI a k):cI a j=cI a k:=by
 rcases Nat.le_total j k with e | e
 ·exact (QX h e).symm
 ·exact QX h' e
theorem Ts (a:AutT): ∃j,j<=a.2.1.length/\cI a (j+1)=cI a j:=by
 by_cases h0:cI a 1=cI a 0
 ·exact ⟨0,Nat.zero_le _,h0⟩
 have hpos:1<=wT a (cI a 0):=by
  refine Nat.one_le_iff_ne_zero.2 fun hz=>h0 ?_
  have hnone: ∀s:Nat,s<a.2.1.length->nth (cI a 0) (s:Int)<0:=fun s hs=>by
   refine Classical.byContradiction fun k=>?_
   have:=yP (c:=cI a 0) hs k
   have hl:=List.length_pos_of_mem this
   unfold wT at hz;omega
  refine Tf (by rw[nk,nk]) fun i hi=>?_
  rw[nk] at hi
  have h1:=(AG a hi 0).2 (hnone i hi)
  have h2:=(AG a hi 1).2 (((AG a hi 1).1.trans (AG a hi 0).1.symm).2 (hnone i hi))
  rw[h1,h2]
 have key: ∀m,(∃j,j<=m/\cI a (j+1)=cI a j)\/m+1<=wT a (cI a m):=by
  intro m
  induction m with
  | zero=>exact .inr hpos
  | succ m ih =>
   rcases ih with ⟨j,hj,e⟩ | ih
   ·exact .inl ⟨j,by omega,e⟩
   ·obtain ⟨g1,g2⟩:=Mm a m
    by_cases e:wT a (cI a (m+1))=wT a (cI a m)
    ·exact .inl ⟨m+1,aC _,g2 e⟩
    ·exact .inr (by omega)
 rcases key a.2.1.length with h | h
 ·exact h
 ·have:=FC a (cI a a.2.1.length);omega
end
end D
end Go.Proofs.YtbhafdfiplkacaaGreat
