/- FnExactIncludedQueries: for every input the law returns true and changes nothing that was there. Part 6 of 7. -/
import Derived.Test.YtcmpdlhbliolaaaGreatIC4
set_option linter.unusedVariables false
set_option linter.unusedSimpArgs false
set_option linter.unnecessarySimpa false
set_option linter.unusedSectionVars false
set_option maxRecDepth 1000000
namespace Go.Proofs.YtcmpdlhbliolaaaGreat
namespace R
open Go.RowKit
open D
theorem zC:FOk Tryz.prog 287 rJ:=fok (V:=⟨tt,[],[],8,[]⟩) au trivial mixed Tryz.func287 rfl rfl (enters_of Tryz.func287 (by kernel_rfl) rfl) rfl (Nat.le_of_ble_eq_true rfl) rfl .no (fun d=>by kernel_rfl)
theorem Dz:FOk Tryz.prog 211 wj:=fok (V:=⟨tt,[(80,lu),(81,nq),(284,bN),(285,rI),(287,rJ)],[],80,[]⟩) au ⟨n7,ur,dZ,zB,zC,trivial⟩ mixed Tryz.func211 rfl rfl (enters_of Tryz.func211 (by kernel_rfl) rfl) rfl (Nat.le_of_ble_eq_true rfl) rfl (.two .no (.two .no (.two (.two .no (.loop [.slot 13 (.num .i64),.box 4 [(.own 29 y29),(.own 102 zq)]] (.two .no (.two .no (.two (.two .no (.two .no (.two .no (.two .no (.join [.slot 9 (.num .i64),.box 4 [(.own 29 y29),(.own 102 zq)],.gone 7] .no .no))))) .no))))) .no))) (fun d=>by kernel_rfl)
theorem bI:FOk Tryz.prog 288 aT:=fok (V:=⟨tt,[],[],32,[]⟩) au trivial mixed Tryz.func288 rfl rfl (enters_of Tryz.func288 (by kernel_rfl) rfl) rfl (Nat.le_of_ble_eq_true rfl) rfl (.two .no (.two .no (.two (.two .no (.loop [.slot 17 (.num .i64)] .no)) .no))) (fun d=>by kernel_rfl)
theorem bC:FOk Tryz.prog 289 aP:=fok (V:=⟨tt,[],[],32,[]⟩) au trivial mixed Tryz.func289 rfl rfl (enters_of Tryz.func289 (by kernel_rfl) rfl) rfl (Nat.le_of_ble_eq_true rfl) rfl (.two .no (.two .no (.two (.two .no (.loop [.slot 17 (.num .i64)] .no)) .no))) (fun d=>by kernel_rfl)
theorem iW:FOk Tryz.prog 360 dB:=fok (V:=⟨tt,[],[],26,[]⟩) au trivial mixed Tryz.func360 rfl rfl (enters_of Tryz.func360 (by kernel_rfl) rfl) rfl (Nat.le_of_ble_eq_true rfl) rfl (.two .no (.two .no (.two (.two .no (.loop [.slot 13 (.num .i64)] .no)) .no))) (fun d=>by kernel_rfl)
theorem vj:FOk Tryz.prog 336 oC:=fok (V:=⟨tt,[(360,dB)],[],10,[]⟩) au ⟨iW,trivial⟩ mixed Tryz.func336 rfl rfl (enters_of Tryz.func336 (by kernel_rfl) rfl) rfl (Nat.le_of_ble_eq_true rfl) rfl .no (fun d=>by kernel_rfl)
theorem sb:FOk Tryz.prog 290 mA:=fok (V:=⟨tt,[(336,oC)],[],24,[]⟩) au ⟨vj,trivial⟩ mixed Tryz.func290 rfl rfl (enters_of Tryz.func290 (by kernel_rfl) rfl) rfl (Nat.le_of_ble_eq_true rfl) rfl .no (fun d=>by kernel_rfl)
theorem ph:FOk Tryz.prog 212 j7:=fok (V:=⟨tt,[(286,il),(288,aT),(289,aP),(290,mA)],[],17,[]⟩) au ⟨lH,bI,bC,sb,trivial⟩ mixed Tryz.func212 rfl rfl (enters_of Tryz.func212 (by kernel_rfl) rfl) rfl (Nat.le_of_ble_eq_true rfl) rfl .no (fun d=>by kernel_rfl)
theorem pj:FOk Tryz.prog 141 j8:=fok (V:=⟨tt,[(211,wj),(212,j7)],[],17,[]⟩) au ⟨Dz,ph,trivial⟩ mixed Tryz.func141 rfl rfl (enters_of Tryz.func141 (by kernel_rfl) rfl) rfl (Nat.le_of_ble_eq_true rfl) rfl .no (fun d=>by kernel_rfl)
theorem rQ:FOk Tryz.prog 202 nr:=fok (V:=⟨tt,[],[],6,[]⟩) au trivial mixed Tryz.func202 rfl rfl (enters_of Tryz.func202 (by kernel_rfl) rfl) rfl (Nat.le_of_ble_eq_true rfl) rfl .no (fun d=>by kernel_rfl)
theorem q8:FOk Tryz.prog 142 lA:=fok (V:=⟨tt,[(202,nr)],[],29,[]⟩) au ⟨rQ,trivial⟩ mixed Tryz.func142 rfl rfl (enters_of Tryz.func142 (by kernel_rfl) rfl) rfl (Nat.le_of_ble_eq_true rfl) rfl (.two .no (.two .no (.two (.two .no (.loop [.slot 16 (.num .i64),.box 3 [(.num .i64),(.own 4 y4),(.own 39 y39)]] .no)) .no))) (fun d=>by kernel_rfl)
theorem qj:FOk Tryz.prog 67 kO:=fok (V:=⟨tt,[(140,p9),(141,j8),(142,lA)],[],29,[]⟩) au ⟨xo,pj,q8,trivial⟩ mixed Tryz.func67 rfl rfl (enters_of Tryz.func67 (by kernel_rfl) rfl) rfl (Nat.le_of_ble_eq_true rfl) rfl .no (fun d=>by kernel_rfl)
theorem jn:FOk Tryz.prog 48 fl:=fok (V:=⟨tt,[(80,lu)],[],52,[]⟩) au ⟨n7,trivial⟩ mixed Tryz.func48 rfl rfl (enters_of Tryz.func48 (by kernel_rfl) rfl) rfl (Nat.le_of_ble_eq_true rfl) rfl (.two .no (.two .no (.two .no (.two (.two .no (.loop [.slot 32 (.num .i64)] (.two .no (.two .no (.two (.two .no (.two (.two .no (.loop [.slot 38 (.num .i64)] .no)) .no)) .no))))) .no)))) (fun d=>by kernel_rfl)
theorem oi:FOk Tryz.prog 123 jk:=fok (V:=⟨tt,[(202,nr)],[(18,.bag MC),(23,.bool),(58,.bag MC)],60,[]⟩) au ⟨rQ,trivial⟩ mixed Tryz.func123 rfl rfl (enters_of Tryz.func123 (by kernel_rfl) rfl) rfl (Nat.le_of_ble_eq_true rfl) rfl (.two .no (.two .no (.two (.two .no (.loop [.slot 9 (.own 226 (.bag MC)),.slot 8 (.map ⟨154,4,.ii,.bool⟩)] (.two .no (.two (.two .no (.two .no (.two .no (.loop [.slot 9 (.own 226 (.bag MC)),.slot 11 (.num .i64),.slot 8 (.map ⟨154,4,.ii,.bool⟩)] (.two .no (.two (.at [.slot 9 (.own 226 (.bag MC)),.slot 8 (.map ⟨154,4,.ii,.bool⟩)] .no) .no)))))) .no)))) .no))) (fun d=>by kernel_rfl)
theorem vk:FOk Tryz.prog 205 oD:=fok (V:=⟨tt,[(116,gR)],[],18,[]⟩) au ⟨kQ,trivial⟩ mixed Tryz.func205 rfl rfl (enters_of Tryz.func205 (by kernel_rfl) rfl) rfl (Nat.le_of_ble_eq_true rfl) rfl .no (fun d=>by kernel_rfl)
theorem xq (c d:List Value) (w:World):Calls Tryz.prog 124 #[.agg c.toArray,.agg d.toArray] w fun e w'=>e= .returned (.func (.func 205) #[] #[.pointer (some ⟨w.heap.size,0,none⟩),.pointer (some ⟨w.heap.size+1,0,none⟩)])∧w'=(w.alloc (.cells c.toArray 29)).alloc (.cells d.toArray 29):=by
 go_enter Tryz.func124,Tryz.ntmps124
 go_wp2
 go_ret
 exact ⟨rfl,rfl⟩
theorem zD:FOk Tryz.prog 124 gh:=MB (f:=gh) (fE (f:=⟨gh.ps,gh.rs,gh.m,none⟩) (enters_of Tryz.func124 (by kernel_rfl) rfl) rfl (fun d=>rfl)) (Oc (enters_of Tryz.func124 (by kernel_rfl) rfl) xq)
theorem nB:FOk Tryz.prog 126 iV:=fok (V:=⟨tt,[],[],14,[]⟩) au trivial mixed Tryz.func126 rfl rfl (enters_of Tryz.func126 (by kernel_rfl) rfl) rfl (Nat.le_of_ble_eq_true rfl) rfl .no (fun d=>by kernel_rfl)
end R
namespace R
open Go.RowKit
open D
theorem q9:FOk Tryz.prog 213 lB:=fok (V:=⟨tt,[(126,iV)],[],16,[]⟩) au ⟨nB,trivial⟩ mixed Tryz.func213 rfl rfl (enters_of Tryz.func213 (by kernel_rfl) rfl) rfl (Nat.le_of_ble_eq_true rfl) rfl .no (fun d=>by kernel_rfl)
theorem uu:FOk Tryz.prog 143 nt:=fok (V:=⟨tt,[(48,fl),(123,jk),(124,gh),(205,oD),(213,lB)],[],26,[]⟩) au ⟨jn,oi,zD,vk,q9,trivial⟩ mixed Tryz.func143 rfl rfl (enters_of Tryz.func143 (by kernel_rfl) rfl) rfl (Nat.le_of_ble_eq_true rfl) rfl .no (fun d=>by kernel_rfl)
theorem oj:FOk Tryz.prog 68 jl:=fok (V:=⟨tt,[(48,fl),(143,nt)],[],23,[]⟩) au ⟨jn,uu,trivial⟩ mixed Tryz.func68 rfl rfl (enters_of Tryz.func68 (by kernel_rfl) rfl) rfl (Nat.le_of_ble_eq_true rfl) rfl .no (fun d=>by kernel_rfl)
theorem pn:FOk Tryz.prog 18 j9:=fok (V:=⟨tt,[(67,kO),(68,jl)],[],47,[]⟩) au ⟨qj,oj,trivial⟩ mixed Tryz.func18 rfl rfl (enters_of Tryz.func18 (by kernel_rfl) rfl) rfl (Nat.le_of_ble_eq_true rfl) rfl (.two .no (.two .no (.two .no (.two .no (.two (.two .no (.loop [.slot 7 (.own 3 y3),.slot 22 (.num .i64)] (.two .no (.two .no (.join [.slot 7 (.own 3 y3)] .no .no))))) .no))))) (fun d=>by kernel_rfl)
theorem wq:FOk Tryz.prog 19 qV:=fok (V:=⟨tt,[],[],26,[]⟩) au trivial mixed Tryz.func19 rfl rfl (enters_of Tryz.func19 (by kernel_rfl) rfl) rfl (Nat.le_of_ble_eq_true rfl) rfl (.two .no (.two .no (.two (.two .no (.loop [.slot 5 (.num .i64)] .no)) .no))) (fun d=>by kernel_rfl)
theorem A8:FOk Tryz.prog 56 tY:=fok (V:=⟨tt,[],[],26,[]⟩) au trivial mixed Tryz.func56 rfl rfl (enters_of Tryz.func56 (by kernel_rfl) rfl) rfl (Nat.le_of_ble_eq_true rfl) rfl (.two .no (.two .no (.two (.two .no (.loop [.slot 5 (.num .i64)] .no)) .no))) (fun d=>by kernel_rfl)
theorem A9:FOk Tryz.prog 57 tZ:=fok (V:=⟨tt,[(19,qV)],[],27,[]⟩) au ⟨wq,trivial⟩ mixed Tryz.func57 rfl rfl (enters_of Tryz.func57 (by kernel_rfl) rfl) rfl (Nat.le_of_ble_eq_true rfl) rfl (.two .no (.two .no (.two (.two .no (.loop [.slot 5 (.num .i64)] .no)) .no))) (fun d=>by kernel_rfl)
theorem uv:FOk Tryz.prog 12 nv:=fok (V:=⟨tt,[(56,tY),(57,tZ)],[],22,[]⟩) au ⟨A8,A9,trivial⟩ mixed Tryz.func12 rfl rfl (enters_of Tryz.func12 (by kernel_rfl) rfl) rfl (Nat.le_of_ble_eq_true rfl) rfl .no (fun d=>by kernel_rfl)
theorem sd:FOk Tryz.prog 69 mB:=fok (V:=⟨tt,[(12,nv)],[],27,[]⟩) au ⟨uv,trivial⟩ mixed Tryz.func69 rfl rfl (enters_of Tryz.func69 (by kernel_rfl) rfl) rfl (Nat.le_of_ble_eq_true rfl) rfl (.two .no (.two .no (.two (.two .no (.loop [.slot 5 (.num .i64)] .no)) .no))) (fun d=>by kernel_rfl)
theorem Ba:FOk Tryz.prog 162 ua:=fok (V:=⟨tt,[],[],25,[]⟩) au trivial mixed Tryz.func162 rfl rfl (enters_of Tryz.func162 (by kernel_rfl) rfl) rfl (Nat.le_of_ble_eq_true rfl) rfl .no (fun d=>by kernel_rfl)
theorem zE:FOk Tryz.prog 83 rK:=fok (V:=⟨tt,[(162,ua)],[],27,[]⟩) au ⟨Ba,trivial⟩ mixed Tryz.func83 rfl rfl (enters_of Tryz.func83 (by kernel_rfl) rfl) rfl (Nat.le_of_ble_eq_true rfl) rfl (.two .no (.two .no (.two (.two .no (.loop [.slot 5 (.num .i64)] .no)) .no))) (fun d=>by kernel_rfl)
theorem DA:FOk Tryz.prog 28 wk:=fok (V:=⟨tt,[(83,rK)],[],11,[]⟩) au ⟨zE,trivial⟩ mixed Tryz.func28 rfl rfl (enters_of Tryz.func28 (by kernel_rfl) rfl) rfl (Nat.le_of_ble_eq_true rfl) rfl .no (fun d=>by kernel_rfl)
theorem se:FOk Tryz.prog 144 mC:=fok (V:=⟨tt,[(28,wk)],[],21,[]⟩) au ⟨DA,trivial⟩ mixed Tryz.func144 rfl rfl (enters_of Tryz.func144 (by kernel_rfl) rfl) rfl (Nat.le_of_ble_eq_true rfl) rfl .no (fun d=>by kernel_rfl)
theorem ra:FOk Tryz.prog 70 lC:=fok (V:=⟨tt,[(144,mC)],[],27,[]⟩) au ⟨se,trivial⟩ mixed Tryz.func70 rfl rfl (enters_of Tryz.func70 (by kernel_rfl) rfl) rfl (Nat.le_of_ble_eq_true rfl) rfl (.two .no (.two .no (.two (.two .no (.loop [.slot 5 (.num .i64)] .no)) .no))) (fun d=>by kernel_rfl)
theorem vl:FOk Tryz.prog 20 oE:=fok (V:=⟨tt,[(69,mB),(70,lC)],[],17,[]⟩) au ⟨sd,ra,trivial⟩ mixed Tryz.func20 rfl rfl (enters_of Tryz.func20 (by kernel_rfl) rfl) rfl (Nat.le_of_ble_eq_true rfl) rfl .no (fun d=>by kernel_rfl)
theorem xr:FOk Tryz.prog 145 qb:=fok (V:=⟨tt,[],[],21,[]⟩) au trivial mixed Tryz.func145 rfl rfl (enters_of Tryz.func145 (by kernel_rfl) rfl) rfl (Nat.le_of_ble_eq_true rfl) rfl (.two .no (.two (.two .no (.loop [.par 0 [] 4 y4,.slot 1 (.num .i64),.slot 5 (.num .i64)] .no)) .no)) (fun d=>by kernel_rfl)
theorem rR:FOk Tryz.prog 22 nw:=fok (V:=⟨tt,[],[],19,[]⟩) au trivial mixed Tryz.func22 rfl rfl (enters_of Tryz.func22 (by kernel_rfl) rfl) rfl (Nat.le_of_ble_eq_true rfl) rfl (.two .no (.two (.two .no (.loop [.par 0 [] 3 y3,.slot 1 (.num .i64),.slot 5 (.num .i64)] .no)) .no)) (fun d=>by kernel_rfl)
end R
namespace R
open Go.RowKit
open D
theorem xt:FOk Tryz.prog 146 qc:=fok (V:=⟨tt,[(22,nw)],[],19,[]⟩) au ⟨rR,trivial⟩ mixed Tryz.func146 rfl rfl (enters_of Tryz.func146 (by kernel_rfl) rfl) rfl (Nat.le_of_ble_eq_true rfl) rfl (.two .no (.two (.two .no (.loop [.par 0 [] 39 y39,.slot 1 (.num .i64),.slot 5 (.num .i64)] .no)) .no)) (fun d=>by kernel_rfl)
theorem qk:FOk Tryz.prog 71 kP:=fok (V:=⟨tt,[(145,qb),(146,qc)],[],34,[]⟩) au ⟨xr,xt,trivial⟩ mixed Tryz.func71 rfl rfl (enters_of Tryz.func71 (by kernel_rfl) rfl) rfl (Nat.le_of_ble_eq_true rfl) rfl (.two .no (.two (.two .no (.loop [.par 0 [] 29 y29,.slot 1 (.num .i64),.slot 5 (.num .i64)] .no)) .no)) (fun d=>by kernel_rfl)
theorem vm:FOk Tryz.prog 147 oF:=fok (V:=⟨tt,[],[],41,[]⟩) au trivial mixed Tryz.func147 rfl rfl (enters_of Tryz.func147 (by kernel_rfl) rfl) rfl (Nat.le_of_ble_eq_true rfl) rfl (.two .no (.two (.two .no (.loop [.par 0 [] 179 rB,.slot 1 (.num .i64),.slot 5 (.num .i64)] .no)) .no)) (fun d=>by kernel_rfl)
theorem po:FOk Tryz.prog 72 kc:=fok (V:=⟨tt,[(147,oF)],[],35,[]⟩) au ⟨vm,trivial⟩ mixed Tryz.func72 rfl rfl (enters_of Tryz.func72 (by kernel_rfl) rfl) rfl (Nat.le_of_ble_eq_true rfl) rfl (.two .no (.two (.two .no (.loop [.par 0 [] 102 zq,.slot 1 (.num .i64),.slot 5 (.num .i64)] .no)) .no)) (fun d=>by kernel_rfl)
theorem sf:FOk Tryz.prog 21 mD:=fok (V:=⟨tt,[(71,kP),(72,kc)],[],14,[]⟩) au ⟨qk,po,trivial⟩ mixed Tryz.func21 rfl rfl (enters_of Tryz.func21 (by kernel_rfl) rfl) rfl (Nat.le_of_ble_eq_true rfl) rfl .no (fun d=>by kernel_rfl)
theorem zF:FOk Tryz.prog 23 rL:=fok (V:=⟨tt,[],[],21,[]⟩) au trivial mixed Tryz.func23 rfl rfl (enters_of Tryz.func23 (by kernel_rfl) rfl) rfl (Nat.le_of_ble_eq_true rfl) rfl (.two .no (.two (.two .no (.loop [.slot 1 (.num .i64),.slot 5 (.num .i64)] .no)) .no)) (fun d=>by kernel_rfl)
theorem kt:FOk Tryz.prog 5 kp:=fok (V:=⟨tt,[(15,oo),(16,j0),(17,oA),(18,j9),(19,qV),(20,oE),(21,mD),(22,nw),(23,rL)],[],74,[]⟩) au ⟨uY,pc,vh,pn,wq,vl,sf,rR,zF,trivial⟩ mixed Tryz.func5 rfl rfl (enters_of Tryz.func5 (by kernel_rfl) rfl) rfl (Nat.le_of_ble_eq_true rfl) rfl .no (fun d=>by kernel_rfl)
end R
namespace D
open Go.RowKit
theorem ku (x0:(List (Int×(List Bool)×(List (List Int))))×(List (Int×((List (Int×Int×Int×Int)))×Int))) (x1:Int) (r:Bool) (hm:bP x0 x1=some r) {I:Hp} {w0:World} (v0_0:Value) (v0_1:Value) (r0_0:(aa 25 (aU cA (aU (aa 4 mN) (aa 39 (aa 3 cA))))).rd I [v0_0] x0.1) (r0_1:(aa 163 (aU cA (aU (aa 181 (aU cA (aU cA (aU cA cA)))) cA))).rd I [v0_1] x0.2) (hL:Lay Tryz.prog I):Con Tryz.prog 5 #[.agg #[v0_0,v0_1],.int .i64 x1] I w0 [] (fun v=>v= .bool r) (fun _=>[]):=fun w C hs =>
 ((R.kt).con w0 I [.agg #[v0_0,v0_1],.int .i64 x1] (x0,(x1,())) r hL ⟨_,_,rfl,⟨[v0_0,v0_1],rfl,⟨_,_,rfl,r0_0,r0_1⟩⟩,⟨_,_,rfl,⟨[.int .i64 x1],rfl,rfl⟩,rfl⟩⟩ hm w C hs).mono fun e w' ⟨v,he,_,hst⟩=>by
  obtain ⟨h1,h2⟩:=R.pL (h1:=fun _=>rfl) (show St I w0 w' (Ch.own R.Ty.bool.rep [v] r::C) from hst)
  exact ⟨v,he,(List.cons.inj h1).1,h2⟩
end D
namespace D
open Go.RowKit
def I64 (n:Int):Prop:= -9223372036854775808≤n∧n≤9223372036854775807
class Data (α:Type) where
 lim:α→Prop
 sm:α→Prop
instance:Data Int:=⟨I64,fun _=>True⟩
instance:Data Bool:=⟨fun _=>True,fun _=>True⟩
instance:Data ByteArray:=⟨fun s=>s.size≤9223372036854775807,fun s=>s.size≤1048576⟩
instance {α β:Type} [Data α] [Data β] :Data (α×β):=⟨fun x=>Data.lim x.1∧Data.lim x.2,fun x=>Data.sm x.1∧Data.sm x.2⟩
instance {α:Type} [Data α] :Data (List α):=⟨fun xs=>xs.length≤9223372036854775807∧ ∀x,x∈xs→Data.lim x,fun xs=>xs.length≤1048576∧ ∀x,x∈xs→Data.sm x⟩
structure Opens (P:Program) (t:TypeId) {α:Type} [Data α] (R:Rep α):Prop where
 out: ∀ {H:Type} (enc:TypeId×Value→H) (w:World) (fuel:Nat) (cs:List Value) (x:DataW H×List MemPlace),DataW.trod enc P w 0 (fun _=>true) true fuel t cs=some x→ ∃a:α,R.rd (hp w) cs a∧Data.lim a
theorem Gc {P:Program} {t:TypeId} (h:P.underlying t=some (.int .i64)):Opens P t cA:=by
 constructor
 intro H enc w fuel cs x hx
 obtain ⟨n,rfl,-,hw⟩:=DataW.trod_int h hx
 refine ⟨n,rfl,show I64 n from ?_⟩
 simp[Lit.wf,IntKind.min,IntKind.max,IntKind.signed,IntKind.bits] at hw
 unfold I64
 omega
theorem DB {P:Program} {t:TypeId} (h:P.underlying t=some .bool):Opens P t mN:=by
 constructor
 intro H enc w fuel cs x hx
 obtain ⟨n,rfl,-⟩:=DataW.trod_bool h hx
 exact ⟨n,rfl,trivial⟩
theorem im {P:Program} {t e:TypeId} {α:Type} [Data α] {R:Rep α} {E:TypeId} (h:P.underlying t=some (.slice e)) (hc:P.cellsOf e=R.size) (h0:0<R.size) (he:Opens P e R):Opens P t (aa E R):=by
 constructor
 intro H enc w fuel cs x hx
 rcases Go.Deep.open_slice h hx with ⟨rfl,-⟩ | ⟨a,len,cap,m,n,D,Pl,rfl,-,hl,hm,hmm,-,hel⟩
 ·exact ⟨[],⟨none,0,rfl,by simp,.inl rfl⟩,Nat.zero_le _,fun x hx=>by cases hx⟩
 have hlm:m=cap:=by simpa using hmm
 subst hlm
 rw[hc] at hel
 by_cases hz:len=0
 ·subst hz
  exact ⟨[],⟨some a,m,rfl,by simp,.inl rfl⟩,Nat.zero_le _,fun x hx=>by cases hx⟩
 ·have hone: ∀i,i<len→ ∃c:List Value,∃y:α,c.length=R.size∧(∀j,j<R.size→w.cell? ((a.add (i*R.size)).add j)=c[j]?)∧R.rd (hp w) c y∧Data.lim y:=by
   intro i hi
   obtain ⟨c,h1,h2⟩:=hel i (by omega)
   obtain ⟨-,h3,h4⟩:=World.cells?_some h1
   obtain ⟨y,hy⟩:=he.out enc w _ _ _ h2
   exact ⟨c,y,h3,h4,hy⟩
  obtain ⟨c0,y0,hc0,hr0,-⟩:=hone 0 (by omega)
  have h00:=hr0 0 h0
  have hsome: ∃v,c0[0]? =some v:=⟨_,List.getElem?_eq_getElem (by omega)⟩
  obtain ⟨v,hv⟩:=hsome
  rw[hv] at h00
  have ha:(a.add (0*R.size)).add 0=a:=by simp[Addr.add]
  rw[ha] at h00
  obtain ⟨b,off,spot⟩:=a
  have hb: ∃ccs T fr,w.heap[b]? =some (.cells ccs T fr)∧spot=none:=by
   simp only[World.cell?] at h00
   split at h00
   ·rename_i ccs T fr heq
    cases spot with
    | none=>exact ⟨ccs,T,fr,heq,rfl⟩
    | some s=>simp at h00
   ·simp at h00
  obtain ⟨ccs,T,fr,hh,rfl⟩:=hb
  have hadd: ∀i j,(Addr.add ⟨b,off,none⟩ i).add j=⟨b,off+i+j,none⟩:=by
   intro i j
   by_cases h1:i=0 <;> by_cases h2:j=0 <;> simp[Addr.add,h1,h2,Nat.add_assoc]
  haveI:Inhabited α:=⟨y0⟩
  obtain ⟨X,hX⟩:=Go.Deep.choose_lt (α:=α) (n:=len) (p:=fun i y=> ∃c:List Value,c.length=R.size∧(∀j,j<R.size→ccs.toList[off+i*R.size+j]? =c[j]?)∧R.rd (hp w) c y∧Data.lim y) (fun i hi=>by
   obtain ⟨c,y,h1,h2,h3⟩:=hone i hi
   refine ⟨y,c,h1,fun j hj=>?_,h3⟩
   have:=h2 j hj
   rw[hadd] at this
   simp only[World.cell?,hh] at this
   simpa using this)
  have hlen:((List.range len).map X).length=len:=by simp
  have hel2: ∀i y,((List.range len).map X)[i]? =some y→i<len∧y=X i:=fun i y hy=>by
   have hi:i<len:=by have:=(List.getElem?_eq_some_iff.1 hy).1;omega
   exact ⟨hi,by simpa [hi] using hy.symm⟩
  refine ⟨(List.range len).map X,⟨some ⟨b,off,none⟩,m,by rw[hlen],by rw[hlen];unfold maxLen at hm;unfold lim;omega,.inr ⟨b,off,ccs,T,fr,rfl,hh,fun i y hy=>?_⟩⟩,by rw[hlen];unfold maxLen at hm;omega,fun y hy=>?_⟩
  ·obtain ⟨hi,rfl⟩:=hel2 i y hy
   obtain ⟨c,e1,e2,e3,-⟩:=hX i hi
   exact ⟨c,e1,e2,e3⟩
  ·obtain ⟨i,hi,he⟩:=List.mem_iff_getElem?.1 hy |>.imp fun i hi=>hel2 i y hi
   obtain ⟨-,-,-,-,e4⟩:=hX i hi
   rw[he];exact e4
structure OpensFs (P:Program) (fs:List Field) (o:Nat) {α:Type} [Data α] (R:Rep α):Prop where
 out: ∀ {H:Type} (enc:TypeId×Value→H) (w:World) (fuel:Nat) (cs:List Value),cs.length=o+R.size→
  (∀f∈fs,∃x,DataW.trod enc P w 0 (fun _=>true) true fuel f.type ((cs.drop f.offset).take (P.cellsOf f.type))=some x)→ ∃a:α,R.rd (hp w) (cs.drop o) a∧Data.lim a
theorem lI {P:Program} {f:Field} {o:Nat} {α:Type} [Data α] {R:Rep α} (ho:f.offset=o) (hc:P.cellsOf f.type=R.size) (h:Opens P f.type R):OpensFs P [f] o R:=by
 constructor
 intro H enc w fuel cs hl hx
 obtain ⟨x,hx⟩:=hx f (by simp)
 rw[ho,hc,List.take_of_length_le (by rw[List.length_drop];omega)] at hx
 exact h.out enc w _ _ _ hx
theorem gi {P:Program} {f:Field} {fs:List Field} {o:Nat} {α β:Type} [Data α] [Data β] {R:Rep α} {S:Rep β} (ho:f.offset=o) (hc:P.cellsOf f.type=R.size) (h:Opens P f.type R) (hs:OpensFs P fs (o+R.size) S):OpensFs P (f::fs) o (aU R S):=by
 constructor
 intro H enc w fuel cs hl hx
 have hl':cs.length=o+(R.size+S.size):=hl
 obtain ⟨b,hb,hlb⟩:=hs.out enc w fuel cs (by omega) (fun g hg=>hx g (by simp[hg]))
 obtain ⟨x,hx⟩:=hx f (by simp)
 rw[ho,hc] at hx
 obtain ⟨a,ha,hla⟩:=h.out enc w _ _ _ hx
 refine ⟨(a,b),⟨(cs.drop o).take R.size,cs.drop (o+R.size),?_,ha,hb⟩,hla,hlb⟩
 rw[←List.drop_drop,List.take_append_drop]
theorem iX {P:Program} {t:TypeId} {fs:Array Field} {α:Type} [Data α] {R:Rep α} (h:P.underlying t=some (.struct fs)) (hc:P.cellsOf t=R.size) (hf:OpensFs P fs.toList 0 R):Opens P t R:=by
 constructor
 intro H enc w fuel cs x hx
 obtain ⟨xs,n,-,-,hl,hn,hel⟩:=DataW.trod_struct h hx
 have:=hf.out enc w n cs (by omega) (fun f hm=>by
  obtain ⟨i,hi,rfl⟩:=List.getElem_of_mem hm
  have h1:fs[i]? =some fs.toList[i]:=by simp
  exact ⟨_,(hel i _ h1).trans (List.getElem?_eq_getElem (by simp at hi;omega))⟩)
 simpa using this
theorem St.below {w0 w:World} {cs:List Ch} (h:St (hp w0) w0 w cs):Below w0.heap.size w0 w:=by
 obtain ⟨⟨h1,h2,h3,h4⟩,h5,-⟩:=h
 refine ⟨h1,h2,h3,h4,fun b hb=>?_⟩
 have e:w0.heap[b]? =some w0.heap[b]:=Array.getElem?_eq_getElem hb
 rw[e];exact h5 b _ e
end D
namespace D
open Go.RowKit
theorem kg {n:Int} (h1: -9223372036854775808≤n) (h2:n≤9223372036854775807):IntKind.i64.wrap n=n:=by
 simp only[IntKind.wrap,IntKind.bits,IntKind.signed,Bool.true_and]
 split <;> rename_i h <;> simp at h <;> omega
theorem ae {i:Nat} (h:i<9223372036854775807):IntKind.i64.wrap ((i:Int)+1)=((i+1:Nat):Int):=by
 rw[kg (by omega) (by omega)];rfl
theorem aw {α:Type} {xs:List α} {i:Nat} (h:i<xs.length):aI xs (i:Int)=some (xs[i]):=by
 unfold aI
 rw[if_pos (Int.natCast_nonneg _)]
 simp[h]
theorem cd {i n:Nat} (h:i<n):decide ((i:Int)<(n:Int))=true:=by simp[h]
theorem bu {n:Nat} :decide ((n:Int)<(n:Int))=false:=by simp
theorem oH (k:Nat) (h:k≤9223372036854775807):k<aN:=by unfold aN;omega
theorem wt {α:Type} {b n:Nat} {z:α} (h:n*b≤140737488355328):mkI b (n:Int) z=some (List.replicate n z):=by
 unfold mkI
 rw[if_pos ⟨Int.natCast_nonneg _,by simpa using h⟩];simp
theorem zG {R S:Type} {f:S→Option (Out R S)} (inv:Nat→S) (N:Nat) (h: ∀i,i<N→f (inv i)=some (.nxt (inv (i+1)))): ∀(m i k:Nat),i+m=N→ak f (k+m) (inv i)=ak f k (inv N)
 | 0,i,k,e=>by rw[show i=N by omega];rfl
 | m+1,i,k,e=>by
  rw[←Nat.add_assoc,ak,h i (by omega)]
  exact zG inv N h m (i+1) k (by omega)
theorem zH {R S:Type} {f:S→Option (Out R S)} (inv:Nat→S) (N:Nat) {s:S} (h: ∀i,i<N→f (inv i)=some (.nxt (inv (i+1)))) (he:f (inv N)=some (.brk s)) (hN:N<aN):ak f aN (inv 0)=some (.brk s):=by
 have e:aN=(aN - N - 1)+1+N:=by omega
 rw[e,zG inv N h N 0 _ (by omega),ak,he]
theorem toL {R α:Type} {f:List α×Int→Option (Out R (List α×Int))} {z:α} (xs:List α) (hN:xs.length≤9223372036854775807)
  (hstep: ∀ys i (h:i<xs.length),ys.length=xs.length→f (ys,(i:Int))=some (.nxt (ys.set i xs[i],((i+1:Nat):Int)))) (hend: ∀ys,ys.length=xs.length→f (ys,(xs.length:Int))=some (.brk (ys,(xs.length:Int)))) :
  ak f aN (List.replicate xs.length z,0)=some (.brk (xs,(xs.length:Int))):=by
 have h0:(List.replicate xs.length z,(0:Int))=(fun i:Nat=>(xs.take i++(List.replicate xs.length z).drop i,(i:Int))) 0:=by simp
 rw[h0]
 refine zH (fun i:Nat=>(xs.take i++(List.replicate xs.length z).drop i,(i:Int))) xs.length (fun i hi=>?_) ?_ (oH _ hN)
 ·have hl:(xs.take i++(List.replicate xs.length z).drop i).length=xs.length:=by
   rw[List.length_append,List.length_take,List.length_drop,List.length_replicate];omega
  rw[hstep _ i hi hl]
  congr 3
  have ht:(xs.take i).length=i:=by rw[List.length_take];omega
  rw[List.set_append_right _ _ (by omega),ht,Nat.sub_self,List.drop_eq_getElem_cons (by rw[List.length_replicate];exact hi),List.set_cons_zero,List.take_succ_eq_append_getElem hi,List.append_assoc]
  rfl
 ·have:=hend xs rfl
  rw[List.take_of_length_le (Nat.le_refl _),List.drop_of_length_le (by rw[List.length_replicate];exact Nat.le_refl _),List.append_nil]
  exact this
def Hc {α:Type} [Data α] (m:α→Int→Option Int):Prop:= ∀x l,Data.lim x→0≤l→l≤1048576→ ∃r,m x l=some r∧(r<0∨(0≤r∧r≤l∧Data.sm x))
def Ge {α:Type} [Data α] (m:α→Option α):Prop:= ∀x,Data.sm x→m x=some x
def Gf {α:Type} [Data α] [DecidableEq α] (m:α→α→Option Bool):Prop:= ∀x y,Data.sm x→Data.sm y→m x y=some (decide (x=y))
theorem Qb {α:Type} [Data α] {f:Int×Int→Option (Out Int (Int×Int))} (xs:List α)
  (hstep: ∀i (h:i<xs.length) l,0≤l→l≤1048576→ ∃r,f (l,(i:Int))=some (if r<0 then .ret (-1) else .nxt (r,((i+1:Nat):Int)))∧(r<0∨(0≤r∧r≤l∧Data.sm xs[i])))
  (hend: ∀l,f (l,(xs.length:Int))=some (.brk (l,(xs.length:Int)))): ∀(m i k:Nat) (l:Int),i+m=xs.length→m<k→0≤l→l≤1048576→
   ak f k (l,(i:Int))=some (.ret (-1))∨ ∃r,ak f k (l,(i:Int))=some (.brk (r,(xs.length:Int)))∧0≤r∧r≤l∧ ∀j (h:j<xs.length),i≤j→Data.sm xs[j]
 | 0,i,k,l,e,hk,h0,h1=>by
  obtain ⟨k,rfl⟩: ∃q,k=q+1:=⟨k - 1,by omega⟩
  obtain rfl:i=xs.length:=by omega
  exact .inr ⟨l,by rw[ak,hend],h0,Int.le_refl _,fun j hj hi=>by omega⟩
 | m+1,i,k,l,e,hk,h0,h1=>by
  obtain ⟨k,rfl⟩: ∃q,k=q+1:=⟨k - 1,by omega⟩
  obtain ⟨r,e1,e2⟩:=hstep i (by omega) l h0 h1
  rw[ak,e1]
  rcases e2 with e2 | ⟨e2,e3,e4⟩
  ·rw[if_pos e2];exact .inl rfl
  ·rw[if_neg (by omega)]
   rcases Qb xs hstep hend m (i+1) k r (by omega) (by omega) e2 (by omega) with h | ⟨q,g1,g2,g3,g4⟩
   ·exact .inl h
   ·refine .inr ⟨q,g1,g2,by omega,fun j hj hi=>?_⟩
    by_cases hji:j=i
    ·subst hji;exact e4
    ·exact g4 j hj (by omega)
theorem szL {α:Type} [Data α] {f:Int×Int→Option (Out Int (Int×Int))} (xs:List α) {l:Int} (hN:xs.length≤9223372036854775807)
  (hstep: ∀i (h:i<xs.length) l,0≤l→l≤1048576→ ∃r,f (l,(i:Int))=some (if r<0 then .ret (-1) else .nxt (r,((i+1:Nat):Int)))∧(r<0∨(0≤r∧r≤l∧Data.sm xs[i])))
  (hend: ∀l,f (l,(xs.length:Int))=some (.brk (l,(xs.length:Int)))) (h0:0≤l) (h1:l≤1048576) :
  ∃r,(if decide (IntKind.i64.wrap (l - (xs.length:Int))<0) then (some (-1)) else (aE (ak f aN (IntKind.i64.wrap (l - (xs.length:Int)),0)) (fun r=>some r) (fun s4=>some s4.1)))=some r∧(r<0∨(0≤r∧r≤l∧Data.sm xs)):=by
 rw[kg (by omega) (by omega)]
 by_cases h:l - (xs.length:Int)<0
 ·exact ⟨-1,by rw[if_pos (decide_eq_true h)],.inl (by decide)⟩
 ·rw[if_neg (by simpa using h)]
  rcases Qb xs hstep hend xs.length 0 aN (l - xs.length) (by omega) (oH _ hN) (by omega) (by omega) with e | ⟨r,e,g1,g2,g3⟩
  ·exact ⟨-1,by rw[show ((0:Int))=((0:Nat):Int) from rfl,e];rfl,.inl (by decide)⟩
  ·refine ⟨r,by rw[show ((0:Int))=((0:Nat):Int) from rfl,e];rfl,.inr ⟨g1,by omega,by omega,fun x hx=>?_⟩⟩
   obtain ⟨j,hj,rfl⟩:=List.getElem_of_mem hx
   exact g3 j hj (Nat.zero_le _)
theorem szF {α:Type} [Data α] (xs:List α) {l:Int} (hN:xs.length≤9223372036854775807) (hf: ∀x:α,Data.sm x) (h0:0≤l) (h1:l≤1048576) :
  ∃r,(if decide (IntKind.i64.wrap (l - (xs.length:Int))<0) then (some (-1)) else (some (IntKind.i64.wrap (l - (xs.length:Int)))))=some r∧(r<0∨(0≤r∧r≤l∧Data.sm xs)):=by
 rw[kg (by omega) (by omega)]
 by_cases h:l - (xs.length:Int)<0
 ·exact ⟨-1,by rw[if_pos (decide_eq_true h)],.inl (by decide)⟩
 ·exact ⟨_,by rw[if_neg (by simpa using h)],.inr ⟨by omega,by omega,by omega,fun x _=>hf x⟩⟩
theorem PE {α:Type} [DecidableEq α] {f:Int→Option (Out Bool Int)} (xs ys:List α) (hl:xs.length=ys.length)
  (hstep: ∀i (h:i<xs.length) (h':i<ys.length),f (i:Int)=some (if xs[i] =ys[i] then .nxt ((i+1:Nat):Int) else .ret false)) (hend:f (xs.length:Int)=some (.brk (xs.length:Int))): ∀(m i k:Nat),i+m=xs.length→m<k→
   ak f k (i:Int)=some (if xs.drop i=ys.drop i then .brk (xs.length:Int) else .ret false)
 | 0,i,k,e,hk=>by
  obtain ⟨k,rfl⟩: ∃q,k=q+1:=⟨k - 1,by omega⟩
  obtain rfl:i=xs.length:=by omega
  rw[ak,hend,List.drop_of_length_le (Nat.le_refl _),List.drop_of_length_le (by omega),if_pos rfl]
 | m+1,i,k,e,hk=>by
  obtain ⟨k,rfl⟩: ∃q,k=q+1:=⟨k - 1,by omega⟩
  have hi:i<xs.length:=by omega
  have hi':i<ys.length:=by omega
  have d1:=List.drop_eq_getElem_cons hi
  have d2:=List.drop_eq_getElem_cons hi'
  rw[ak,hstep i hi hi',d1,d2]
  by_cases h:xs[i] =ys[i]
  ·rw[if_pos h]
   simp only
   rw[PE xs ys hl hstep hend m (i+1) k (by omega) (by omega)]
   simp only[List.cons.injEq,h,true_and]
  ·rw[if_neg h]
   simp only[List.cons.injEq,h,false_and,if_false]
theorem eqL {α:Type} [DecidableEq α] {f:Int→Option (Out Bool Int)} (xs ys:List α) (hN:xs.length≤9223372036854775807)
  (hstep: ∀i (h:i<xs.length) (h':i<ys.length),f (i:Int)=some (if xs[i] =ys[i] then .nxt ((i+1:Nat):Int) else .ret false)) (hend:f (xs.length:Int)=some (.brk (xs.length:Int))) :
  (if (xs.length:Int) !=(ys.length:Int) then (some false) else (aE (ak f aN 0) (fun r=>some r) (fun s4=>some true)))=some (decide (xs=ys)):=by
 by_cases hl:xs.length=ys.length
 ·rw[if_neg (by rw[hl];simp),show ((0:Int))=((0:Nat):Int) from rfl,PE xs ys hl hstep hend xs.length 0 aN (by omega) (oH _ hN)]
  by_cases h:xs=ys
  ·subst h;simp[aE]
  ·simp[aE,h]
 ·have:xs≠ys:=fun e=>hl (by rw[e])
  rw[if_pos (by simp;omega)];simp[this]
theorem gj {α:Type} {c d:Prop} [Decidable c] [Decidable d] {a b:α} (h:c↔d):(if c then some a else some b)=some (if d then a else b):=by
 by_cases k:c
 ·rw[if_pos k,if_pos (h.1 k)]
 ·rw[if_neg k,if_neg (fun e=>k (h.2 e))]
theorem rb {α:Type} {c d:Prop} [Decidable c] [Decidable d] {a b:α} (h:c↔ ¬d):(if c then some b else some a)=some (if d then a else b):=by
 by_cases k:d
 ·rw[if_neg (fun e=>h.1 e k),if_pos k]
 ·rw[if_pos (h.2 k),if_neg k]
theorem eqB {α:Type} [DecidableEq α] {f:Int→Option (Out Bool Int)} {K:Option Bool} (xs ys:List α) (hN:xs.length≤9223372036854775807) (hl:xs.length=ys.length)
  (hstep: ∀i (h:i<xs.length) (h':i<ys.length),f (i:Int)=some (if xs[i] =ys[i] then .nxt ((i+1:Nat):Int) else .ret false)) (hend:f (xs.length:Int)=some (.brk (xs.length:Int))) :
  aE (ak f aN 0) (fun r=>some r) (fun s4=>K)=(if xs=ys then K else some false):=by
 rw[show ((0:Int))=((0:Nat):Int) from rfl,PE xs ys hl hstep hend xs.length 0 aN (by omega) (oH _ hN)]
 by_cases h:xs=ys
 ·subst h;simp[aE]
 ·simp[aE,h]
theorem Oj {f:Int→Option (Out Int Int)} (xs ys:List Int)
  (hstep: ∀i (h:i<xs.length) (h':i<ys.length),f (i:Int)=some (if xs[i] < ys[i] then .ret (-1) else if xs[i] > ys[i] then .ret 1 else .nxt ((i+1:Nat):Int))) (hend: ∀i,xs.length≤i∨ys.length≤i→f (i:Int)=some (.brk (i:Int))): ∀(m i k:Nat),i+m=xs.length→m<k→
   (∃r,ak f k (i:Int)=some (.ret r)∧r≠0∧xs≠ys)∨ ∃s,ak f k (i:Int)=some (.brk s)∧(xs.length=ys.length→xs.drop i=ys.drop i)
 | 0,i,k,e,hk=>by
  obtain ⟨k,rfl⟩: ∃q,k=q+1:=⟨k - 1,by omega⟩
  exact .inr ⟨_,by rw[ak,hend i (.inl (by omega))],fun h=>by rw[List.drop_of_length_le (by omega),List.drop_of_length_le (by omega)]⟩
 | m+1,i,k,e,hk=>by
  obtain ⟨k,rfl⟩: ∃q,k=q+1:=⟨k - 1,by omega⟩
  have hi:i<xs.length:=by omega
  by_cases hi':i<ys.length
  ·have hne: ∀h:xs[i] ≠ys[i],xs≠ys:=fun h e=>h (by subst e;rfl)
   rw[ak,hstep i hi hi']
   by_cases h1:xs[i] < ys[i]
   ·rw[if_pos h1];exact .inl ⟨-1,rfl,by decide,hne (by omega)⟩
   ·rw[if_neg h1]
    by_cases h2:xs[i] > ys[i]
    ·rw[if_pos h2];exact .inl ⟨1,rfl,by decide,hne (by omega)⟩
    ·rw[if_neg h2]
     rcases Oj xs ys hstep hend m (i+1) k (by omega) (by omega) with h | ⟨s,g1,g2⟩
     ·exact .inl h
     ·refine .inr ⟨s,g1,fun hl=>?_⟩
      have h3:xs[i] =ys[i]:=by omega
      rw[List.drop_eq_getElem_cons hi,List.drop_eq_getElem_cons hi',g2 hl,h3]
  ·exact .inr ⟨_,by rw[ak,hend i (.inr (by omega))],fun h=>by omega⟩
instance:LawfulBEq ByteArray where
 eq_of_beq {a b} h:=ByteArray.ext (eq_of_beq (show (a.data==b.data)=true from h))
 rfl {a}:=beq_self_eq_true a.data
theorem Qc {α β γ δ:Type} {a b:α×β×γ×δ} :(a.1=b.1∧a.2.1=b.2.1∧a.2.2.1=b.2.2.1∧a.2.2.2=b.2.2.2)↔a=b:=by rw[Prod.ext_iff,Prod.ext_iff,Prod.ext_iff]
theorem eD {α β:Type} (p:α×β):(p.1,p.2)=p:=rfl
theorem aM {α:Type} [Data α] {xs:List α} (h:Data.sm xs):xs.length≤1048576∧ ∀x,x∈xs→Data.sm x:=h
theorem fN {α:Type} [Data α] {xs:List α} (h:Data.lim xs):xs.length≤9223372036854775807∧ ∀x,x∈xs→Data.lim x:=h
end D
set_option synthInstance.maxSize 20000
set_option synthInstance.maxHeartbeats 2000000
namespace D
open Go.RowKit
theorem Gg:Hc oU:=fun xs l hl h0 h1=>szF xs (fN hl).1 (fun _=>trivial) h0 h1
theorem I8:Hc qR:=fun xs l hl h0 h1=>szF xs (fN hl).1 (fun _=>trivial) h0 h1
theorem Gh:Hc oV:=fun xs l hl h0 h1=>szL (f:=iw xs) xs (fN hl).1 (fun i h l k0 k1=>by
 obtain ⟨r,e,hr⟩:=I8 xs[i] l ((fN hl).2 _ (List.getElem_mem h)) k0 k1
 refine ⟨r,?_,hr⟩
 simp only[iw,cd h,if_true,aw h,Option.bind_some,eD,e,ae (show i<9223372036854775807 by have:=(fN hl).1;omega)]
 exact gj (by simp)) (fun l=>by simp only[iw,bu];rfl) h0 h1
theorem xu:Hc gC:=by
 intro x l hl h0 h1
 unfold gC
 try simp only[eD]
 obtain ⟨r1,e1,k1⟩:=Gg x.2.1 l hl.2.1 (by omega) (by omega)
 rw[e1];simp only[Option.bind_some]
 rcases k1 with k1 | ⟨k1,j1,s1⟩
 ·exact ⟨-1,by rw[if_pos (decide_eq_true k1)],.inl (by decide)⟩
 rw[if_neg (by simpa using k1)]
 obtain ⟨r2,e2,k2⟩:=Gh x.2.2 r1 hl.2.2 (by omega) (by omega)
 rw[e2];simp only[Option.bind_some]
 rcases k2 with k2 | ⟨k2,j2,s2⟩
 ·exact ⟨-1,by rw[if_pos (decide_eq_true k2)],.inl (by decide)⟩
 rw[if_neg (by simpa using k2)]
 exact ⟨_,rfl,.inr ⟨by omega,by omega,⟨trivial,s1,s2⟩⟩⟩
theorem vn:Hc jc:=fun xs l hl h0 h1=>szL (f:=dE xs) xs (fN hl).1 (fun i h l k0 k1=>by
 obtain ⟨r,e,hr⟩:=xu xs[i] l ((fN hl).2 _ (List.getElem_mem h)) k0 k1
 refine ⟨r,?_,hr⟩
 simp only[dE,cd h,if_true,aw h,Option.bind_some,eD,e,ae (show i<9223372036854775807 by have:=(fN hl).1;omega)]
 exact gj (by simp)) (fun l=>by simp only[dE,bu];rfl) h0 h1
theorem DC:Hc m9:=fun xs l hl h0 h1=>szF xs (fN hl).1 (fun _=>⟨trivial,trivial,trivial,trivial⟩) h0 h1
theorem I9:Hc nR:=by
 intro x l hl h0 h1
 unfold nR
 try simp only[eD]
 obtain ⟨r1,e1,k1⟩:=DC x l hl (by omega) (by omega)
 rw[e1];simp only[Option.bind_some]
 rcases k1 with k1 | ⟨k1,j1,s1⟩
 ·exact ⟨-1,by rw[if_pos (decide_eq_true k1)],.inl (by decide)⟩
 rw[if_neg (by simpa using k1)]
 exact ⟨_,rfl,.inr ⟨by omega,by omega,s1⟩⟩
theorem vo:Hc fF:=by
 intro x l hl h0 h1
 unfold fF
 try simp only[eD]
 obtain ⟨r1,e1,k1⟩:=I9 x.2.1 l hl.2.1 (by omega) (by omega)
 rw[e1];simp only[Option.bind_some]
 rcases k1 with k1 | ⟨k1,j1,s1⟩
 ·exact ⟨-1,by rw[if_pos (decide_eq_true k1)],.inl (by decide)⟩
 rw[if_neg (by simpa using k1)]
 exact ⟨_,rfl,.inr ⟨by omega,by omega,⟨trivial,s1,trivial⟩⟩⟩
theorem uw:Hc hH:=fun xs l hl h0 h1=>szL (f:=da xs) xs (fN hl).1 (fun i h l k0 k1=>by
 obtain ⟨r,e,hr⟩:=vo xs[i] l ((fN hl).2 _ (List.getElem_mem h)) k0 k1
 refine ⟨r,?_,hr⟩
 simp only[da,cd h,if_true,aw h,Option.bind_some,eD,e,ae (show i<9223372036854775807 by have:=(fN hl).1;omega)]
 exact gj (by simp)) (fun l=>by simp only[da,bu];rfl) h0 h1
theorem zI:Hc ix:=by
 intro x l hl h0 h1
 unfold ix
 try simp only[eD]
 obtain ⟨r1,e1,k1⟩:=vn x.1 l hl.1 (by omega) (by omega)
 rw[e1];simp only[Option.bind_some]
 rcases k1 with k1 | ⟨k1,j1,s1⟩
 ·exact ⟨-1,by rw[if_pos (decide_eq_true k1)],.inl (by decide)⟩
 rw[if_neg (by simpa using k1)]
 obtain ⟨r2,e2,k2⟩:=uw x.2 r1 hl.2 (by omega) (by omega)
 rw[e2];simp only[Option.bind_some]
 rcases k2 with k2 | ⟨k2,j2,s2⟩
 ·exact ⟨-1,by rw[if_pos (decide_eq_true k2)],.inl (by decide)⟩
 rw[if_neg (by simpa using k2)]
 exact ⟨_,rfl,.inr ⟨by omega,by omega,⟨s1,s2⟩⟩⟩
theorem Gi:Ge l7:=by
 intro xs hx
 have hn:=(aM hx).1
 unfold l7
 rw[wt (by omega)];simp only[Option.bind_some]
 rw[toL (f:=iE xs) xs (by omega) (fun ys i h hy=>by simp only[iE,cd h,if_true,aw h,aw (show i<ys.length by omega),Option.bind_some,eD,ae (show i<9223372036854775807 by omega),Int.toNat_natCast]) (fun ys hy=>by simp only[iE,bu];rfl)]
 rfl
theorem Ja:Ge nU:=by
 intro xs hx
 have hn:=(aM hx).1
 unfold nU
 rw[wt (by omega)];simp only[Option.bind_some]
 rw[toL (f:=jx xs) xs (by omega) (fun ys i h hy=>by simp only[jx,cd h,if_true,aw h,aw (show i<ys.length by omega),Option.bind_some,eD,ae (show i<9223372036854775807 by omega),Int.toNat_natCast]) (fun ys hy=>by simp only[jx,bu];rfl)]
 rfl
theorem Gj:Ge l8:=by
 intro xs hx
 have hn:=(aM hx).1
 unfold l8
 rw[wt (by omega)];simp only[Option.bind_some]
 rw[toL (f:=iF xs) xs (by omega) (fun ys i h hy=>by simp only[iF,cd h,if_true,aw h,aw (show i<ys.length by omega),Option.bind_some,eD,Ja xs[i] ((aM hx).2 _ (List.getElem_mem h)),ae (show i<9223372036854775807 by omega),Int.toNat_natCast]) (fun ys hy=>by simp only[iF,bu];rfl)]
 rfl
theorem xw:Ge gH:=by
 intro x hx
 unfold gH
 simp only[eD,Option.bind_some,Gi x.2.1 hx.2.1,Gj x.2.2 hx.2.2]
theorem vp:Ge fH:=by
 intro xs hx
 have hn:=(aM hx).1
 unfold fH
 rw[wt (by omega)];simp only[Option.bind_some]
 rw[toL (f:=dI xs) xs (by omega) (fun ys i h hy=>by simp only[dI,cd h,if_true,aw h,aw (show i<ys.length by omega),Option.bind_some,eD,xw xs[i] ((aM hx).2 _ (List.getElem_mem h)),ae (show i<9223372036854775807 by omega),Int.toNat_natCast]) (fun ys hy=>by simp only[dI,bu];rfl)]
 rfl
theorem Gk:Ge l9:=by
 intro x hx
 unfold l9
 simp only[eD,Option.bind_some]
theorem DD:Ge kG:=by
 intro xs hx
 have hn:=(aM hx).1
 unfold kG
 rw[wt (by omega)];simp only[Option.bind_some]
 rw[toL (f:=gI xs) xs (by omega) (fun ys i h hy=>by simp only[gI,cd h,if_true,aw h,aw (show i<ys.length by omega),Option.bind_some,eD,Gk xs[i] ((aM hx).2 _ (List.getElem_mem h)),ae (show i<9223372036854775807 by omega),Int.toNat_natCast]) (fun ys hy=>by simp only[gI,bu];rfl)]
 rfl
theorem Jb:Ge nV:=by
 intro x hx
 unfold nV
 simp only[eD,Option.bind_some,DD x hx]
theorem vq:Ge fI:=by
 intro x hx
 unfold fI
 simp only[eD,Option.bind_some,Jb x.2.1 hx.2.1]
theorem uy:Ge e8:=by
 intro xs hx
 have hn:=(aM hx).1
 unfold e8
 rw[wt (by omega)];simp only[Option.bind_some]
 rw[toL (f:=dg xs) xs (by omega) (fun ys i h hy=>by simp only[dg,cd h,if_true,aw h,aw (show i<ys.length by omega),Option.bind_some,eD,vq xs[i] ((aM hx).2 _ (List.getElem_mem h)),ae (show i<9223372036854775807 by omega),Int.toNat_natCast]) (fun ys hy=>by simp only[dg,bu];rfl)]
 rfl
theorem zJ:Ge cY:=by
 intro x hx
 unfold cY
 simp only[eD,Option.bind_some,vp x.1 hx.1,uy x.2 hx.2]
theorem Ct:Gf jH:=fun xs ys hx hy=>eqL (f:=jz xs ys) xs ys (by have:=(aM hx).1;omega) (fun i h h'=>by
 simp only[jz,cd h,if_true,aw h,aw h',Option.bind_some,eD,ae (show i<9223372036854775807 by have:=(aM hx).1;omega)]
 first | exact gj (by simp) | exact rb (by simp) | exact gj (by simp[Prod.ext_iff])) (by simp only[jz,bu];rfl)
theorem Gl:Gf oY:=fun xs ys hx hy=>eqL (f:=iI xs ys) xs ys (by have:=(aM hx).1;omega) (fun i h h'=>by
 simp only[iI,cd h,if_true,aw h,aw h',Option.bind_some,eD,ae (show i<9223372036854775807 by have:=(aM hx).1;omega)]
 first | exact gj (by simp) | exact rb (by simp) | exact gj (by simp[Prod.ext_iff])) (by simp only[iI,bu];rfl)
theorem Gn:Gf oZ:=fun xs ys hx hy=>eqL (f:=iJ xs ys) xs ys (by have:=(aM hx).1;omega) (fun i h h'=>by
 simp only[iJ,cd h,if_true,aw h,aw h',Option.bind_some,eD,Ct xs[i] ys[i] ((aM hx).2 _ (List.getElem_mem h)) ((aM hy).2 _ (List.getElem_mem h')),ae (show i<9223372036854775807 by have:=(aM hx).1;omega)]
 first | exact gj (by simp) | exact rb (by simp) | exact gj (by simp[Prod.ext_iff])) (by simp only[iJ,bu];rfl)
theorem xx:Gf gM:=by
 intro x y hx hy
 unfold gM
 try simp only[eD,Option.bind_some,Gl x.2.1 y.2.1 hx.2.1 hy.2.1,Gn x.2.2 y.2.2 hx.2.2 hy.2.2]
 repeat' split
 all_goals simp_all[Prod.ext_iff]
theorem vr:Gf je:=fun xs ys hx hy=>eqL (f:=dO xs ys) xs ys (by have:=(aM hx).1;omega) (fun i h h'=>by
 simp only[dO,cd h,if_true,aw h,aw h',Option.bind_some,eD,xx xs[i] ys[i] ((aM hx).2 _ (List.getElem_mem h)) ((aM hy).2 _ (List.getElem_mem h')),ae (show i<9223372036854775807 by have:=(aM hx).1;omega)]
 first | exact gj (by simp) | exact rb (by simp) | exact gj (by simp[Prod.ext_iff])) (by simp only[dO,bu];rfl)
theorem Gp:Gf me:=by
 intro x y hx hy
 unfold me
 try simp only[eD,Option.bind_some]
 repeat' split
 all_goals simp_all[Prod.ext_iff]
theorem DE:Gf na:=fun xs ys hx hy=>eqL (f:=gN xs ys) xs ys (by have:=(aM hx).1;omega) (fun i h h'=>by
 simp only[gN,cd h,if_true,aw h,aw h',Option.bind_some,eD,Gp xs[i] ys[i] ((aM hx).2 _ (List.getElem_mem h)) ((aM hy).2 _ (List.getElem_mem h')),ae (show i<9223372036854775807 by have:=(aM hx).1;omega)]
 first | exact gj (by simp) | exact rb (by simp) | exact gj (by simp[Prod.ext_iff])) (by simp only[gN,bu];rfl)
theorem Jc:Gf nY:=by
 intro x y hx hy
 unfold nY
 try simp only[eD,Option.bind_some,DE x y hx hy]
 repeat' split
 all_goals simp_all[Prod.ext_iff]
theorem vt:Gf fJ:=by
 intro x y hx hy
 unfold fJ
 try simp only[eD,Option.bind_some,Jc x.2.1 y.2.1 hx.2.1 hy.2.1]
 repeat' split
 all_goals simp_all[Prod.ext_iff]
theorem uz:Gf ig:=fun xs ys hx hy=>eqL (f:=di xs ys) xs ys (by have:=(aM hx).1;omega) (fun i h h'=>by
 simp only[di,cd h,if_true,aw h,aw h',Option.bind_some,eD,vt xs[i] ys[i] ((aM hx).2 _ (List.getElem_mem h)) ((aM hy).2 _ (List.getElem_mem h')),ae (show i<9223372036854775807 by have:=(aM hx).1;omega)]
 first | exact gj (by simp) | exact rb (by simp) | exact gj (by simp[Prod.ext_iff])) (by simp only[di,bu];rfl)
theorem zK:Gf iK:=by
 intro x y hx hy
 unfold iK
 try simp only[eD,Option.bind_some,vr x.1 y.1 hx.1 hy.1,uz x.2 y.2 hx.2 hy.2]
 repeat' split
 all_goals simp_all[Prod.ext_iff]
end D
namespace D
open Go.RowKit
theorem cW {R S:Type} {f:S→Option (Out R S)} (Inv:Nat→S→Prop) (Q:Out R S→Prop) (N:Nat)
  (h: ∀i s,i≤N→Inv i s→(i<N∧ ∃s',f s=some (.nxt s')∧Inv (i+1) s')∨ ∃o,f s=some o∧(∀s',o≠ .nxt s')∧Q o) {s:S} (h0:Inv 0 s) (hN:N<aN): ∃o,ak f aN s=some o∧Q o:=by
 have key: ∀(k i:Nat) (s:S),i≤N→N<i+k→Inv i s→ ∃o,ak f k s=some o∧Q o:=by
  intro k
  induction k with
  | zero=>intro i s h1 h2;omega
  | succ k ih =>
   intro i s h1 h2 hI
   rcases h i s h1 hI with ⟨hi,s',e,hI'⟩ | ⟨o,e,hn,hq⟩
   ·obtain ⟨o,e',hq⟩:=ih (i+1) s' (by omega) (by omega) hI'
    exact ⟨o,by rw[ak,e];exact e',hq⟩
   ·refine ⟨o,?_,hq⟩
    rw[ak,e]
    cases o with
    | nxt s'=>exact absurd rfl (hn s')
    | brk s'=>rfl
    | ret r=>rfl
 exact key aN 0 s (by omega) (by omega) h0
theorem iY {R S:Type} {f:S→Option (Out R S)} (Inv:Nat→S→Prop) (N:Nat) (h: ∀i s,i<N→Inv i s→ ∃s',f s=some (.nxt s')∧Inv (i+1) s') (he: ∀s,Inv N s→f s=some (.brk s)) {s:S} (h0:Inv 0 s) (hN:N<aN): ∃s',ak f aN s=some (.brk s')∧Inv N s':=by
 obtain ⟨o,e,s',rfl,h⟩:=cW (f:=f) Inv (fun o=> ∃s',o= .brk s'∧Inv N s') N (fun i s hi hI=>by
  by_cases h1:i<N
  ·exact .inl ⟨h1,h i s h1 hI⟩
  ·obtain rfl:i=N:=by omega
   exact .inr ⟨_,he s hI,(fun s' e=>by cases e),s,rfl,hI⟩) h0 hN
 exact ⟨s',e,h⟩
theorem a7 {R S:Type} {f:S→Option (Out R S)} (st:Nat→S) (N:Nat) (h: ∀i,i<N→f (st i)=some (.nxt (st (i+1)))) (he:f (st N)=some (.brk (st N))) (hN:N<aN):ak f aN (st 0)=some (.brk (st N)):=zH st N h he hN
theorem nC {k:Nat} (h:k≤9223372036854775807):k<aN:=oH k h
theorem nD {i:Nat} (h:i≤9223372036854775807):IntKind.i64.wrap ((i:Int) - 1)=(i:Int) - 1:=kg (by omega) (by omega)
theorem ay {α:Type} {b:Nat} {xs ys:List α} (h:(xs.length+ys.length)*b≤140737488355328):cP b xs ys=some (xs++ys):=by unfold cP;rw[if_pos h]
theorem cv {R S T:Type} {x:Option (Out R S)} {r:R} {kr:R→Option T} {k:S→Option T} (h:x=some (.ret r)):aE x kr k=kr r:=by rw[h];rfl
theorem ai {R S T:Type} {x:Option (Out R S)} {s:S} {kr:R→Option T} {k:S→Option T} (h:x=some (.brk s)):aE x kr k=k s:=by rw[h];rfl
def nth {α:Type} [Inhabited α] (xs:List α) (i:Int):α:=xs.getD i.toNat default
section
variable {α:Type} [Inhabited α] {xs ys:List α}
theorem aj {i:Int} (h0:0≤i) (h1:i<xs.length):aI xs i=some (nth xs i):=by
 unfold aI nth
 rw[if_pos h0]
 have:i.toNat<xs.length:=by omega
 simp[List.getD_eq_getElem?_getD,this]
theorem bq {i:Nat} (h:i<xs.length):nth xs (i:Int)=xs[i]:=by simp[nth,List.getD_eq_getElem?_getD,h]
theorem bT {i:Int} (h0:0≤i) (h1:i<xs.length):nth xs i∈xs:=by
 have:i.toNat<xs.length:=by omega
 have e:nth xs i=xs[i.toNat]:=by simp[nth,List.getD_eq_getElem?_getD,this]
 rw[e];exact List.getElem_mem this
theorem gS {i:Int} (h0:0≤i) (h1:i<xs.length):nth (xs++ys) i=nth xs i:=by
 have:i.toNat<xs.length:=by omega
 simp[nth,List.getD_eq_getElem?_getD,List.getElem?_append_left this]
theorem MF {β:Type} [Inhabited β] {f:α→β} {i:Int} (h0:0≤i) (h1:i<xs.length):nth (xs.map f) i=f (nth xs i):=by
 have:i.toNat<xs.length:=by omega
 simp[nth,List.getD_eq_getElem?_getD,this]
theorem MG {x:α} (h:x∈xs): ∃i:Nat,i<xs.length∧nth xs (i:Int)=x:=by
 obtain ⟨i,hi,rfl⟩:=List.getElem_of_mem h
 exact ⟨i,hi,bq hi⟩
theorem zL {i:Int} {x:α} (h0:0≤i) (h1:i<xs.length):nth (xs.set i.toNat x) i=x:=by
 have:i.toNat<xs.length:=by omega
 simp[nth,List.getD_eq_getElem?_getD,this]
theorem MH (h:xs.length=ys.length) (k: ∀i:Nat,i<xs.length→nth xs (i:Int)=nth ys (i:Int)):xs=ys:=by
 refine List.ext_getElem h fun i h1 h2=>?_
 have:=k i h1
 rwa [bq h1,bq h2] at this
end
section
variable {κ:Type} [DecidableEq κ]
def nbL (l:List κ):Option κ→List κ
 | none=>l
 | some x=>if x∈l then l else l++ [x]
def nbI (l:List κ):Option κ→Int
 | none=> -1
 | some x=>(l.idxOf x:Int)
def nbS (l:List κ) (os:List (Option κ)):List κ:=os.foldl nbL l
def nbR (l:List κ):List (Option κ)→List Int
 | [] =>[]
 | o::os=>nbI l o::nbR (nbL l o) os
theorem mi (l:List κ) (os:List (Option κ)) (o:Option κ):nbS l (os++ [o])=nbL (nbS l os) o:=by simp[nbS]
theorem n8: ∀(l:List κ) (os:List (Option κ)) (o:Option κ),nbR l (os++ [o])=nbR l os++ [nbI (nbS l os) o]
 | l,[],o=>rfl
 | l,p::os,o=>by
  show nbI l p::nbR (nbL l p) (os++ [o])=nbI l p::nbR (nbL l p) os++ [nbI (nbS (nbL l p) os) o]
  rw[n8 (nbL l p) os o];rfl
theorem cS: ∀(l:List κ) (os:List (Option κ)),(nbR l os).length=os.length
 | l,[] =>rfl
 | l,o::os=>by show (nbR (nbL l o) os).length+1=_;rw[cS];rfl
theorem DF (l : List κ) (o : Option κ) : l <+: nbL l o := by
  cases o with
  | none => exact List.prefix_refl l
  | some x => unfold nbL; simp only; split
              · exact List.prefix_refl l
              · exact List.prefix_append l [x]
theorem fc: ∀(l:List κ) (os:List (Option κ)),l <+:nbS l os
 | l,[] =>List.prefix_refl l
 | l,o::os=>(DF l o).trans (fc (nbL l o) os)
theorem Gq {l : List κ} {o : Option κ} (h : l.Nodup) : (nbL l o).Nodup := by
  cases o with
  | none => exact h
  | some x => unfold nbL; simp only; split
              · exact h
              · rename_i hx; exact List.nodup_append.2 ⟨h, by simp, by rintro a ha b hb rfl; simp at hb; exact hx (hb ▸ ha)⟩
theorem kh: ∀ {l:List κ} {os:List (Option κ)},l.Nodup→(nbS l os).Nodup
 | l,[],h=>h
 | l,o::os,h=>kh (l:=nbL l o) (os:=os) (Gq h)
theorem Gr {l : List κ} {o : Option κ} {x : κ} : x ∈ nbL l o ↔ x ∈ l ∨ o = some x := by
  cases o with
  | none => simp [nbL]
  | some y => unfold nbL; simp only; split
              · rename_i h; constructor
                · exact .inl
                · rintro (h' | h')
                  · exact h'
                  · simp at h'; exact h' ▸ h
              · simp; exact or_congr Iff.rfl eq_comm
theorem nE: ∀ {l:List κ} {os:List (Option κ)} {x:κ},x∈nbS l os↔x∈l∨some x∈os
 | l,[],x=>by simp[nbS]
 | l,o::os,x=>by
  show x∈nbS (nbL l o) os↔_
  rw[nE,Gr,List.mem_cons,or_assoc]
  exact or_congr Iff.rfl (or_congr eq_comm Iff.rfl)
theorem fS {l:List κ} {x:κ} (h:x∈l):nbL l (some x)=l:=by simp[nbL,h]
theorem fm {l:List κ} {x:κ} (h:x∉l):nbL l (some x)=l++ [x]:=by simp[nbL,h]
theorem lJ {l:List κ} {x:κ} (h:x∉l):l.idxOf x=l.length:=List.idxOf_eq_length h
def bfS (nx:κ→List (Option κ)) (first:κ):Nat→List κ
 | 0=>[first]
 | i+1=>match (bfS nx first i)[i]? with
  | some x=>nbS (bfS nx first i) (nx x)
  | none=>bfS nx first i
def bfR (nx:κ→List (Option κ)) (first:κ):Nat→List (List Int)
 | 0=>[]
 | i+1=>bfR nx first i++(match (bfS nx first i)[i]? with
  | some x=>[nbR (bfS nx first i) (nx x)]
  | none=>[])
variable {nx:κ→List (Option κ)} {first:κ}
theorem xy {i:Nat} (h:i<(bfS nx first i).length):bfS nx first (i+1)=nbS (bfS nx first i) (nx ((bfS nx first i)[i])):=by
 rw[bfS,List.getElem?_eq_getElem h]
theorem ql {i:Nat} (h:i<(bfS nx first i).length):bfR nx first (i+1)=bfR nx first i++ [nbR (bfS nx first i) (nx ((bfS nx first i)[i]))]:=by
 rw[bfR,List.getElem?_eq_getElem h]
theorem aZ (i:Nat):bfS nx first i <+:bfS nx first (i+1):=by
 rw[bfS]
 split
 ·exact fc _ _
 ·exact List.prefix_refl _
theorem lK {i j:Nat} (h:i≤j):bfS nx first i <+:bfS nx first j:=by
 induction h with
 | refl=>exact List.prefix_refl _
 | step _ ih=>exact ih.trans (aZ _)
theorem iZ: ∀i,(bfS nx first i).Nodup
 | 0=>by simp[bfS]
 | i+1=>by
  rw[bfS]
  split
  ·exact kh (iZ i)
  ·exact iZ i
theorem fO {G:κ→Prop} (h0:G first) (h: ∀x,G x→ ∀y,some y∈nx x→G y): ∀i,∀x∈bfS nx first i,G x
 | 0=>by simp[bfS];exact h0
 | i+1=>by
  rw[bfS]
  split
  ·rename_i y hy
   intro x hx
   rcases nE.1 hx with hx | hx
   ·exact fO h0 h i x hx
   ·exact h y (fO h0 h i y (List.mem_of_getElem? hy)) x hx
  ·exact fO h0 h i
theorem zM (i:Nat):(bfS nx first i)[0]? =some first:=by
 obtain ⟨t,ht⟩:=lK (nx:=nx) (first:=first) (Nat.zero_le i)
 rw[←ht];rfl
theorem gk: ∀ {i:Nat},(∀j,j<i→j<(bfS nx first j).length)→(bfR nx first i).length=i
 | 0,_=>rfl
 | i+1,h=>by rw[ql (h i (by omega)),List.length_append,gk fun j hj=>h j (by omega)];rfl
def bfE (nx:κ→List (Option κ)) (first:κ) (N:Nat):Prop:=N=(bfS nx first N).length∧ ∀i,i<N→i<(bfS nx first i).length
theorem Cu {B:Nat} (hB: ∀i,(bfS nx first i).length≤B): ∃N,N≤B∧bfE nx first N:=by
 have key: ∀m i,i+m=B→(∀j,j<i→j<(bfS nx first j).length)→ ∃N,N≤B∧bfE nx first N:=by
  intro m
  induction m with
  | zero =>
   intro i hi hj
   have h1:=hB i
   have h2:i≤(bfS nx first i).length:=by
    cases i with
    | zero=>omega
    | succ i =>
     have:=hj i (by omega)
     have hp:=(aZ (nx:=nx) (first:=first) i).length_le
     omega
   exact ⟨i,by omega,by omega,hj⟩
  | succ m ih =>
   intro i hi hj
   by_cases h:i<(bfS nx first i).length
   ·exact ih (i+1) (by omega) fun j hj'=>by
     by_cases e:j=i
     ·subst e;exact h
     ·exact hj j (by omega)
   ·have h2:i≤(bfS nx first i).length:=by
     cases i with
     | zero=>omega
     | succ i =>
      have:=hj i (by omega)
      have hp:=(aZ (nx:=nx) (first:=first) i).length_le
      omega
    exact ⟨i,by omega,by omega,hj⟩
 exact key B 0 (by omega) (by omega)
theorem Cv {N M:Nat} (h:bfE nx first N) (k:bfE nx first M):N=M:=by
 rcases Nat.lt_trichotomy N M with e | e | e
 ·have:=k.2 N e;have:=h.1;omega
 ·exact e
 ·have:=h.2 M e;have:=k.1;omega
end
end D
namespace D
open Go.RowKit
section
variable {α:Type} [Inhabited α]
def smk (mk:α→Nat):List α→Nat
 | [] =>0
 | x::xs=>mk x+smk mk xs
def mkd (mk:α→Nat) (m:α→Nat→α):List α→Nat→List α
 | [],_=>[]
 | x::xs,k=>m x k::mkd mk m xs (k+mk x)
theorem xz (mk:α→Nat): ∀(xs:List α) (x:α),smk mk (xs++ [x])=smk mk xs+mk x
 | [],x=>by simp[smk]
 | y::xs,x=>by simp[smk,xz mk xs x,Nat.add_assoc]
theorem xA (mk:α→Nat) (m:α→Nat→α): ∀(xs:List α) (x:α) (k:Nat),mkd mk m (xs++ [x]) k=mkd mk m xs k++ [m x (k+smk mk xs)]
 | [],x,k=>by simp[mkd,smk]
 | y::xs,x,k=>by simp[mkd,smk,xA mk m xs x,Nat.add_assoc]
theorem iq (mk:α→Nat) (m:α→Nat→α): ∀(xs:List α) (k:Nat),(mkd mk m xs k).length=xs.length
 | [],_=>rfl
 | x::xs,k=>by simp[mkd,iq mk m xs]
theorem xB (mk:α→Nat) (m:α→Nat→α): ∀(xs:List α) (k i:Nat),(mkd mk m xs k).take i=mkd mk m (xs.take i) k
 | [],_,_=>by simp[mkd]
 | x::xs,k,0=>by simp[mkd]
 | x::xs,k,i+1=>by simp[mkd,xB mk m xs]
theorem Jd {xs:List α} {k:Nat} (h:k<xs.length):xs.take (k+1)=xs.take k++ [nth xs (k:Int)]:=by
 rw[List.take_succ_eq_append_getElem h,bq h]
theorem Ok (mk:α→Nat) (m:α→Nat→α) (xs:List α) (k:Nat) {i:Nat} (h:i<xs.length):nth (mkd mk m xs k) (i:Int)=m (nth xs (i:Int)) (k+smk mk (xs.take i)):=by
 have h':i<(mkd mk m xs k).length:=by rw[iq];exact h
 have e:=Jd h'
 rw[xB,xB,Jd h,xA] at e
 have:=List.append_cancel_left e
 simpa using this.symm
theorem xC (mk:α→Nat) {xs:List α} {i:Nat} (h:i<xs.length):smk mk (xs.take (i+1))=smk mk (xs.take i)+mk (nth xs (i:Int)):=by rw[Jd h,xz]
theorem Gs (mk:α→Nat): ∀(xs:List α) (i:Nat),smk mk (xs.take i)≤smk mk xs
 | [],_=>by simp
 | x::xs,0=>by simp[smk]
 | x::xs,i+1=>by simp[smk];exact Gs mk xs i
theorem kj (mk:α→Nat) {B:Nat} : ∀(xs:List α),(∀x∈xs,mk x≤B)→smk mk xs≤xs.length*B
 | [],_=>by simp[smk]
 | x::xs,h=>by
  have h1:=kj mk xs fun y hy=>h y (by simp[hy])
  have h2:=h x (by simp)
  simp only[smk,List.length_cons,Nat.add_mul,Nat.one_mul];omega
theorem MI {xs ys:List α} {i:Nat} (hi:i<xs.length) (hl:ys.length=i) (x:α):(ys++xs.drop i).set i x=ys++ [x] ++xs.drop (i+1):=by
 rw[List.set_append_right _ _ (by omega),hl,Nat.sub_self,List.drop_eq_getElem_cons hi,List.set_cons_zero,List.append_assoc];rfl
theorem DG {R:Type} {f:List α×Int×Int→Option (Out R (List α×Int×Int))} (xs:List α) (mk:α→Nat) (m:α→Nat→α) (hN:xs.length≤9223372036854775807) {k:Nat} (hk:k+smk mk xs≤4611686018427387904)
  (hstep: ∀ys (i k:Nat),i<xs.length→ys.length=xs.length→nth ys (i:Int)=nth xs (i:Int)→k+mk (nth xs (i:Int))≤4611686018427387904→f (ys,(k:Int),(i:Int))=some (.nxt (ys.set i (m (nth xs (i:Int)) k),((k+mk (nth xs (i:Int)):Nat):Int),((i+1:Nat):Int))))
  (hend: ∀ys (k:Nat),ys.length=xs.length→f (ys,(k:Int),(xs.length:Int))=some (.brk (ys,(k:Int),(xs.length:Int)))) :
  ak f aN (xs,(k:Int),0)=some (.brk (mkd mk m xs k,((k+smk mk xs:Nat):Int),(xs.length:Int))):=by
 have hlen: ∀i,i≤xs.length→(mkd mk m (xs.take i) k++xs.drop i).length=xs.length:=fun i hi=>by
  rw[List.length_append,iq,List.length_take,List.length_drop];omega
 have:=a7 (f:=f) (fun i=>(mkd mk m (xs.take i) k++xs.drop i,((k+smk mk (xs.take i):Nat):Int),(i:Int))) xs.length (fun i hi=>by
  have hl:(mkd mk m (xs.take i) k).length=i:=by rw[iq,List.length_take];omega
  have hle:=Gs mk xs (i+1)
  rw[xC mk hi] at hle
  rw[hstep _ i (k+smk mk (xs.take i)) hi (hlen i (by omega)) ?_ (by omega),MI hi hl,Jd hi,xA,xz,Nat.add_assoc]
  have h':i<(mkd mk m (xs.take i) k++xs.drop i).length:=by rw[hlen i (by omega)];exact hi
  rw[bq h',bq hi,List.getElem_append_right (by omega)]
  simp[hl]) (by
  have:=hend (mkd mk m (xs.take xs.length) k++xs.drop xs.length) (k+smk mk (xs.take xs.length)) (hlen _ (Nat.le_refl _))
  exact this) (nC hN)
 simpa [mkd,smk] using this
theorem PF {f:Int×Int→Option (Out Int (Int×Int))} (xs:List α) (mk:α→Nat) (m:α→Nat→α) (hN:xs.length≤9223372036854775807) {k:Nat} (hk:k+smk mk xs≤4611686018427387904)
  (hstep: ∀(i k':Nat),i<xs.length→nth (mkd mk m xs k) (i:Int)=m (nth xs (i:Int)) k'→k'+mk (nth xs (i:Int))≤4611686018427387904→f ((k':Int),(i:Int))=some (.nxt (((k'+mk (nth xs (i:Int)):Nat):Int),((i+1:Nat):Int))))
  (hend: ∀(k':Nat),f ((k':Int),(xs.length:Int))=some (.brk ((k':Int),(xs.length:Int)))) :
  ak f aN ((k:Int),0)=some (.brk (((k+smk mk xs:Nat):Int),(xs.length:Int))):=by
 have:=a7 (f:=f) (fun i=>(((k+smk mk (xs.take i):Nat):Int),(i:Int))) xs.length (fun i hi=>by
  have hle:=Gs mk xs (i+1)
  rw[xC mk hi] at hle
  rw[hstep i (k+smk mk (xs.take i)) hi (Ok mk m xs k hi) (by omega),xC mk hi,Nat.add_assoc]) (hend _) (nC hN)
 simpa [smk] using this
end
end D
set_option synthInstance.maxSize 20000
set_option synthInstance.maxHeartbeats 2000000
namespace D
open Go.RowKit
theorem lL {α:Type} {xs:List α} {i:Nat} {x:α} (h:i<xs.length):aI (xs.set i x) (i:Int)=some x:=by
 rw[aw (by rw[List.length_set];exact h)];simp
theorem Qo {n:Nat} :decide ((n:Int)<0)=false:=by simp only[decide_eq_false_iff_not];omega
def fT (x:Bool):Nat:=1
def Bb (x:Bool) (k:Nat):Bool:=((Int.tmod ((k:Nat):Int) 3)==0)
theorem Je (xs:List Bool) (hx:Data.sm xs):smk fT xs≤1048576*1:=by
 obtain ⟨h1,h2⟩:=aM hx
 have b:=kj fT (B:=1) xs (fun x hx=>by
  simp[fT])
 exact Nat.le_trans b (Nat.mul_le_mul_right _ h1)
theorem Jf (xs:List Bool) (hx:Data.sm xs) {k:Nat} (hk:k+smk fT xs≤4611686018427387904):jA xs (k:Int)=some (((k+smk fT xs:Nat):Int),mkd fT Bb xs k):=by
 obtain ⟨hN,hs⟩:=aM hx
 unfold jA
 rw[ai (DG (f:=fK) xs fT Bb (by omega) hk (fun ys i k hi hl he hk=>by
  have hz0:=hs _ (bT (xs:=xs) (i:=(i:Int)) (by omega) (by omega))
  unfold fK
  have hi':i<ys.length:=by omega
  generalize hz:nth xs (i:Int)=z at *
  have hk':k+(1)≤4611686018427387904:=hk
  simp only
  rw[if_pos (by simp;omega),aj (by omega) (by omega),he]
  simp only[Option.bind_some,Int.toNat_natCast,lL hi',List.set_set,ae (show i<9223372036854775807 by omega),ae (show k<9223372036854775807 by omega)]
  have e:k+fT z=k+1:=by unfold fT;omega
  rw[e];rfl) (fun ys k hl=>by
  unfold fK
  simp only
  rw[if_neg (by simp;omega)]))]
def fD (x:Int):Nat:=1
def uA (x:Int) (k:Nat):Int:=((k:Nat):Int)
theorem Gt (xs:List Int) (hx:Data.sm xs):smk fD xs≤1048576*1:=by
 obtain ⟨h1,h2⟩:=aM hx
 have b:=kj fD (B:=1) xs (fun x hx=>by
  simp[fD])
 exact Nat.le_trans b (Nat.mul_le_mul_right _ h1)
theorem Gu (xs:List Int) (hx:Data.sm xs) {k:Nat} (hk:k+smk fD xs≤4611686018427387904):fZ xs (k:Int)=some (((k+smk fD xs:Nat):Int),mkd fD uA xs k):=by
 obtain ⟨hN,hs⟩:=aM hx
 unfold fZ
 rw[ai (DG (f:=gO) xs fD uA (by omega) hk (fun ys i k hi hl he hk=>by
  have hz0:=hs _ (bT (xs:=xs) (i:=(i:Int)) (by omega) (by omega))
  unfold gO
  have hi':i<ys.length:=by omega
  generalize hz:nth xs (i:Int)=z at *
  have hk':k+(1)≤4611686018427387904:=hk
  simp only
  rw[if_pos (by simp;omega),aj (by omega) (by omega),he]
  simp only[Option.bind_some,Int.toNat_natCast,lL hi',List.set_set,ae (show i<9223372036854775807 by omega),ae (show k<9223372036854775807 by omega)]
  have e:k+fD z=k+1:=by unfold fD;omega
  rw[e];rfl) (fun ys k hl=>by
  unfold gO
  simp only
  rw[if_neg (by simp;omega)]))]
theorem MJ (xs:List Int) (hx:Data.sm xs) {k:Nat} (hk:k+smk fD xs≤4611686018427387904):ga (mkd fD uA xs k) (k:Int)=some ((k+smk fD xs:Nat):Int):=by
 obtain ⟨hN,hs⟩:=aM hx
 unfold ga
 rw[ai (PF (f:=gP _) xs fD uA (by omega) hk (fun i k' hi he hk=>by
  have hz0:=hs _ (bT (xs:=xs) (i:=(i:Int)) (by omega) (by omega))
  unfold gP
  generalize hz:nth xs (i:Int)=z at *
  have hk':k'+(1)≤4611686018427387904:=hk
  simp only
  rw[if_pos (by simp[iq];omega),aj (by omega) (by rw[iq];omega),he]
  simp only[uA,Option.bind_some,bne_self_eq_false,Bool.false_eq_true,if_false,Qo,ae (show i<9223372036854775807 by omega),ae (show k'<9223372036854775807 by omega)]
  have e:k'+fD z=k'+1:=by unfold fD;omega
  rw[e]) (fun k'=>by
  unfold gP
  simp only
  rw[if_neg (by simp[iq])]))]
def ir (x:List Int):Nat:=smk fD (x)
def Bc (x:List Int) (k:Nat):List Int:=mkd fD uA x k
theorem Jg (xs:List (List Int)) (hx:Data.sm xs):smk ir xs≤1048576*1048576:=by
 obtain ⟨h1,h2⟩:=aM hx
 have b:=kj ir (B:=1048576) xs (fun x hx=>by
  have hs:=h2 x hx
  have q0:=Gt (x) hs
  unfold ir;omega)
 exact Nat.le_trans b (Nat.mul_le_mul_right _ h1)
theorem Jh (xs:List (List Int)) (hx:Data.sm xs) {k:Nat} (hk:k+smk ir xs≤4611686018427387904):jB xs (k:Int)=some (((k+smk ir xs:Nat):Int),mkd ir Bc xs k):=by
 obtain ⟨hN,hs⟩:=aM hx
 unfold jB
 rw[ai (DG (f:=fL) xs ir Bc (by omega) hk (fun ys i k hi hl he hk=>by
  have hz0:=hs _ (bT (xs:=xs) (i:=(i:Int)) (by omega) (by omega))
  unfold fL
  have hi':i<ys.length:=by omega
  generalize hz:nth xs (i:Int)=z at *
  have hk':k+(smk fD (z))≤4611686018427387904:=hk
  have m0:=Gu (z) hz0 (k:=k) (by omega)
  simp only
  rw[if_pos (by simp;omega),aj (by omega) (by omega),he]
  simp only[Option.bind_some,Int.toNat_natCast,lL hi',List.set_set,ae (show i<9223372036854775807 by omega),m0]
  have e:k+ir z=k+smk fD (z):=by unfold ir;omega
  rw[e];rfl) (fun ys k hl=>by
  unfold fL
  simp only
  rw[if_neg (by simp;omega)]))]
def bz (x:Int×(List Bool)×(List (List Int))):Nat:=1+smk fT (x.2.1)+smk ir (x.2.2)
def nF (x:Int×(List Bool)×(List (List Int))) (k:Nat):Int×(List Bool)×(List (List Int)):=(((k:Nat):Int),mkd fT Bb (x.2.1) (k+1),mkd ir Bc (x.2.2) (k+1+smk fT (x.2.1)))
theorem xD (xs:List (Int×(List Bool)×(List (List Int)))) (hx:Data.sm xs):smk bz xs≤1048576*1099512676353:=by
 obtain ⟨h1,h2⟩:=aM hx
 have b:=kj bz (B:=1099512676353) xs (fun x hx=>by
  have hs:=h2 x hx
  have q0:=Je (x.2.1) hs.2.1
  have q1:=Jg (x.2.2) hs.2.2
  unfold bz;omega)
 exact Nat.le_trans b (Nat.mul_le_mul_right _ h1)
theorem xE (xs:List (Int×(List Bool)×(List (List Int)))) (hx:Data.sm xs) {k:Nat} (hk:k+smk bz xs≤4611686018427387904):eA xs (k:Int)=some (((k+smk bz xs:Nat):Int),mkd bz nF xs k):=by
 obtain ⟨hN,hs⟩:=aM hx
 unfold eA
 rw[ai (DG (f:=cU) xs bz nF (by omega) hk (fun ys i k hi hl he hk=>by
  have hz0:=hs _ (bT (xs:=xs) (i:=(i:Int)) (by omega) (by omega))
  unfold cU
  have hi':i<ys.length:=by omega
  generalize hz:nth xs (i:Int)=z at *
  have hk':k+(1+smk fT (z.2.1)+smk ir (z.2.2))≤4611686018427387904:=hk
  have m0:=Jf (z.2.1) hz0.2.1 (k:=k+1) (by omega)
  have m1:=Jh (z.2.2) hz0.2.2 (k:=k+1+smk fT (z.2.1)) (by omega)
  simp only
  rw[if_pos (by simp;omega),aj (by omega) (by omega),he]
  simp only[Option.bind_some,Int.toNat_natCast,lL hi',List.set_set,ae (show i<9223372036854775807 by omega),ae (show k<9223372036854775807 by omega),m0,m1]
  have e:k+bz z=k+1+smk fT (z.2.1)+smk ir (z.2.2):=by unfold bz;omega
  rw[e];rfl) (fun ys k hl=>by
  unfold cU
  simp only
  rw[if_neg (by simp;omega)]))]
def dR (x:Int×Int×Int×Int):Nat:=1+1+1+1
def xF (x:Int×Int×Int×Int) (k:Nat):Int×Int×Int×Int:=(((k:Nat):Int),((k+1:Nat):Int),((k+1+1:Nat):Int),((k+1+1+1:Nat):Int))
theorem Gv (xs:List (Int×Int×Int×Int)) (hx:Data.sm xs):smk dR xs≤1048576*4:=by
 obtain ⟨h1,h2⟩:=aM hx
 have b:=kj dR (B:=4) xs (fun x hx=>by
  simp[dR])
 exact Nat.le_trans b (Nat.mul_le_mul_right _ h1)
theorem Gw (xs:List (Int×Int×Int×Int)) (hx:Data.sm xs) {k:Nat} (hk:k+smk dR xs≤4611686018427387904):iL xs (k:Int)=some (((k+smk dR xs:Nat):Int),mkd dR xF xs k):=by
 obtain ⟨hN,hs⟩:=aM hx
 unfold iL
 rw[ai (DG (f:=fb) xs dR xF (by omega) hk (fun ys i k hi hl he hk=>by
  have hz0:=hs _ (bT (xs:=xs) (i:=(i:Int)) (by omega) (by omega))
  unfold fb
  have hi':i<ys.length:=by omega
  generalize hz:nth xs (i:Int)=z at *
  have hk':k+(1+1+1+1)≤4611686018427387904:=hk
  simp only
  rw[if_pos (by simp;omega),aj (by omega) (by omega),he]
  simp only[Option.bind_some,Int.toNat_natCast,lL hi',List.set_set,ae (show i<9223372036854775807 by omega),ae (show k<9223372036854775807 by omega),ae (show k+1<9223372036854775807 by omega),ae (show k+1+1<9223372036854775807 by omega),ae (show k+1+1+1<9223372036854775807 by omega)]
  have e:k+dR z=k+1+1+1+1:=by unfold dR;omega
  rw[e];rfl) (fun ys k hl=>by
  unfold fb
  simp only
  rw[if_neg (by simp;omega)]))]
def bD (x:Int×((List (Int×Int×Int×Int)))×Int):Nat:=1+smk dR (x.2.1)+1
def mj (x:Int×((List (Int×Int×Int×Int)))×Int) (k:Nat):Int×((List (Int×Int×Int×Int)))×Int:=(((k:Nat):Int),mkd dR xF (x.2.1) (k+1),((k+1+smk dR (x.2.1):Nat):Int))
theorem vu (xs:List (Int×((List (Int×Int×Int×Int)))×Int)) (hx:Data.sm xs):smk bD xs≤1048576*4194306:=by
 obtain ⟨h1,h2⟩:=aM hx
 have b:=kj bD (B:=4194306) xs (fun x hx=>by
  have hs:=h2 x hx
  have q0:=Gv (x.2.1) hs.2.1
  unfold bD;omega)
 exact Nat.le_trans b (Nat.mul_le_mul_right _ h1)
theorem vv (xs:List (Int×((List (Int×Int×Int×Int)))×Int)) (hx:Data.sm xs) {k:Nat} (hk:k+smk bD xs≤4611686018427387904):dP xs (k:Int)=some (((k+smk bD xs:Nat):Int),mkd bD mj xs k):=by
 obtain ⟨hN,hs⟩:=aM hx
 unfold dP
 rw[ai (DG (f:=cL) xs bD mj (by omega) hk (fun ys i k hi hl he hk=>by
  have hz0:=hs _ (bT (xs:=xs) (i:=(i:Int)) (by omega) (by omega))
  unfold cL
  have hi':i<ys.length:=by omega
  generalize hz:nth xs (i:Int)=z at *
  have hk':k+(1+smk dR (z.2.1)+1)≤4611686018427387904:=hk
  have m0:=Gw (z.2.1) hz0.2.1 (k:=k+1) (by omega)
  simp only
  rw[if_pos (by simp;omega),aj (by omega) (by omega),he]
  simp only[Option.bind_some,Int.toNat_natCast,lL hi',List.set_set,ae (show i<9223372036854775807 by omega),ae (show k<9223372036854775807 by omega),ae (show k+1+smk dR (z.2.1)<9223372036854775807 by omega),m0]
  have e:k+bD z=k+1+smk dR (z.2.1)+1:=by unfold bD;omega
  rw[e];rfl) (fun ys k hl=>by
  unfold cL
  simp only
  rw[if_neg (by simp;omega)]))]
def gl (x:(List (Int×(List Bool)×(List (List Int))))×(List (Int×((List (Int×Int×Int×Int)))×Int))):Nat:=smk bz (x.1)+smk bD (x.2)
def DH (x:(List (Int×(List Bool)×(List (List Int))))×(List (Int×((List (Int×Int×Int×Int)))×Int))) (k:Nat):(List (Int×(List Bool)×(List (List Int))))×(List (Int×((List (Int×Int×Int×Int)))×Int)):=(mkd bz nF (x.1) (k),mkd bD mj (x.2) (k+smk bz (x.1)))
theorem Bd (x:(List (Int×(List Bool)×(List (List Int))))×(List (Int×((List (Int×Int×Int×Int)))×Int))) (hx:Data.sm x):gl x≤1152927002168131584:=by
 have q0:=xD (x.1) hx.1
 have q1:=vu (x.2) hx.2
 unfold gl;omega
theorem Be (x:(List (Int×(List Bool)×(List (List Int))))×(List (Int×((List (Int×Int×Int×Int)))×Int))) (hx:Data.sm x) {k:Nat} (hk:k+gl x≤4611686018427387904):dY x (k:Int)=some (((k+gl x:Nat):Int),DH x k):=by
 unfold gl at hk
 have m0:=xE (x.1) hx.1 (k:=k) (by omega)
 have m1:=vv (x.2) hx.2 (k:=k+smk bz (x.1)) (by omega)
 unfold dY
 simp only[eD,Option.bind_some,m0,m1]
 have e:k+gl x=k+smk bz (x.1)+smk bD (x.2):=by unfold gl;omega
 rw[e];rfl
end D
namespace D
open Go.RowKit
abbrev AutT:=Int×(List Bool)×(List (List Int))
structure VA (a:AutT) (n:Nat):Prop where
 len:a.2.1.length=n
 start:0≤a.1∧a.1<n
 nlen:a.2.2.length=n
 row: ∀r∈a.2.2,r.length=9
 ent: ∀r∈a.2.2,∀t∈r,-1≤t∧t<n
def mv (a:AutT) (s:Int) (k:Nat):Int:=nth (nth a.2.2 s) k
theorem Ol (x l h:Int):ju x l h=some (decide (l≤x∧x≤h)):=by
 unfold ju
 by_cases c:l≤x
 ·simp[c]
 ·have: ¬l≤x∧True:=⟨c,trivial⟩
  simp[c]
theorem ML (x l h:Int):eg x l h=some (decide (l≤x∧x≤h)):=by
 unfold eg
 by_cases c:l≤x
 ·simp[c]
 ·simp[c]
theorem scan {α R:Type} [Inhabited α] {f:Int→Option (Out R Int)} (xs:List α) (p:α→Prop) [DecidablePred p] (r:R) (hN:xs.length≤9223372036854775807)
  (h: ∀i:Nat,i<xs.length→f (i:Int)=some (if p (nth xs i) then .nxt ((i+1:Nat):Int) else .ret r)) (he:f (xs.length:Int)=some (.brk (xs.length:Int))) :
  (ak f aN 0=some (.brk (xs.length:Int))∧ ∀x∈xs,p x)∨(ak f aN 0=some (.ret r)∧ ¬ ∀x∈xs,p x):=by
 obtain ⟨o,e,hq⟩:=cW (f:=f) (fun i s=>s=(i:Int)∧ ∀j:Nat,j<i→p (nth xs j)) (fun o=>(o= .brk (xs.length:Int)∧ ∀x∈xs,p x)∨(o= .ret r∧ ¬ ∀x∈xs,p x)) xs.length (s:=0) (by
  rintro i s hi ⟨rfl,hp⟩
  by_cases hl:i<xs.length
  ·by_cases c:p (nth xs i)
   ·refine .inl ⟨hl,_,by rw[h i hl,if_pos c],rfl,fun j hj=>?_⟩
    by_cases e:j=i
    ·subst e;exact c
    ·exact hp j (by omega)
   ·refine .inr ⟨_,by rw[h i hl,if_neg c],(fun s' e=>by cases e),.inr ⟨rfl,fun hx=>c (hx _ (bT (by omega) (by omega)))⟩⟩
  ·obtain rfl:i=xs.length:=by omega
   refine .inr ⟨_,he,(fun s' e=>by cases e),.inl ⟨rfl,fun x hx=>?_⟩⟩
   obtain ⟨j,hj,rfl⟩:=MG hx
   exact hp j hj) ⟨rfl,by omega⟩ (nC hN)
 rcases hq with ⟨rfl,hq⟩ | ⟨rfl,hq⟩
 ·exact .inl ⟨e,hq⟩
 ·exact .inr ⟨e,hq⟩
section
variable {a:AutT} {n:Nat} (V:VA a n)
include V
theorem VA.pos:0<n:=by have:=V.start;omega
theorem VA.rowAt {s:Int} (h0:0≤s) (h1:s<n):(nth a.2.2 s).length=9:=V.row _ (bT h0 (by rw[V.nlen];exact h1))
theorem VA.mv {s:Int} {k:Nat} (h0:0≤s) (h1:s<n) (hk:k<9): -1≤mv a s k∧mv a s k<n:=
 V.ent _ (bT h0 (by rw[V.nlen];exact h1)) _ (bT (by omega) (by rw[V.rowAt h0 h1];omega))
theorem VA.get {s:Int} (h0:0≤s) (h1:s<n):aI a.2.2 s=some (nth a.2.2 s):=aj h0 (by rw[V.nlen];exact h1)
theorem VA.get2 {s:Int} {k:Nat} (h0:0≤s) (h1:s<n) (hk:k<9):aI (nth a.2.2 s) (k:Int)=some (D.mv a s k):=aj (by omega) (by rw[V.rowAt h0 h1];omega)
theorem VA.acc {s:Int} (h0:0≤s) (h1:s<n):aI a.2.1 s=some (nth a.2.1 s):=aj h0 (by rw[V.len];exact h1)
theorem Kt {s:Int} {k:Nat} (h0:0≤s) (h1:s<n) (hk:k<9):ba a s (k:Int)=some (mv a s k):=by
 unfold ba fX
 rw[if_neg (by simp;omega),ML];simp only[Option.bind_some]
 rw[if_pos (by simp;omega),V.get h0 h1];simp only[Option.bind_some]
 rw[V.get2 h0 h1 hk];rfl
end
theorem DI {a:AutT} {s:Int} {k:Int} (h0:s<0):ba a s k=some (-1):=by
 unfold ba;rw[if_pos (by simpa using h0)]
end D
namespace D
open Go.RowKit
abbrev Tok:=Int×Int×Int×Int
def ar (t:Tok):Int:=
 if t.1=1∨t.1=2 then (if t.2.1=0∧t.2.2.1=0∧t.2.2.2=0 then 0 else -1)
 else if t.1=3 then (if (0≤t.2.1∧t.2.1≤8)∧t.2.2.1=0∧t.2.2.2=0 then 0 else -1)
 else if t.1=4∨t.1=5 then (if t.2.1=0∧t.2.2.1=0∧t.2.2.2=0 then 2 else -1)
 else if t.1=6 then (if t.2.1=0∧t.2.2.1=0∧t.2.2.2=0 then 1 else -1)
 else if t.1=7 then (if t.2.1=0∧(0≤t.2.2.1∧t.2.2.1≤t.2.2.2)∧(1≤t.2.2.2∧t.2.2.2≤3) then 1 else -1)
 else -1
theorem Ji (x:Int):kD x=some (decide (0≤x∧x≤8)):=by unfold kD;rw[Ol];rfl
theorem Jj (x:Int):fX x=some (decide (0≤x∧x≤8)):=by unfold fX;rw[ML];rfl
theorem Qd (t:Tok):jR t=some (ar t):=by
 obtain ⟨k,l,lo,hi⟩:=t
 unfold jR ar
 simp only[Ji,Ol,Option.bind_some]
 by_cases h1:k=1
 ·subst h1;simp;grind
 by_cases h2:k=2
 ·subst h2;simp;grind
 by_cases h3:k=3
 ·subst h3;simp;grind
 by_cases h4:k=4
 ·subst h4;simp;grind
 by_cases h5:k=5
 ·subst h5;simp;grind
 by_cases h6:k=6
 ·subst h6;simp;grind
 by_cases h7:k=7
 ·subst h7;simp;grind
 simp[h1,h2,h3,h4,h5,h6,h7]
theorem Om (t:Tok):ma t=some (decide (0≤ar t)):=by
 obtain ⟨k,l,lo,hi⟩:=t
 unfold ma ar
 simp only[Jj,ML,Option.bind_some]
 by_cases h1:k=1
 ·subst h1;simp;grind
 by_cases h2:k=2
 ·subst h2;simp;grind
 by_cases h3:k=3
 ·subst h3;simp only[]
  by_cases a:0≤l∧l≤8 <;> by_cases b:lo=0 <;> by_cases c:hi=0 <;> simp[a,b,c]
 by_cases h4:k=4
 ·subst h4;simp;grind
 by_cases h5:k=5
 ·subst h5;simp;grind
 by_cases h6:k=6
 ·subst h6;simp;grind
 by_cases h7:k=7
 ·subst h7;simp only[]
  by_cases a:l=0 <;> by_cases b:0≤lo∧lo≤hi <;> by_cases c:1≤hi∧hi≤3 <;> simp[a,b,c]
 simp[h1,h2,h3,h4,h5,h6,h7]
theorem qm (t:Tok): -1≤ar t∧ar t≤2:=by
 unfold ar
 grind
theorem kl {t:Tok} (h:0≤ar t):(ar t=2∧(t.1=4∨t.1=5))∨(ar t=1∧(t.1=6∨t.1=7))∨(ar t=0∧(t.1=1∨t.1=2∨t.1=3)):=by
 unfold ar at h⊢
 grind
theorem uB {t:Tok} (h:0≤ar t) (k:t.1=7):(0≤t.2.2.1∧t.2.2.1≤t.2.2.2)∧(1≤t.2.2.2∧t.2.2.2≤3):=by
 unfold ar at h
 grind
mutual
def flat:Tr Tok→List Tok
 | .nil=>[]
 | .node t ks=>fU ks++ [t]
def fU:List (Tr Tok)→List Tok
 | [] =>[]
 | k::ks=>flat k++fU ks
end
inductive WT:Tr Tok→Prop
 | node {t:Tok} {ks:List (Tr Tok)} :ar t=(ks.length:Int)→(∀k,k∈ks→WT k)→WT (.node t ks)
theorem lM: ∀(a b:List (Tr Tok)),fU (a++b)=fU a++fU b
 | [],b=>rfl
 | k::a,b=>by rw[List.cons_append,fU,fU,lM a b,List.append_assoc]
theorem ja (x:Tr Tok):fU [x] =flat x:=by rw[fU,fU,List.append_nil]
theorem Gx (x y:Tr Tok):fU [x,y] =flat x++flat y:=by rw[fU,ja]
theorem WT.cases {x:Tr Tok} (h:WT x):(∃t,x= .node t [] ∧ar t=0)∨(∃t a,x= .node t [a] ∧ar t=1∧WT a)∨ ∃t a b,x= .node t [a,b] ∧ar t=2∧WT a∧WT b:=by
 cases h with
 | @node t ks h1 h2 =>
  have:=(qm t).2
  match ks,h1,h2 with
  | [],h1,h2=>exact .inl ⟨t,rfl,h1⟩
  | [a],h1,h2=>exact .inr (.inl ⟨t,a,rfl,h1,h2 a (by simp)⟩)
  | [a,b],h1,h2=>exact .inr (.inr ⟨t,a,b,rfl,h1,h2 a (by simp),h2 b (by simp)⟩)
  | _::_::_::_,h1,h2=>simp at h1;omega
theorem WT.ind {p:Tr Tok→Prop} (h0: ∀t,ar t=0→p (.node t [])) (h1: ∀t a,ar t=1→WT a→p a→p (.node t [a])) (h2: ∀t a b,ar t=2→WT a→WT b→p a→p b→p (.node t [a,b])) {x:Tr Tok} (h:WT x):p x:=by
 induction h with
 | @node t ks e k ih =>
  have:=(qm t).2
  match ks,e,k,ih with
  | [],e,k,ih=>exact h0 t e
  | [a],e,k,ih=>exact h1 t a e (k a (by simp)) (ih a (by simp))
  | [a,b],e,k,ih=>exact h2 t a b e (k a (by simp)) (k b (by simp)) (ih a (by simp)) (ih b (by simp))
  | _::_::_::_,e,_,_=>simp at e;omega
theorem vx (t:Tok):flat (.node t [])= [t]:=by rw[flat,fU];rfl
theorem xG (t:Tok) (a:Tr Tok):flat (.node t [a])=flat a++ [t]:=by rw[flat,ja]
theorem pq (t:Tok) (a b:Tr Tok):flat (.node t [a,b])=(flat a++flat b)++ [t]:=by rw[flat,Gx]
theorem WT.pos {x:Tr Tok} (h:WT x):1≤(flat x).length:=by
 cases h with
 | node h1 h2=>rw[flat];simp
def stp (s:List (Tr Tok)) (t:Tok):Option (List (Tr Tok)):=if ar t<0∨(s.length:Int)<ar t then none else some (s.take (s.length - (ar t).toNat)++ [.node t (s.drop (s.length - (ar t).toNat))])
def run:List (Tr Tok)→List Tok→Option (List (Tr Tok))
 | s,[] =>some s
 | s,t::l=>(stp s t).bind fun s'=>run s' l
theorem xH: ∀(a:List Tok) {b:List Tok} {s:List (Tr Tok)},run s (a++b)=(run s a).bind fun s'=>run s' b
 | [],b,s=>rfl
 | t::a,b,s=>by
  rw[List.cons_append,run,run]
  cases stp s t with
  | none=>rfl
  | some s'=>exact xH a
theorem qn {a:List Tok} {t:Tok} {s:List (Tr Tok)} :run s (a++ [t])=(run s a).bind fun s'=>stp s' t:=by
 rw[xH]
 congr 1
 funext s'
 rw[run]
 cases stp s' t <;> rfl
theorem Ku: ∀ {l:List Tok} {s s':List (Tr Tok)},run s l=some s'→(∀k,k∈s→WT k)→(∀k,k∈s'→WT k)∧fU s'=fU s++l
 | [],s,s',h,hs=>by
  obtain rfl:=Option.some.inj h
  exact ⟨hs,by simp⟩
 | t::l,s,s',h,hs=>by
  rw[run] at h
  unfold stp at h
  by_cases c:ar t<0∨(s.length:Int)<ar t
  ·rw[if_pos c] at h;cases h
  ·rw[if_neg c] at h
   have hlen:(s.drop (s.length - (ar t).toNat)).length=(ar t).toNat:=by rw[List.length_drop];omega
   obtain ⟨k1,k2⟩:=Ku (show run _ l=some s' from h) fun k hk=>by
    rcases List.mem_append.1 hk with hk | hk
    ·exact hs k (List.mem_of_mem_take hk)
    ·obtain rfl:=List.mem_singleton.1 hk
     exact .node (by rw[hlen];omega) fun k hk=>hs k (List.mem_of_mem_drop hk)
   refine ⟨k1,?_⟩
   rw[k2,lM,ja,flat,←List.append_assoc,←lM,List.take_append_drop]
   simp
theorem Jk {x:Tr Tok} (h:WT x): ∀s,run s (flat x)=some (s++ [x]):=by
 refine WT.ind (p:=fun x=> ∀s,run s (flat x)=some (s++ [x])) ?_ ?_ ?_ h
 ·intro t e s
  rw[vx,run,stp,if_neg (by omega),e]
  simp[run]
 ·intro t a e _ ia s
  rw[xG,qn,ia]
  show stp (s++ [a]) t=_
  rw[stp,if_neg (by simp;omega),e]
  simp
 ·intro t a b e _ _ ia ib s
  rw[pq,qn,xH,ia]
  show ((run (s++ [a]) (flat b)).bind fun s'=>stp s' t)=_
  rw[ib]
  show stp (s++ [a] ++ [b]) t=_
  rw[stp,if_neg (by simp;omega),e]
  have:(s++ [a] ++ [b]).length - (2:Int).toNat=s.length:=by simp
  rw[this]
  simp
def isX (e:List Tok):Bool:=match run [] e with
 | some [_] =>true
 | _=>false
theorem Gy {e:List Tok} (h:isX e=true): ∃x,run [] e=some [x] ∧WT x∧flat x=e:=by
 unfold isX at h
 split at h
 ·rename_i x hx
  obtain ⟨k1,k2⟩:=Ku hx (fun k hk=>by cases hk)
  refine ⟨x,hx,k1 x (by simp),?_⟩
  rw[ja] at k2
  rw[k2];rfl
 ·cases h
theorem Gz {l:List Tok} : ∀ {s s':List (Tr Tok)},run s l=some s'→s'.length≤s.length+l.length:=by
 induction l with
 | nil=>intro s s' h;obtain rfl:=Option.some.inj h;simp
 | cons t l ih =>
  intro s s' h
  rw[run] at h
  obtain ⟨s1,h1,h2⟩:=Option.bind_eq_some_iff.1 h
  have h3:=ih h2
  unfold stp at h1
  split at h1
  ·cases h1
  ·obtain rfl:=Option.some.inj h1
   simp only[List.length_append,List.length_take,List.length_cons,List.length_nil] at h3⊢
   omega
theorem uC {e:List Tok} {i:Nat} (h:i<e.length):e.take (i+1)=e.take i++ [nth e (i:Int)]:=by
 rw[List.take_succ_eq_append_getElem h,bq h]
theorem sB {e:List Tok} {i:Nat} (h:i<e.length) {st:List (Tr Tok)} (h1:run [] (e.take i)=some st) (h2:stp st (nth e (i:Int))=none):run [] e=none:=by
 have:run [] (e.take (i+1))=none:=by rw[uC h,qn,h1];exact h2
 rw[←List.take_append_drop (i+1) e,xH,this];rfl
theorem Jl {e:List Tok} (he:e.length≤1048576):nS e=some (isX e):=by
 obtain ⟨o,eo,hq⟩:=cW (f:=lZ e) (fun i s=> ∃st,s=((st.length:Int),(i:Int))∧run [] (e.take i)=some st) (fun o=>(o= .ret false∧run [] e=none)∨ ∃st,o= .brk ((st.length:Int),(e.length:Int))∧run [] e=some st) e.length (s:=(0,0)) (by
  rintro i s hi ⟨st,rfl,hst⟩
  have hl:=Gz hst
  simp only[List.length_nil,List.length_take] at hl
  unfold lZ
  simp only[eD]
  by_cases c:i<e.length
  ·rw[if_pos (by simp;omega),aj (by omega) (by omega)];simp only[Option.bind_some]
   rw[Qd];simp only[Option.bind_some]
   have hr:=qm (nth e (i:Int))
   by_cases c1:ar (nth e (i:Int))<0
   ·refine .inr ⟨_,by rw[if_pos (by simpa using c1)],(fun s' e=>by cases e),.inl ⟨rfl,sB c hst ?_⟩⟩
    rw[stp,if_pos (.inl c1)]
   ·rw[if_neg (by simpa using c1)]
    by_cases c2:ar (nth e (i:Int))>(st.length:Int)
    ·refine .inr ⟨_,by rw[if_pos (by simpa using c2)],(fun s' e=>by cases e),.inl ⟨rfl,sB c hst ?_⟩⟩
     rw[stp,if_pos (.inr c2)]
    ·rw[if_neg (by simpa using c2)]
     refine .inl ⟨c,_,rfl,st.take (st.length - (ar (nth e (i:Int))).toNat)++ [.node (nth e (i:Int)) (st.drop (st.length - (ar (nth e (i:Int))).toNat))],?_,?_⟩
     ·rw[kg (n:=(st.length:Int) - ar (nth e (i:Int))) (by omega) (by omega),kg (by omega) (by omega),ae (by omega)]
      congr 1
      simp only[List.length_append,List.length_take,List.length_cons,List.length_nil]
      omega
     ·rw[uC c,qn,hst]
      show stp st _=_
      rw[stp,if_neg (by omega)]
  ·obtain rfl:i=e.length:=by omega
   rw[List.take_of_length_le (by omega)] at hst
   exact .inr ⟨_,by rw[if_neg (by simp)],(fun s' e=>by cases e),.inr ⟨st,rfl,hst⟩⟩) ⟨[],rfl,rfl⟩ (nC (by omega))
 unfold nS
 rcases hq with ⟨rfl,h⟩ | ⟨st,rfl,h⟩
 ·rw[cv eo];unfold isX;rw[h]
 ·rw[ai eo];unfold isX;rw[h]
  match st with
  | [] =>rfl
  | [_] =>rfl
  | _::_::_=>simp;omega
theorem PG {t:Tok} (h:0≤ar t):(Option.bind ((if t.1==4 then (some (t.1==4)) else (some (t.1==5)):Option Bool)) (fun s3=>if s3 then (some 2) else (Option.bind ((if t.1==6 then (some (t.1==6)) else (some (t.1==7)):Option Bool)) (fun s4=>if s4 then (some 1) else (some 0)))):Option Int)=some (ar t):=by
 rcases kl h with ⟨e,k | k⟩ | ⟨e,k | k⟩ | ⟨e,k | k | k⟩ <;> rw[e] <;> simp[k]
theorem MM (t:Tok): ∃n:Int,(Option.bind ((if t.1==4 then (some (t.1==4)) else (some (t.1==5)):Option Bool)) (fun s3=>if s3 then (some 2) else (Option.bind ((if t.1==6 then (some (t.1==6)) else (some (t.1==7)):Option Bool)) (fun s4=>if s4 then (some 1) else (some 0)))):Option Int)=some n:=by
 by_cases h4:t.1=4
 ·exact ⟨2,by simp[h4]⟩
 by_cases h5:t.1=5
 ·exact ⟨2,by simp[h5]⟩
 by_cases h6:t.1=6
 ·exact ⟨1,by simp[h6]⟩
 by_cases h7:t.1=7
 ·exact ⟨1,by simp[h7]⟩
 exact ⟨0,by simp[h4,h5,h6,h7]⟩
def sg (e:List Tok):Tr Tok:=match run [] e with
 | some [x] =>x
 | _=>.nil
theorem xI {e:List Tok} (he:e.length≤1048576):jG e=some (sg e):=by
 obtain ⟨o,eo,hq⟩:=cW (f:=mb e) (fun i s=> ∃st,s=(st,(i:Int))∧run [] (e.take i)=some st) (fun o=>(o= .ret Tr.nil∧run [] e=none)∨ ∃st,o= .brk (st,(e.length:Int))∧run [] e=some st) e.length (s:=([],0)) (by
  rintro i s hi ⟨st,rfl,hst⟩
  have hl:=Gz hst
  simp only[List.length_nil,List.length_take] at hl
  unfold mb
  simp only[eD]
  by_cases c:i<e.length
  ·rw[if_pos (by simp;omega),aj (by omega) (by omega)];simp only[Option.bind_some]
   have hr:=qm (nth e (i:Int))
   by_cases c1:ar (nth e (i:Int))<0
   ·obtain ⟨n,hn⟩:=MM (nth e (i:Int))
    rw[hn];simp only[Option.bind_some]
    rw[Om];simp only[Option.bind_some]
    refine .inr ⟨_,by rw[if_neg (by simp;omega)],(fun s' e=>by cases e),.inl ⟨rfl,sB c hst ?_⟩⟩
    rw[stp,if_pos (.inl c1)]
   ·rw[PG (by omega)];simp only[Option.bind_some]
    rw[Om];simp only[Option.bind_some]
    rw[if_pos (by simp;omega),kg (n:=(st.length:Int) - ar (nth e (i:Int))) (by omega) (by omega)]
    by_cases c2:ar (nth e (i:Int))>(st.length:Int)
    ·refine .inr ⟨_,by rw[if_pos (by simp;omega)],(fun s' e=>by cases e),.inl ⟨rfl,sB c hst ?_⟩⟩
     rw[stp,if_pos (.inr c2)]
    ·rw[if_neg (by simp;omega),show∀p:Prop,∀ [Decidable p],p→chk p=some () from fun p _ hp=>by unfold chk;rw[if_pos hp]]
     ·simp only[Option.bind_some]
      have e1:((st.length:Int) - ar (nth e (i:Int))).toNat=st.length - (ar (nth e (i:Int))).toNat:=by omega
      rw[e1,ay (by simp;omega)];simp only[Option.bind_some]
      rw[ay (by simp;omega)];simp only[Option.bind_some,List.nil_append,ae (show i<9223372036854775807 by omega)]
      refine .inl ⟨c,_,rfl,_,rfl,?_⟩
      rw[uC c,qn,hst]
      show stp st _=_
      rw[stp,if_neg (by omega)]
     ·omega
  ·obtain rfl:i=e.length:=by omega
   rw[List.take_of_length_le (by omega)] at hst
   exact .inr ⟨_,by rw[if_neg (by simp)],(fun s' e=>by cases e),.inr ⟨st,rfl,hst⟩⟩) ⟨[],rfl,rfl⟩ (nC (by omega))
 unfold jG
 rcases hq with ⟨rfl,h⟩ | ⟨st,rfl,h⟩
 ·rw[cv eo];unfold sg;rw[h]
 ·rw[ai eo];unfold sg;rw[h]
  match st with
  | [] =>rfl
  | [x] =>rfl
  | _::_::_ =>
   simp only
   rw[if_pos (by simp;omega)]
theorem re {x:Tr Tok} (h:WT x):sg (flat x)=x:=by unfold sg;rw[Jk h];rfl
theorem Jm {e:List Tok} (he:e.length≤1048576):nW e=some (isX e):=by
 unfold nW
 rw[xI he];simp only[Option.bind_some]
 congr 1
 by_cases h:isX e=true
 ·rw[h]
  obtain ⟨x,h1,h2,h3⟩:=Gy h
  have:sg e=x:=by unfold sg;rw[h1]
  rw[this]
  cases h2 with
  | node _ _=>rfl
 ·have:sg e= .nil:=by
   unfold sg
   unfold isX at h
   split
   ·rename_i x hx;rw[hx] at h;exact absurd rfl h
   ·rfl
  rw[this,Bool.eq_false_iff.2 h];rfl
theorem Bf {e:List Tok} (he:e.length≤1048576):gE e=some (decide (e.length≤24)&&isX e):=by
 unfold gE
 rw[Jl he]
 by_cases c:e.length≤24
 ·rw[if_pos (by simp;omega)];simp[c]
 ·rw[if_neg (by simp;omega)];simp[c]
theorem Bg {e:List Tok} (he:e.length≤1048576):gK e=some (decide (e.length≤24)&&isX e):=by
 unfold gK
 rw[Jm he]
 by_cases c:e.length≤24
 ·rw[if_pos (by simp;omega)];simp[c]
 ·rw[if_neg (by simp;omega)];simp[c]
theorem jo {p:Prop} [Decidable p] (h:p):chk p=some ():=by unfold chk;rw[if_pos h]
theorem MN {A:List Tok} {x:Tr Tok} (hx:WT x) (hl:(A++flat x).length≤1000000):eI (A++flat x)=some (A.length:Int):=by
 obtain ⟨s',e,ks,q1,q2,q3⟩: ∃s',ak (iz (A++flat x)) aN (1,((A++flat x).length:Int))=some (.brk s')∧ ∃ks:List (Tr Tok),ks= [] ∧s'.2=(A.length:Int)∧True:=by
  obtain ⟨o,eo,hq⟩:=cW (f:=iz (A++flat x)) (fun i s=> ∃ks:List (Tr Tok),(∀k,k∈ks→WT k)∧s=((ks.length:Int),(((A++fU ks).length:Nat):Int))∧i+(fU ks).length=(flat x).length∧(A++flat x).take (A++fU ks).length=A++fU ks) (fun o=> ∃s',o= .brk s'∧s'.2=(A.length:Int)) (flat x).length (s:=(1,((A++flat x).length:Int))) (by
   rintro i s hi ⟨ks,hw,rfl,hlen,htk⟩
   unfold iz
   simp only[eD]
   rcases List.eq_nil_or_concat ks with rfl | ⟨ks',y,rfl⟩
   ·refine .inr ⟨_,by rw[if_neg (by simp)],(fun s' e=>by cases e),_,rfl,?_⟩
    simp[fU]
   ·have hy:=hw y (by simp)
    cases hy with
    | @node t cs h1 h2 =>
     have hfl:fU (ks'++ [.node t cs])=fU (ks'++cs)++ [t]:=by rw[lM,ja,flat,lM,List.append_assoc]
     rw[List.concat_eq_append,hfl] at hlen htk⊢
     simp only[List.length_append,List.length_cons,List.length_nil] at hlen htk hl⊢
     rw[if_pos (by simp <;> omega)]
     have hpos:IntKind.i64.wrap (((A.length+((fU (ks'++cs)).length+1):Nat):Int) - 1)=((A.length+(fU (ks'++cs)).length:Nat):Int):=by
      rw[kg (by omega) (by omega)];omega
     have hget:nth (A++flat x) ((A.length+(fU (ks'++cs)).length:Nat):Int)=t:=by
      have hlt:A.length+(fU (ks'++cs)).length<(A++flat x).length:=by rw[List.length_append];omega
      have e1:=congrArg (fun l:List Tok=>l[A.length+(fU (ks'++cs)).length]?) htk
      rw[List.getElem?_take_of_lt (by omega),List.getElem?_eq_getElem hlt,←List.append_assoc,List.getElem?_append_right (by rw[List.length_append];omega),List.length_append] at e1
      rw[bq hlt]
      simpa using e1
     rw[hpos,aj (by omega) (by simp only[List.length_append];omega),hget];simp only[Option.bind_some]
     rw[Qd,h1];simp only[Option.bind_some]
     have hcl:(cs.length:Int)≤2:=by rw[←h1];exact (qm t).2
     have hkl:ks'.length≤(fU (ks'++cs)).length+1000000:=by
      have: ∀l:List (Tr Tok),(∀k,k∈l→WT k)→l.length≤(fU l).length:=by
       intro l
       induction l with
       | nil=>intro _;simp
       | cons k l ih =>
        intro h
        have h1:=(h k (by simp)).pos
        have h2:=ih fun k hk=>h k (by simp[hk])
        rw[fU];simp only[List.length_cons,List.length_append];omega
      have:=this ks' fun k hk=>hw k (by simp[hk])
      rw[lM,List.length_append];omega
     refine .inl ⟨by omega,_,rfl,ks'++cs,fun k hk=>?_,?_,by omega,?_⟩
     ·rcases List.mem_append.1 hk with hk | hk
      ·exact hw k (by simp[hk])
      ·exact h2 k hk
     ·rw[kg (n:=((ks'.length+1:Nat):Int) - 1) (by omega) (by omega),kg (by omega) (by omega)]
      congr 1
      (simp only[List.length_append]) <;> omega
     ·have e1:=congrArg (List.take (A++fU (ks'++cs)).length) htk
      rw[List.take_take,Nat.min_eq_left (by rw[List.length_append];omega),←List.append_assoc,List.take_left] at e1
      rw[List.length_append] at e1
      exact e1) ⟨[x],fun k hk=>by (obtain rfl:=List.mem_singleton.1 hk;exact hx),by rw[ja];rfl,by rw[ja];omega,by rw[ja,List.take_length]⟩ (nC (by rw[List.length_append] at hl;omega))
  obtain ⟨s',rfl,h2⟩:=hq
  exact ⟨s',eo,[],rfl,h2,trivial⟩
 unfold eI
 rw[ai e,q2]
end D
namespace D
open Go.RowKit
instance trInh {α:Type} :Inhabited (Tr α):=⟨.nil⟩
def szX:Tr Tok→Int
 | .nil=>0
 | .node t ks=>min (szL t 1 ks) 100000
where szL (t:Tok) (acc:Int):List (Tr Tok)→Int
 | [] =>acc
 | k::ks=>szL t (acc+(if t.1=7 then (szX k+3)*t.2.2.2 else szX k)) ks
theorem cX {x:Tr Tok} (h:WT x):1≤szX x∧szX x≤100000:=by
 refine WT.ind (p:=fun x=>1≤szX x∧szX x≤100000) ?_ ?_ ?_ h
 ·intro t _
  show 1≤min (1:Int) 100000∧min (1:Int) 100000≤100000
  omega
 ·intro t a e _ ih
  show 1≤min ((1:Int)+(if t.1=7 then (szX a+3)*t.2.2.2 else szX a)) 100000∧min ((1:Int)+(if t.1=7 then (szX a+3)*t.2.2.2 else szX a)) 100000≤100000
  split
  ·rename_i k
   have hr:=uB (show 0≤ar t by omega) k
   have:0≤(szX a+3)*t.2.2.2:=Int.mul_nonneg (by omega) (by omega)
   omega
  ·omega
 ·intro t a b e _ _ iha ihb
  have k:t.1≠7:=by
   rcases kl (show 0≤ar t by omega) with ⟨_,k⟩ | ⟨k,_⟩ | ⟨k,_⟩ <;> omega
  show 1≤min ((1:Int)+(if t.1=7 then (szX a+3)*t.2.2.2 else szX a)+(if t.1=7 then (szX b+3)*t.2.2.2 else szX b)) 100000∧min ((1:Int)+(if t.1=7 then (szX a+3)*t.2.2.2 else szX a)+(if t.1=7 then (szX b+3)*t.2.2.2 else szX b)) 100000≤100000
  rw[if_neg k,if_neg k]
  omega
theorem zN {a h:Int} (h1:1≤a∧a≤100000) (h2:1≤h∧h≤3):IntKind.i64.wrap ((IntKind.i64.wrap (a+3))*h)=(a+3)*h:=by
 rw[kg (n:=a+3) (by omega) (by omega)]
 have k1:0≤(a+3)*h:=Int.mul_nonneg (by omega) (by omega)
 have k2:(a+3)*h≤100003*3:=Int.mul_le_mul (by omega) (by omega) (by omega) (by omega)
 exact kg (by omega) (by omega)
theorem GB {a h:Int} (h1:1≤a∧a≤100000) (h2:1≤h∧h≤3):0≤(a+3)*h∧(a+3)*h≤300009:=by
 have k1:0≤(a+3)*h:=Int.mul_nonneg (by omega) (by omega)
 have k2:(a+3)*h≤100003*3:=Int.mul_le_mul (by omega) (by omega) (by omega) (by omega)
 omega
theorem lN {t:Tok} {ks:List (Tr Tok)} :Tr.get (.node t ks)=some (t,ks):=rfl
theorem rf {f:Tr Tok→Option Int} {t:Tok} {ks:List (Tr Tok)} {i:Nat} {acc:Int} (hi:i<ks.length) (hf:f (nth ks (i:Int))=some (szX (nth ks (i:Int)))) (hw:WT (nth ks (i:Int))) (ht:0≤ar t) (ha:0≤acc∧acc≤1000000) (hik:i≤1000000) :
  aV f (.node t ks) (t,ks) (acc,(i:Int))=some (.nxt (acc+(if t.1=7 then (szX (nth ks (i:Int))+3)*t.2.2.2 else szX (nth ks (i:Int))),((i+1:Nat):Int))):=by
 unfold aV
 simp only[lN]
 have hr:=cX hw
 rw[if_pos (by simp <;> omega),aj (by omega) (by omega)];simp only[Option.bind_some]
 by_cases k:t.1=7
 ·have h7:=uB ht k
  have hm:=GB hr h7.2
  rw[if_pos (by simpa using k),if_pos k,hf];simp only[Option.bind_some]
  rw[zN hr h7.2,kg (by omega) (by omega),ae (by omega)]
 ·rw[if_neg (by simpa using k),if_neg k,hf];simp only[Option.bind_some]
  rw[kg (by omega) (by omega),ae (by omega)]
theorem sC {α:Type} [Inhabited α] {a:α} {l:List α} :nth (a::l) ((0:Nat):Int)=a:=rfl
theorem GC {α:Type} [Inhabited α] {a b:α} {l:List α} :nth (a::b::l) ((1:Nat):Int)=b:=rfl
theorem MO {x:Tr Tok} (h:WT x): ∀n,(flat x).length≤n→a9 n x=some (szX x):=by
 refine WT.ind (p:=fun x=> ∀n,(flat x).length≤n→a9 n x=some (szX x)) ?_ ?_ ?_ h
 ·intro t e n hn
  rw[vx] at hn
  match n,hn with
  | n+1,_ =>
   rw[a9];simp only[lN,Option.bind_some]
   have hL:ak (aV (a9 n) (.node t []) (t,[])) aN (1,0)=some (.brk (1,0)):=a7 (f:=aV (a9 n) (.node t []) (t,[])) (fun i=>(1,(i:Int))) 0 (fun i hi=>by omega) (by unfold aV;simp) (by unfold aN;omega)
   rw[ai hL]
   all_goals rfl
 ·intro t a e wa ih n hn
  rw[xG,List.length_append] at hn
  match n,hn with
  | n+1,hn =>
   have hr:=cX wa
   rw[a9];simp only[lN,Option.bind_some]
   have hL:ak (aV (a9 n) (.node t [a]) (t,[a])) aN (1,0)=some (.brk (szX.szL t 1 [a],1)):=a7 (f:=aV (a9 n) (.node t [a]) (t,[a])) (fun i=>(szX.szL t 1 ([a].take i),(i:Int))) 1 (fun i hi=>by
    obtain rfl:i=0:=by omega
    exact rf (acc:=1) (i:=0) (by simp) (ih n (by simp at hn;omega)) wa (by omega) (by omega) (by omega)) (by unfold aV;simp) (by unfold aN;omega)
   rw[ai hL]
   all_goals rfl
 ·intro t a b e wa wb iha ihb n hn
  rw[pq,List.length_append,List.length_append] at hn
  match n,hn with
  | n+1,hn =>
   have hra:=cX wa
   have hrb:=cX wb
   have k:t.1≠7:=by
    rcases kl (show 0≤ar t by omega) with ⟨_,k⟩ | ⟨k,_⟩ | ⟨k,_⟩ <;> omega
   rw[a9];simp only[lN,Option.bind_some]
   have hL:ak (aV (a9 n) (.node t [a,b]) (t,[a,b])) aN (1,0)=some (.brk (szX.szL t 1 [a,b],2)):=a7 (f:=aV (a9 n) (.node t [a,b]) (t,[a,b])) (fun i=>(szX.szL t 1 ([a,b].take i),(i:Int))) 2 (fun i hi=>by
    have:i=0∨i=1:=by omega
    rcases this with rfl | rfl
    ·exact rf (acc:=1) (i:=0) (by simp) (iha n (by simp at hn;omega)) wa (by omega) (by omega) (by omega)
    ·exact rf (acc:=1+(if t.1=7 then (szX a+3)*t.2.2.2 else szX a)) (i:=1) (by simp) (ihb n (by simp at hn;omega)) wb (by omega) (by rw[if_neg k];omega) (by omega)) (by unfold aV;simp) (by unfold aN;omega)
   rw[ai hL]
   all_goals rfl
theorem jF {A:List Tok} {t:Tok} (h:A.length≤1000000):aI (A++ [t]) (IntKind.i64.wrap (((A++ [t]).length:Int) - 1))=some t∧IntKind.i64.wrap (((A++ [t]).length:Int) - 1)=(A.length:Int):=by
 have e:IntKind.i64.wrap (((A++ [t]).length:Int) - 1)=(A.length:Int):=by
  rw[kg (by simp only[List.length_append,List.length_cons,List.length_nil];omega) (by simp only[List.length_append,List.length_cons,List.length_nil];omega)]
  simp only[List.length_append,List.length_cons,List.length_nil];omega
 refine ⟨?_,e⟩
 rw[e,aj (by omega) (by simp only[List.length_append,List.length_cons,List.length_nil];omega),bq (by simp)]
 simp
theorem Qe {t:Tok} (h:ar t=2):(if t.1==4 then (some (t.1==4)) else (some (t.1==5)):Option Bool)=some true:=by
 rcases kl (show 0≤ar t by omega) with ⟨_,k | k⟩ | ⟨e,_⟩ | ⟨e,_⟩
 ·simp[k]
 ·simp[k]
 ·omega
 ·omega
theorem Jn {t:Tok} (h:ar t=1∨ar t=0):(if t.1==4 then (some (t.1==4)) else (some (t.1==5)):Option Bool)=some false:=by
 rcases kl (show 0≤ar t by omega) with ⟨e,k⟩ | ⟨e,k | k⟩ | ⟨e,k | k | k⟩
 ·omega
 all_goals simp[k]
theorem On {t:Tok} (h:ar t=0):(t.1==6)=false∧(t.1==7)=false:=by
 rcases kl (show 0≤ar t by omega) with ⟨e,k⟩ | ⟨e,k | k⟩ | ⟨e,k | k | k⟩
 ·omega
 ·omega
 ·omega
 all_goals simp[k]
theorem Jo {t:Tok} (h:ar t=1):((t.1==6)=true∧t.1=6)∨((t.1==6)=false∧(t.1==7)=true∧t.1=7):=by
 rcases kl (show 0≤ar t by omega) with ⟨e,k⟩ | ⟨e,k | k⟩ | ⟨e,k | k | k⟩
 ·omega
 ·left;simp[k]
 ·right;simp[k]
 all_goals omega
theorem uD {a b:Tr Tok} {t:Tok} (wb:WT b) (hl:((flat a++flat b)++ [t]).length≤1000000) :
  (((flat a++flat b)++ [t]).take ((((flat a++flat b).length:Nat):Int)).toNat)=flat a++flat b ∧
  eI (flat a++flat b)=some (((flat a).length:Nat):Int) ∧
  (((flat a++flat b)++ [t]).take ((((flat a).length:Nat):Int)).toNat)=flat a ∧
  (flat a++flat b).drop ((((flat a).length:Nat):Int)).toNat=flat b:=by
 refine ⟨?_,MN wb (by simp only[List.length_append,List.length_cons,List.length_nil] at hl⊢;omega),?_,?_⟩
 ·rw[Int.toNat_natCast,List.take_left]
 ·rw[Int.toNat_natCast,List.append_assoc,List.take_left]
 ·rw[Int.toNat_natCast,List.drop_left]
theorem Oo {x:Tr Tok} (h:WT x): ∀n,(flat x).length≤n→(flat x).length≤1000000→cC n (flat x)=some (szX x):=by
 refine WT.ind (p:=fun x=> ∀n,(flat x).length≤n→(flat x).length≤1000000→cC n (flat x)=some (szX x)) ?_ ?_ ?_ h
 ·intro t e n hn hl
  rw[vx] at hn hl⊢
  match n,hn with
  | n+1,_ =>
   have hk:=On e
   rw[cC]
   have:=(jF (A:=[]) (t:=t) (by simp)).1
   rw[List.nil_append] at this
   rw[this];simp only[Option.bind_some]
   rw[Jn (.inr e)];simp only[Option.bind_some,hk.1,hk.2,Bool.false_eq_true,if_false]
   rfl
 ·intro t a e wa ih n hn hl
  rw[xG] at hn hl⊢
  simp only[List.length_append,List.length_cons,List.length_nil] at hn hl
  match n,hn with
  | n+1,hn =>
   have hr:=cX wa
   rw[cC]
   obtain ⟨l1,l2⟩:=jF (A:=flat a) (t:=t) (by omega)
   rw[l1];simp only[Option.bind_some]
   rw[Jn (.inl e)];simp only[Option.bind_some,Bool.false_eq_true,if_false]
   rw[l2,Int.toNat_natCast,List.take_left,jo (by simp only[List.length_append,List.length_cons,List.length_nil];omega)];simp only[Option.bind_some]
   rw[ih n (by omega) (by omega)];simp only[Option.bind_some]
   rcases Jo e with ⟨k1,k2⟩ | ⟨k1,k2,k3⟩
   ·rw[if_pos k1,kg (by omega) (by omega)]
    show some (min 100000 (szX a+1))=some (min ((1:Int)+(if t.1=7 then (szX a+3)*t.2.2.2 else szX a)) 100000)
    rw[if_neg (by omega)]
    congr 1;omega
   ·have h7:=uB (show 0≤ar t by omega) k3
    have hm:=GB hr h7.2
    rw[if_neg (by simp[k1]),if_pos k2,zN hr h7.2,kg (by omega) (by omega)]
    show some (min 100000 ((szX a+3)*t.2.2.2+1))=some (min ((1:Int)+(if t.1=7 then (szX a+3)*t.2.2.2 else szX a)) 100000)
    rw[if_pos k3]
    congr 1;omega
 ·intro t a b e wa wb iha ihb n hn hl
  rw[pq] at hn hl⊢
  obtain ⟨p1,p2,p3,p4⟩:=uD (a:=a) (t:=t) wb hl
  simp only[List.length_append,List.length_cons,List.length_nil] at hn hl
  match n,hn with
  | n+1,hn =>
   have hra:=cX wa
   have hrb:=cX wb
   have k:t.1≠7:=by
    rcases kl (show 0≤ar t by omega) with ⟨_,k⟩ | ⟨k,_⟩ | ⟨k,_⟩ <;> omega
   rw[cC]
   obtain ⟨l1,l2⟩:=jF (A:=flat a++flat b) (t:=t) (by rw[List.length_append];omega)
   rw[l1];simp only[Option.bind_some]
   rw[Qe e];simp only[Option.bind_some,if_true]
   rw[l2,p1,p2,jo (by simp only[List.length_append,List.length_cons,List.length_nil];omega)];simp only[Option.bind_some]
   rw[jo (by simp only[List.length_append,List.length_cons,List.length_nil];omega),p3,p4];simp only[Option.bind_some]
   rw[iha n (by omega) (by omega),jo (by simp only[List.length_append,List.length_cons,List.length_nil];omega)];simp only[Option.bind_some]
   rw[ihb n (by have:=wa.pos;omega) (by omega)];simp only[Option.bind_some]
   rw[kg (n:=szX a+szX b) (by omega) (by omega),kg (by omega) (by omega)]
   show some (min 100000 (szX a+szX b+1))=some (min ((1:Int)+(if t.1=7 then (szX a+3)*t.2.2.2 else szX a)+(if t.1=7 then (szX b+3)*t.2.2.2 else szX b)) 100000)
   rw[if_neg k,if_neg k]
   congr 1;omega
def Jp:Tr Tok:=.node (2,0,0,0) []
def Bh (x:Tr Tok):Nat→Int→Tr Tok
 | 0,_=>Jp
 | h+1,low=>if 0<low then .node (4,0,0,0) [x,Bh x h (max 0 (low - 1))] else .node (5,0,0,0) [.node (4,0,0,0) [x,Bh x h (max 0 (low - 1))],Jp]
mutual
def mM:Tr Tok→Tr Tok
 | .nil=>.nil
 | .node t ks=>if t.1=7 then Bh ((He ks).headD .nil) t.2.2.2.toNat t.2.2.1 else .node t (He ks)
def He:List (Tr Tok)→List (Tr Tok)
 | [] =>[]
 | k::ks=>mM k::He ks
end
theorem ar4:ar (4,0,0,0)=2:=by decide
theorem ar5:ar (5,0,0,0)=2:=by decide
theorem ar2:ar (2,0,0,0)=0:=by decide
theorem GD:WT Jp:=.node ar2 fun k hk=>by cases hk
theorem qo:flat Jp= [(2,0,0,0)]:=vx _
theorem WT.two {t:Tok} {a b:Tr Tok} (h:ar t=2) (ha:WT a) (hb:WT b):WT (.node t [a,b]):=.node h fun k hk=>by
 rcases List.mem_cons.1 hk with rfl | hk
 ·exact ha
 ·obtain rfl:=List.mem_singleton.1 hk
  exact hb
theorem WT.one {t:Tok} {a:Tr Tok} (h:ar t=1) (ha:WT a):WT (.node t [a]):=.node h fun k hk=>by
 obtain rfl:=List.mem_singleton.1 hk
 exact ha
theorem Bi {x:Tr Tok} (hx:WT x): ∀(h:Nat) (low:Int),WT (Bh x h low)
 | 0,_=>GD
 | h+1,low=>by
  rw[Bh]
  split
  ·exact .two ar4 hx (Bi hx h _)
  ·exact .two ar5 (.two ar4 hx (Bi hx h _)) GD
theorem xJ (x:Tr Tok): ∀(h:Nat) (low:Int),(flat (Bh x h low)).length≤((flat x).length+3)*h+1
 | 0,_=>by rw[Bh,qo];simp
 | h+1,low=>by
  have ih:=xJ x h (max 0 (low - 1))
  rw[Bh]
  split
  ·rw[pq];simp only[List.length_append,List.length_cons,List.length_nil]
   rw[Nat.mul_succ];omega
  ·rw[pq,pq,qo];simp only[List.length_append,List.length_cons,List.length_nil]
   rw[Nat.mul_succ];omega
theorem O6 {t:Tok} {a:Tr Tok} :mM (.node t [a])=if t.1=7 then Bh (mM a) t.2.2.2.toNat t.2.2.1 else .node t [mM a]:=by rw[mM,He,He];rfl
theorem exp2 {t:Tok} {a b:Tr Tok} (h:t.1≠7):mM (.node t [a,b])= .node t [mM a,mM b]:=by rw[mM,if_neg h,He,He,He]
theorem O7 {t:Tok} (h:t.1≠7):mM (.node t [])= .node t []:=by rw[mM,if_neg h,He]
theorem no7 {t:Tok} (h:ar t=2∨ar t=0):t.1≠7:=by
 rcases kl (show 0≤ar t by omega) with ⟨_,k⟩ | ⟨k,_⟩ | ⟨_,k⟩ <;> omega
theorem Kv {x:Tr Tok} (h:WT x):WT (mM x):=by
 refine WT.ind (p:=fun x=>WT (mM x)) ?_ ?_ ?_ h
 ·intro t e
  rw[O7 (no7 (.inr e))]
  exact .node e fun k hk=>by cases hk
 ·intro t a e _ ih
  rw[O6]
  split
  ·exact Bi ih _ _
  ·exact .one e ih
 ·intro t a b e _ _ iha ihb
  rw[exp2 (no7 (.inl e))]
  exact .two e iha ihb
theorem xK {x:Tr Tok} (h:WT x):szX x<100000→((flat (mM x)).length:Int)≤szX x:=by
 refine WT.ind (p:=fun x=>szX x<100000→((flat (mM x)).length:Int)≤szX x) ?_ ?_ ?_ h
 ·intro t e _
  rw[O7 (no7 (.inr e)),vx]
  show (1:Int)≤min 1 100000
  omega
 ·intro t a e wa ih hs
  have hr:=cX wa
  have hs':min ((1:Int)+(if t.1=7 then (szX a+3)*t.2.2.2 else szX a)) 100000<100000:=hs
  show _≤min ((1:Int)+(if t.1=7 then (szX a+3)*t.2.2.2 else szX a)) 100000
  rw[O6]
  by_cases k:t.1=7
  ·rw[if_pos k] at hs'⊢
   rw[if_pos k]
   have h7:=uB (show 0≤ar t by omega) k
   have hge:szX a+3≤(szX a+3)*t.2.2.2:=by
    have:=Int.mul_le_mul_of_nonneg_left (c:=szX a+3) h7.2.1 (by omega)
    omega
   have h1:=ih (by omega)
   have h2:=xJ (mM a) t.2.2.2.toNat t.2.2.1
   have h3:(((flat (mM a)).length+3)*t.2.2.2.toNat:Int)≤(szX a+3)*t.2.2.2:=by
    rw[Int.toNat_of_nonneg (by omega)]
    exact Int.mul_le_mul_of_nonneg_right (by omega) (by omega)
   have h4:((flat (Bh (mM a) t.2.2.2.toNat t.2.2.1)).length:Int)≤(((flat (mM a)).length+3)*t.2.2.2.toNat:Int)+1:=by exact_mod_cast h2
   omega
  ·rw[if_neg k] at hs'⊢
   rw[if_neg k,xG]
   have h1:=ih (by omega)
   simp only[List.length_append,List.length_cons,List.length_nil]
   omega
 ·intro t a b e wa wb iha ihb hs
  have hra:=cX wa
  have hrb:=cX wb
  have k:=no7 (.inl e)
  have hs':min ((1:Int)+(if t.1=7 then (szX a+3)*t.2.2.2 else szX a)+(if t.1=7 then (szX b+3)*t.2.2.2 else szX b)) 100000<100000:=hs
  show _≤min ((1:Int)+(if t.1=7 then (szX a+3)*t.2.2.2 else szX a)+(if t.1=7 then (szX b+3)*t.2.2.2 else szX b)) 100000
  rw[if_neg k,if_neg k] at hs'⊢
  rw[exp2 k,pq]
  have h1:=iha (by omega)
  have h2:=ihb (by omega)
  simp only[List.length_append,List.length_cons,List.length_nil]
  omega
theorem wu {x:Tr Tok} : ∀(h n:Nat) (low:Int),h<n→h≤3→0≤low→low≤3→fY n x low (h:Int)=some (Bh x h low)
 | 0,n+1,low,_,_,_,_=>by
  rw[fY,if_pos (by rfl)];rfl
 | h+1,n+1,low,h1,h2,h3,h4=>by
  rw[fY,if_neg (by simp;omega),kg (n:=low - 1) (by omega) (by omega),kg (n:=((h+1:Nat):Int) - 1) (by omega) (by omega)]
  rw[show ((h+1:Nat):Int) - 1=(h:Int) from by omega,wu h n (max 0 (low - 1)) (by omega) (by omega) (by omega) (by omega)];simp only[Option.bind_some]
  rw[Bh]
  by_cases c:0<low
  ·rw[if_pos (by simpa using c),if_pos c]
  ·rw[if_neg (by simpa using c),if_neg c];rfl
theorem Cw {a b:List Tok} {t:Tok} (h:a.length+b.length≤1000000):ic a b t=some ((a++b)++ [t]):=by
 unfold ic hZ
 rw[ay (by simp only[List.length_append,List.length_cons,List.length_nil];omega)];simp only[Option.bind_some,List.nil_append]
 rw[ay (by omega)];simp only[Option.bind_some]
 rw[ay (by simp only[List.length_append,List.length_cons,List.length_nil];omega)];rfl
theorem GE {x:Tr Tok} : ∀(h n:Nat) (low:Int),h<n→h≤3→0≤low→low≤3→(flat x).length≤100000→fW n (flat x) low (h:Int)=some (flat (Bh x h low))
 | 0,n+1,low,_,_,_,_,_=>by
  rw[fW,if_pos (by rfl),Bh,qo];rfl
 | h+1,n+1,low,h1,h2,h3,h4,h5=>by
  rw[fW,if_neg (by simp;omega),kg (n:=low - 1) (by omega) (by omega),kg (n:=((h+1:Nat):Int) - 1) (by omega) (by omega)]
  rw[show ((h+1:Nat):Int) - 1=(h:Int) from by omega,GE h n (max 0 (low - 1)) (by omega) (by omega) (by omega) (by omega) h5];simp only[Option.bind_some]
  have hl:=xJ x h (max 0 (low - 1))
  have hl3:((flat x).length+3)*h≤100003*3:=Nat.mul_le_mul (by omega) (by omega)
  rw[Cw (by omega),Bh];simp only[Option.bind_some]
  by_cases c:0<low
  ·rw[if_pos (by simpa using c),if_pos c,pq]
  ·rw[if_neg (by simpa using c),if_neg c,pq,pq,qo]
   show (ln 2).bind _=_
   unfold ln;simp only[Option.bind_some]
   rw[Cw (by simp only[List.length_append,List.length_cons,List.length_nil];omega)];rfl
theorem qp:1000000000000≤dS:=by rw[Hu];unfold aN;omega
theorem Jq {x:Tr Tok} (h:WT x): ∀n,(flat x).length≤n→aQ n x=some (mM x):=by
 have hF:=qp
 refine WT.ind (p:=fun x=> ∀n,(flat x).length≤n→aQ n x=some (mM x)) ?_ ?_ ?_ h
 ·intro t e n hn
  rw[vx] at hn
  have k:=no7 (.inr e)
  match n,hn with
  | n+1,_ =>
   rw[aQ];simp only[lN,Option.bind_some]
   rw[if_neg (by simpa using k),O7 k]
   have hL:ak (aK (aQ n) (t,[])) aN (0,t.1,t.2.1,t.2.2.1,t.2.2.2,[])=some (.brk (0,t.1,t.2.1,t.2.2.1,t.2.2.2,[])):=a7 (f:=aK (aQ n) (t,[])) (fun i=>((i:Int),t.1,t.2.1,t.2.2.1,t.2.2.2,He (([] :List (Tr Tok)).take i))) 0 (fun i hi=>by omega) (by unfold aK;simp) (by unfold aN;omega)
   rw[ai hL]
   all_goals rfl
 ·intro t a e wa ih n hn
  rw[xG,List.length_append] at hn
  match n,hn with
  | n+1,hn =>
   have ia:=ih n (by simp at hn;omega)
   rw[aQ,O6];simp only[lN,Option.bind_some]
   rcases Jo e with ⟨k1,k2⟩ | ⟨k1,k2,k3⟩
   ·rw[if_neg (by simp;omega),if_neg (by omega)]
    have hL:ak (aK (aQ n) (t,[a])) aN (0,t.1,t.2.1,t.2.2.1,t.2.2.2,[])=some (.brk (1,t.1,t.2.1,t.2.2.1,t.2.2.2,[mM a])):=a7 (f:=aK (aQ n) (t,[a])) (fun i=>((i:Int),t.1,t.2.1,t.2.2.1,t.2.2.2,[mM a].take i)) 1 (fun i hi=>by
     obtain rfl:i=0:=by omega
     unfold aK
     simp only
     rw[if_pos (by simp),aj (by omega) (by simp),sC];simp only[Option.bind_some]
     rw[ia];simp only[Option.bind_some]
     rw[ay (by simp)];rfl) (by unfold aK;simp) (by unfold aN;omega)
    rw[ai hL]
    all_goals rfl
   ·have h7:=uB (show 0≤ar t by omega) k3
    rw[if_pos k2,if_pos k3,show aI [a] 0=some a from rfl];simp only[Option.bind_some]
    rw[ia];simp only[Option.bind_some]
    have:=wu (x:=mM a) t.2.2.2.toNat dS t.2.2.1 (by omega) (by omega) (by omega) (by omega)
    rw[Int.toNat_of_nonneg (by omega)] at this
    rw[this];rfl
 ·intro t a b e wa wb iha ihb n hn
  rw[pq,List.length_append,List.length_append] at hn
  have k:=no7 (.inl e)
  match n,hn with
  | n+1,hn =>
   have ia:=iha n (by simp at hn;omega)
   have ib:=ihb n (by simp at hn;omega)
   rw[aQ,exp2 k];simp only[lN,Option.bind_some]
   rw[if_neg (by simpa using k)]
   have hL:ak (aK (aQ n) (t,[a,b])) aN (0,t.1,t.2.1,t.2.2.1,t.2.2.2,[])=some (.brk (2,t.1,t.2.1,t.2.2.1,t.2.2.2,[mM a,mM b])):=a7 (f:=aK (aQ n) (t,[a,b])) (fun i=>((i:Int),t.1,t.2.1,t.2.2.1,t.2.2.2,[mM a,mM b].take i)) 2 (fun i hi=>by
    have:i=0∨i=1:=by omega
    rcases this with rfl | rfl
    ·unfold aK
     simp only
     rw[if_pos (by simp),aj (by omega) (by simp),sC];simp only[Option.bind_some]
     rw[ia];simp only[Option.bind_some]
     rw[ay (by simp)];rfl
    ·unfold aK
     simp only
     rw[if_pos (by simp),aj (by omega) (by simp),GC];simp only[Option.bind_some]
     rw[ib];simp only[Option.bind_some]
     rw[ay (by simp)];rfl) (by unfold aK;simp) (by unfold aN;omega)
   rw[ai hL]
   all_goals rfl
theorem GF {x:Tr Tok} (h:WT x): ∀n out,(flat x).length≤n→out.length+(flat x).length≤1000000→aO n x out=some (out++flat x):=by
 refine WT.ind (p:=fun x=> ∀n out,(flat x).length≤n→out.length+(flat x).length≤1000000→aO n x out=some (out++flat x)) ?_ ?_ ?_ h
 ·intro t e n out hn hl
  rw[vx] at hn hl⊢
  simp only[List.length_cons,List.length_nil] at hl
  match n,hn with
  | n+1,_ =>
   rw[aO];simp only[lN,Option.bind_some]
   have hL:ak (aH (aO n) (t,[])) aN (0,out)=some (.brk (0,out)):=a7 (f:=aH (aO n) (t,[])) (fun i=>((i:Int),out)) 0 (fun i hi=>by omega) (by unfold aH;simp) (by unfold aN;omega)
   rw[ai hL]
   simp only
   rw[ay (by simp;omega)];rfl
 ·intro t a e wa ih n out hn hl
  rw[xG] at hn hl⊢
  simp only[List.length_append,List.length_cons,List.length_nil] at hn hl
  match n,hn with
  | n+1,hn =>
   rw[aO];simp only[lN,Option.bind_some]
   have hL:ak (aH (aO n) (t,[a])) aN (0,out)=some (.brk (1,out++flat a)):=a7 (f:=aH (aO n) (t,[a])) (fun i=>((i:Int),if i=0 then out else out++flat a)) 1 (fun i hi=>by
    obtain rfl:i=0:=by omega
    unfold aH
    simp only
    rw[if_pos (by simp),aj (by omega) (by simp),sC];simp only[Option.bind_some,if_true]
    rw[ih n _ (by omega) (by omega)];rfl) (by unfold aH;simp) (by unfold aN;omega)
   rw[ai hL]
   simp only
   rw[ay (by simp;omega)];simp
 ·intro t a b e wa wb iha ihb n out hn hl
  rw[pq] at hn hl⊢
  simp only[List.length_append,List.length_cons,List.length_nil] at hn hl
  match n,hn with
  | n+1,hn =>
   rw[aO];simp only[lN,Option.bind_some]
   have hL:ak (aH (aO n) (t,[a,b])) aN (0,out)=some (.brk (2,(out++flat a)++flat b)):=a7 (f:=aH (aO n) (t,[a,b])) (fun i=>((i:Int),if i=0 then out else if i=1 then out++flat a else (out++flat a)++flat b)) 2 (fun i hi=>by
    have:i=0∨i=1:=by omega
    rcases this with rfl | rfl
    ·unfold aH
     simp only
     rw[if_pos (by simp),aj (by omega) (by simp),sC];simp only[Option.bind_some,if_true]
     rw[iha n _ (by omega) (by omega)];rfl
    ·unfold aH
     simp only
     rw[if_pos (by simp),aj (by omega) (by simp),GC];simp only[Option.bind_some,if_true]
     rw[ihb n _ (by omega) (by simp;omega)];rfl) (by unfold aH;simp) (by unfold aN;omega)
   rw[ai hL]
   simp only
   rw[ay (by simp;omega)];simp
theorem Jr {x:Tr Tok} (h:WT x): ∀n,(flat x).length≤n→(flat x).length≤1000000→szX x≤50000→bJ n (flat x)=some (flat (mM x)):=by
 have hF:=qp
 refine WT.ind (p:=fun x=> ∀n,(flat x).length≤n→(flat x).length≤1000000→szX x≤50000→bJ n (flat x)=some (flat (mM x))) ?_ ?_ ?_ h
 ·intro t e n hn hl hs
  rw[vx] at hn hl⊢
  match n,hn with
  | n+1,_ =>
   have hk:=On e
   rw[bJ]
   have:=(jF (A:=[]) (t:=t) (by simp)).1
   rw[List.nil_append] at this
   rw[this];simp only[Option.bind_some]
   rw[Jn (.inr e)];simp only[Option.bind_some,hk.1,hk.2,Bool.false_eq_true,if_false]
   rw[O7 (no7 (.inr e)),vx]
 ·intro t a e wa ih n hn hl hs
  have hs':min ((1:Int)+(if t.1=7 then (szX a+3)*t.2.2.2 else szX a)) 100000≤50000:=hs
  rw[xG] at hn hl⊢
  simp only[List.length_append,List.length_cons,List.length_nil] at hn hl
  match n,hn with
  | n+1,hn =>
   have hr:=cX wa
   have hsa:szX a≤50000:=by
    by_cases k:t.1=7
    ·rw[if_pos k] at hs'
     have h7:=uB (show 0≤ar t by omega) k
     have hge:szX a+3≤(szX a+3)*t.2.2.2:=by
      have:=Int.mul_le_mul_of_nonneg_left (c:=szX a+3) h7.2.1 (by omega)
      omega
     omega
    ·rw[if_neg k] at hs';omega
   have hla:=xK wa (by omega)
   rw[bJ]
   obtain ⟨l1,l2⟩:=jF (A:=flat a) (t:=t) (by omega)
   rw[l1];simp only[Option.bind_some]
   rw[Jn (.inl e)];simp only[Option.bind_some,Bool.false_eq_true,if_false]
   rw[l2,Int.toNat_natCast,List.take_left,jo (by simp only[List.length_append,List.length_cons,List.length_nil];omega)];simp only[Option.bind_some]
   rw[ih n (by omega) (by omega) hsa,O6];simp only[Option.bind_some]
   rcases Jo e with ⟨k1,k2⟩ | ⟨k1,k2,k3⟩
   ·rw[if_pos k1,if_neg (by omega),Cw (by simp;omega),xG];simp
   ·have h7:=uB (show 0≤ar t by omega) k3
    rw[if_neg (by simp[k1]),if_pos k2,if_pos k3]
    have:=GE (x:=mM a) t.2.2.2.toNat dS t.2.2.1 (by omega) (by omega) (by omega) (by omega) (by omega)
    rw[Int.toNat_of_nonneg (by omega)] at this
    rw[this];rfl
 ·intro t a b e wa wb iha ihb n hn hl hs
  have k:=no7 (.inl e)
  have hs':min ((1:Int)+(if t.1=7 then (szX a+3)*t.2.2.2 else szX a)+(if t.1=7 then (szX b+3)*t.2.2.2 else szX b)) 100000≤50000:=hs
  rw[if_neg k,if_neg k] at hs'
  rw[pq] at hn hl⊢
  obtain ⟨p1,p2,p3,p4⟩:=uD (a:=a) (t:=t) wb hl
  simp only[List.length_append,List.length_cons,List.length_nil] at hn hl
  match n,hn with
  | n+1,hn =>
   have hra:=cX wa
   have hrb:=cX wb
   have hla:=xK wa (by omega)
   have hlb:=xK wb (by omega)
   rw[bJ]
   obtain ⟨l1,l2⟩:=jF (A:=flat a++flat b) (t:=t) (by rw[List.length_append];omega)
   rw[l1];simp only[Option.bind_some]
   rw[Qe e];simp only[Option.bind_some,if_true]
   rw[l2,p1,p2,jo (by simp only[List.length_append,List.length_cons,List.length_nil];omega)];simp only[Option.bind_some]
   rw[jo (by simp only[List.length_append,List.length_cons,List.length_nil];omega),p3,p4];simp only[Option.bind_some]
   rw[iha n (by omega) (by omega) (by omega),jo (by simp only[List.length_append,List.length_cons,List.length_nil];omega)];simp only[Option.bind_some]
   rw[ihb n (by have:=wa.pos;omega) (by omega) (by omega)];simp only[Option.bind_some]
   rw[Cw (by omega),exp2 k,pq];rfl
def DJ (e:List Tok):List Tok×Bool:=
 if decide (e.length≤24)&&isX e then (if 5000<szX (sg e) then ([],false) else (if 400<(flat (mM (sg e))).length then ([],false) else (flat (mM (sg e)),true))) else ([],false)
theorem Bj {e:List Tok} (he:e.length≤1048576):iA e=some (DJ e)∧iG e=some (DJ e):=by
 have hF:=qp
 unfold iA iG DJ
 rw[Bf he,Bg he];simp only[Option.bind_some]
 by_cases c:(decide (e.length≤24)&&isX e)=true
 ·rw[if_pos c,if_pos c,if_pos c,xI he];simp only[Option.bind_some]
  rw[Bool.and_eq_true] at c
  obtain ⟨x,h1,hw,rfl⟩:=Gy c.2
  have h24:(flat x).length≤24:=by simpa using c.1
  have hr:=cX hw
  rw[re hw,Oo hw dS (by omega) (by omega),MO hw dS (by omega)];simp only[Option.bind_some]
  by_cases c2:5000<szX x
  ·have c2':decide (szX x>5000)=true:=by simpa using c2
   simp only[gt_iff_lt,c2,decide_true,if_true,and_self]
  ·have c2':decide (szX x>5000)=false:=by simpa using c2
   simp only[gt_iff_lt,c2,decide_false,if_false,Bool.false_eq_true]
   have hl:=xK hw (by omega)
   rw[Jr hw dS (by omega) (by omega) (by omega),Jq hw dS (by omega)];simp only[Option.bind_some]
   unfold mc
   rw[GF (Kv hw) dS [] (by omega) (by simp;omega)];simp only[Option.bind_some,List.nil_append]
   by_cases c3:400<(flat (mM x)).length
   ·have c3':decide (((flat (mM x)).length:Int)>400)=true:=decide_eq_true (by omega)
    simp only[c3',c3,decide_true,if_true,and_self]
   ·have c3':decide (((flat (mM x)).length:Int)>400)=false:=decide_eq_false (by omega)
    simp only[c3',c3,decide_false,if_false,Bool.false_eq_true,and_self]
 ·rw[if_neg c,if_neg c,if_neg c];exact ⟨rfl,rfl⟩
theorem MP {e:List Tok} (h:(DJ e).2=true): ∃y,WT y∧(DJ e).1=flat y∧(flat y).length≤400:=by
 unfold DJ at h⊢
 split at h
 ·rename_i c
  rw[if_pos c]
  rw[Bool.and_eq_true] at c
  obtain ⟨x,h1,hw,rfl⟩:=Gy c.2
  rw[re hw] at h⊢
  split at h
  ·cases h
  ·rename_i c2
   rw[if_neg c2]
   split at h
   ·cases h
   ·rename_i c3
    rw[if_neg c3]
    exact ⟨_,Kv hw,rfl,by omega⟩
 ·cases h
end D
namespace D
open Go.RowKit
def GG (out:List Bool) (t:Int):Bool:=decide (t≥0)&&nth out t
def hit (out:List Bool) (row:List Int):Bool:=row.any (GG out)
def rS (a:AutT) (out:List Bool) (s:Nat):List Bool:=if hit out (nth a.2.2 s) then out.set s true else out
def gm (a:AutT) (out:List Bool):Nat→List Bool
 | 0=>out
 | s+1=>rS a (gm a out s) s
def cnt (out:List Bool):Nat:=out.count true
theorem Oq (out:List Bool):cnt out≤out.length:=List.count_le_length
theorem Cx {out:List Bool} {s:Nat} (h:s<out.length) (k:out[s] =true):out.set s true=out:=by
 refine List.ext_getElem (by simp) fun i h1 h2=>?_
 rw[List.getElem_set]
 split
 ·rename_i e;subst e;exact k.symm
 ·rfl
theorem MQ {out:List Bool} {s:Nat} (h:s<out.length) (k:out[s] =false):cnt (out.set s true)=cnt out+1:=by
 unfold cnt
 rw[List.count_set h];simp[k]
section
variable {a:AutT} {n:Nat}
theorem xL (a:AutT) (out:List Bool) (s:Nat):(rS a out s).length=out.length:=by unfold rS;split <;> simp
theorem gT (a:AutT) (out:List Bool): ∀s,(gm a out s).length=out.length
 | 0=>rfl
 | s+1=>by rw[gm,xL,gT a out s]
theorem rT {out:List Bool} {s:Nat} (h:s<out.length):(rS a out s=out∧ ¬(hit out (nth a.2.2 s)=true∧nth out s=false))∨(cnt (rS a out s)=cnt out+1∧hit out (nth a.2.2 s)=true∧nth out s=false):=by
 unfold rS
 rw[bq h]
 cases hh:hit out (nth a.2.2 s) with
 | false=>exact .inl ⟨by simp,by simp⟩
 | true =>
  cases hk:out[s] with
  | true=>exact .inl ⟨by simp[Cx h hk],by simp⟩
  | false=>exact .inr ⟨by simp[MQ h hk],rfl,rfl⟩
theorem rh {out:List Bool} : ∀s,s≤out.length→(gm a out s=out∧cnt (gm a out s)=cnt out)∨cnt out<cnt (gm a out s)
 | 0,_=>.inl ⟨rfl,rfl⟩
 | s+1,hs=>by
  have hl:s<(gm a out s).length:=by rw[gT];omega
  have ih:=rh (out:=out) s (by omega)
  rw[gm]
  rcases rT (a:=a) hl with ⟨e,-⟩ | ⟨e,-,-⟩
  ·rw[e];exact ih
  ·rcases ih with ⟨-,h2⟩ | h
   ·exact .inr (by omega)
   ·exact .inr (by omega)
def it (a:AutT):Nat→List Bool
 | 0=>a.2.1
 | j+1=>gm a (it a j) a.2.1.length
theorem lO (a:AutT): ∀j,(it a j).length=a.2.1.length
 | 0=>rfl
 | j+1=>by rw[it,gT,lO a j]
theorem Kw (a:AutT) (j:Nat):cnt (it a j)≤a.2.1.length:=by rw[←lO a j];exact Oq _
theorem Bk (a:AutT) (j:Nat):(it a (j+1)=it a j)∨cnt (it a j)<cnt (it a (j+1)):=by
 rcases rh (a:=a) (out:=it a j) a.2.1.length (by rw[lO];exact Nat.le_refl _) with h | h
 ·exact .inl h.1
 ·exact .inr h
theorem Kx {j k:Nat} (h:it a (j+1)=it a j) (hk:j≤k):it a k=it a j:=by
 induction hk with
 | refl=>rfl
 | step _ ih=>rw[it,ih];exact h
theorem GH {j k:Nat} (h:it a (j+1)=it a j) (h':it a (k+1)=it a k):it a j=it a k:=by
 rcases Nat.le_total j k with e | e
 ·exact (Kx h e).symm
 ·exact Kx h' e
theorem MR (a : AutT) : it a (a.2.1.length + 1) = it a a.2.1.length := by
  have key : ∀ j, it a (j + 1) = it a j ∨ j + 1 ≤ cnt (it a (j + 1)) := by
    intro j
    induction j with
    | zero => rcases Bk a 0 with h | h
              · exact .inl h
              · exact .inr (by omega)
    | succ j ih =>
      rcases Bk a (j + 1) with h | h
      · exact .inl h
      · rcases ih with h' | h'
        · left; rw [it, h']; exact h'
        · exact .inr (by omega)
  rcases key a.2.1.length with h | h
  · exact h
  · have := Kw a (a.2.1.length + 1); omega
def live (a:AutT):List Bool:=it a a.2.1.length
theorem pv (a:AutT):(live a).length=a.2.1.length:=lO a _
theorem Cy {α:Type} [Inhabited α] {row:List α} {p:α→Bool} {k:Nat} (h:k<row.length):(row.take (k+1)).any p=((row.take k).any p || p (nth row (k:Int))):=by
 rw[List.take_succ_eq_append_getElem h,List.any_append,bq h];simp
section
variable (V:VA a n) (hn:n≤1000000)
include V hn
theorem GI {out:List Bool} {s:Nat} (hs:s<n) (hl:out.length=n):ak (fv a (out,(s:Int))) aN (out,0)=some (.brk (rS a out s,9)):=by
 have hr:=V.rowAt (s:=s) (by omega) (by omega)
 have hls:s<out.length:=by omega
 have:=a7 (f:=fv a (out,(s:Int))) (fun k=>(if ((nth a.2.2 (s:Int)).take k).any (GG out) then out.set s true else out,(k:Int))) 9 (fun k hk=>by
  unfold fv
  simp only
  rw[if_pos (by simp;omega),V.get (by omega) (by omega)];simp only[Option.bind_some]
  rw[V.get2 (by omega) (by omega) hk];simp only[Option.bind_some]
  rw[Cy (by omega),show nth (nth a.2.2 (s:Int)) (k:Int)=mv a s k from rfl]
  simp only[ae (show k<9223372036854775807 by omega)]
  by_cases c:mv a s k≥0
  ·have hset:(out.set s true).length=n:=by simp[hl]
   have hm:=(V.mv (s:=s) (k:=k) (by omega) (by omega) hk).2
   rw[if_pos (by simpa using c)]
   by_cases q:((nth a.2.2 (s:Int)).take k).any (GG out)=true
   ·simp only[q,if_true,Bool.true_or]
    rw[aj c (by rw[hset];exact hm),aj (by omega) (by rw[hset];omega)];simp only[Option.bind_some,Int.toNat_natCast]
    split <;> simp
   ·simp only[q,Bool.false_eq_true,if_false,Bool.false_or,GG]
    rw[aj c (by rw[hl];exact hm),aj (by omega) (by rw[hl];omega)];simp only[Option.bind_some,Int.toNat_natCast]
    cases hc:nth out (mv a s k) <;> simp[hc,c]
  ·rw[if_neg (by simpa using c)]
   simp[GG,c]) (by unfold fv;simp) (by unfold aN;omega)
 have e9:(nth a.2.2 (s:Int)).take 9=nth a.2.2 (s:Int):=List.take_of_length_le (by omega)
 rw[e9] at this
 exact this
theorem zO {out:List Bool} (hl:out.length=n):ak (fw a) aN (out,0)=some (.brk (gm a out n,(n:Int))):=by
 have hlen:=V.len
 refine a7 (f:=fw a) (fun s=>(gm a out s,(s:Int))) n (fun s hs=>?_) ?_ (nC (by omega))
 ·unfold fw
  simp only
  rw[if_pos (by simp;omega),ai (GI V hn hs (by rw[gT];exact hl)),ae (by omega)]
  rfl
 ·unfold fw
  simp only
  rw[if_neg (by simp;omega)]
theorem Ky:hO a=some (live a):=by
 have hlen:=V.len
 unfold hO
 rw[ay (by simp;omega)];simp only[Option.bind_some,List.nil_append]
 have:=a7 (f:=iy a) (fun j=>(it a j,(j:Int))) n (fun j hj=>by
  unfold iy
  simp only
  rw[if_pos (by simp;omega),ai (zO V hn (by rw[lO];exact hlen)),ae (by omega),it,hlen]) (by
  unfold iy
  simp only
  rw[if_neg (by simp;omega)]) (nC (by omega))
 exact (ai this).trans (by simp[live,hlen])
theorem GJ {out:List Bool} {g:Bool} {s:Nat} (hs:s<n) (hl:out.length=n):ak (b7 (g,(s:Int),out) (nth a.2.2 (s:Int))) aN (g,0,out)=some (.brk (g || (hit out (nth a.2.2 (s:Int)) && !nth out (s:Int)),9,rS a out s)):=by
 have hr:=V.rowAt (s:=s) (by omega) (by omega)
 have hls:s<out.length:=by omega
 have:=a7 (f:=b7 (g,(s:Int),out) (nth a.2.2 (s:Int))) (fun k=>(g || (((nth a.2.2 (s:Int)).take k).any (GG out) && !nth out (s:Int)),(k:Int),if ((nth a.2.2 (s:Int)).take k).any (GG out) then out.set s true else out)) 9 (fun k hk=>by
  unfold b7
  simp only
  rw[if_pos (by simp[hr];omega),V.get2 (by omega) (by omega) hk];simp only[Option.bind_some]
  rw[Cy (by omega),show nth (nth a.2.2 (s:Int)) (k:Int)=mv a s k from rfl]
  simp only[ae (show k<9223372036854775807 by omega)]
  by_cases c:mv a s k≥0
  ·have hset:(out.set s true).length=n:=by simp[hl]
   have hm:=(V.mv (s:=s) (k:=k) (by omega) (by omega) hk).2
   rw[if_pos (by simpa using c)]
   by_cases q:((nth a.2.2 (s:Int)).take k).any (GG out)=true
   ·simp only[q,if_true,Bool.true_or]
    have hself:nth (out.set s true) (s:Int)=true:=by
     have:=zL (xs:=out) (i:=(s:Int)) (x:=true) (by omega) (by omega)
     simpa using this
    rw[aj c (by rw[hset];exact hm),aj (by omega) (by rw[hset];omega)];simp only[Option.bind_some,Int.toNat_natCast,hself,if_true]
    split <;> simp
   ·simp only[q,Bool.false_eq_true,if_false,Bool.false_or,GG,Bool.false_and,Bool.or_false]
    rw[aj c (by rw[hl];exact hm),aj (by omega) (by rw[hl];omega)];simp only[Option.bind_some,Int.toNat_natCast]
    cases hc:nth out (mv a s k) with
    | false=>simp[c]
    | true =>
     cases hd:nth out (s:Int) with
     | false=>simp[c]
     | true =>
      rw[bq hls] at hd
      simp[c,Cx hls hd]
  ·rw[if_neg (by simpa using c)]
   simp[GG,c]) (by unfold b7;simp[hr]) (by unfold aN;omega)
 have e9:(nth a.2.2 (s:Int)).take 9=nth a.2.2 (s:Int):=List.take_of_length_le (by omega)
 rw[e9] at this
 have e0:(g || (((nth a.2.2 (s:Int)).take 0).any (GG out) && !nth out (s:Int)))=g:=by simp
 rw[e0] at this
 exact this
theorem zP {out:List Bool} (hl:out.length=n): ∃g,ak (b8 a) aN (false,0,out)=some (.brk (g,(n:Int),gm a out n))∧(g=true↔cnt out<cnt (gm a out n)):=by
 have hlen:=V.len
 have hnl:=V.nlen
 obtain ⟨s',e,⟨g,rfl,hg⟩⟩:=iY (f:=b8 a) (fun s st=> ∃g,st=(g,(s:Int),gm a out s)∧(g=true↔cnt out<cnt (gm a out s))) n (by
  rintro s st hs ⟨g,rfl,hg⟩
  have hpl:(gm a out s).length=n:=by rw[gT];exact hl
  unfold b8
  simp only
  rw[if_pos (by simp;omega),V.get (by omega) (by omega)];simp only[Option.bind_some]
  rw[ai (GJ V hn hs hpl),ae (by omega)]
  refine ⟨_,rfl,_,rfl,?_⟩
  rw[Bool.or_eq_true,Bool.and_eq_true,Bool.not_eq_true',hg,gm]
  have hc:=rh (a:=a) (out:=out) s (by omega)
  rcases rT (a:=a) (out:=gm a out s) (s:=s) (by omega) with ⟨e,k⟩ | ⟨e,k⟩
  ·rw[e];exact ⟨fun h=>h.elim id fun h=>absurd h k,.inl⟩
  ·rw[e]
   exact ⟨fun _=>by rcases hc with ⟨-,h⟩ | h <;> omega,fun _=>.inr k⟩) (by
  rintro s ⟨g,rfl,hg⟩
  unfold b8
  simp only
  rw[if_neg (by simp;omega)]) ⟨false,rfl,by simp[gm]⟩ (nC (by omega))
 exact ⟨g,e,hg⟩
theorem Ot:cT a=some (live a):=by
 have hlen:=V.len
 unfold cT
 rw[ay (by simp;omega)];simp only[Option.bind_some,List.nil_append]
 obtain ⟨o,e,i,rfl,hi⟩:=cW (f:=eO a) (fun i s=> ∃b,s=(b,it a i)∧(b=true→i≤cnt (it a i))∧(b=false→it a (i+1)=it a i)) (fun o=> ∃i,o= .brk (false,it a i)∧it a (i+1)=it a i) (n+1) (s:=(true,a.2.1)) (by
  rintro i s hi ⟨b,rfl,h1,h2⟩
  unfold eO
  simp only
  cases b with
  | false=>exact .inr ⟨_,by rw[if_neg (by simp)],(fun s' e=>by cases e),i,rfl,h2 rfl⟩
  | true =>
   have hc:=Kw a i
   have h1:=h1 rfl
   obtain ⟨g,e,hg⟩:=zP V hn (out:=it a i) (by rw[lO];exact hlen)
   have ee:gm a (it a i) n=it a (i+1):=by rw[it,hlen]
   rw[ee] at e hg
   refine .inl ⟨by omega,(g,it a (i+1)),by rw[if_pos rfl,ai e],g,rfl,fun h=>?_,fun h=>?_⟩
   ·have:=hg.1 h;omega
   ·have hs:it a (i+1)=it a i:=by
     rcases Bk a i with h' | h'
     ·exact h'
     ·rw[←hg,h] at h';cases h'
    rw[it,hs];exact hs) ⟨true,rfl,fun _=>Nat.zero_le _,fun h=>by cases h⟩ (nC (by omega))
 rw[ai e]
 have:=GH hi (MR a)
 simp[live,this]
end
end
end D
namespace D
open Go.RowKit
def nothing:AutT:=(0,[false],[[-1,-1,-1,-1,-1,-1,-1,-1,-1]])
theorem GK:kW=some nothing:=by kernel_rfl
theorem GL:oX=some nothing:=by kernel_rfl
theorem GM {n:Nat} (h:n≤1000000):iOk (n:Int)=true:=by
 have h1:IntKind.i64.min= -9223372036854775808:=by decide
 have h2:IntKind.i64.max=9223372036854775807:=by decide
 simp only[iOk,Lit.wf,h1,h2,Bool.and_eq_true,decide_eq_true_eq]
 omega
theorem take_one {α:Type} [Inhabited α] {xs:List α} {k:Nat} (h:k<xs.length):xs.take (k+1)=xs.take k++ [nth xs (k:Int)]:=by
 rw[List.take_succ_eq_append_getElem h,bq h]
theorem fe {α:Type} [Inhabited α] {xs ys:List α} (h:xs <+:ys) {i:Int} (h0:0≤i) (h1:i<xs.length):nth ys i=nth xs i:=by
 obtain ⟨t,rfl⟩:=h
 exact gS h0 h1
structure NumOk {κ:Type} [DecidableEq κ] (nx:κ→List (Option κ)) (first:κ) (G:κ→Prop) (B:Nat):Prop where
 g0:G first
 gn: ∀x,G x→ ∀y,some y∈nx x→G y
 len: ∀x,G x→(nx x).length=9
 bound: ∀l:List κ,l.Nodup→(∀x∈l,G x)→l.length≤B
section
variable {κ:Type} [DecidableEq κ] [Inhabited κ] {nx:κ→List (Option κ)} {first:κ} {G:κ→Prop} {B:Nat}
theorem NumOk.le (H:NumOk nx first G B) (i:Nat):(bfS nx first i).length≤B:=H.bound _ (iZ i) (fO H.g0 H.gn i)
theorem NumOk.at (H:NumOk nx first G B) {i:Nat} (h:i<(bfS nx first i).length):G (nth (bfS nx first i) (i:Int)):=fO H.g0 H.gn i _ (bT (by omega) (by omega))
theorem eT {i:Nat} (h:i<(bfS nx first i).length):bfS nx first (i+1)=nbS (bfS nx first i) (nx (nth (bfS nx first i) (i:Int))):=by rw[xy h,bq h]
theorem qq {i:Nat} (h:i<(bfS nx first i).length):bfR nx first (i+1)=bfR nx first i++ [nbR (bfS nx first i) (nx (nth (bfS nx first i) (i:Int)))]:=by rw[ql h,bq h]
theorem n9 {β:Type} {acc:κ→β} {i:Nat} (h:i<(bfS nx first i).length):((bfS nx first (i+1)).take (i+1)).map acc=((bfS nx first i).take i).map acc++ [acc (nth (bfS nx first i) (i:Int))]:=by
 have hp:=aZ (nx:=nx) (first:=first) i
 have hl:=hp.length_le
 have e:(bfS nx first (i+1)).take i=(bfS nx first i).take i:=by
  obtain ⟨t,ht⟩:=hp
  rw[←ht,List.take_append_of_le_length (by omega)]
 rw[take_one (by omega),List.map_append,e,fe hp (by omega) (by omega)];rfl
def MapOf (M:List (κ×Int)) (l:List κ):Prop:=M.length=l.length∧ ∀x,M.lookup x=if x∈l then some (l.idxOf x:Int) else none
theorem MapOf.one (x:κ):MapOf [(x,0)] [x]:=by
 refine ⟨rfl,fun y=>?_⟩
 rw[List.lookup_cons]
 by_cases e:y=x
 ·subst e;simp
 ·simp only[show (y==x)=false from by simp[e]];simp[e]
theorem MapOf.put {M:List (κ×Int)} {l:List κ} (h:MapOf M l) {x:κ} (hx:x∉l):MapOf ((x,(l.length:Int))::M) (l++ [x]):=by
 refine ⟨by simp[h.1],fun y=>?_⟩
 rw[List.lookup_cons]
 by_cases e:y=x
 ·subst e
  simp[List.idxOf_append,hx]
 ·simp only[show (y==x)=false from by simp[e],h.2 y,List.mem_append,List.mem_singleton,e,or_false]
  by_cases k:y∈l
  ·simp[k,List.idxOf_append]
  ·simp[k]
end
section
variable {nx:Int→List (Option Int)} {first:Int} {G:Int→Prop} {B:Nat}
theorem zQ {p3:Int→Int→Option (Int×Bool)} {l:List Int} {M:List (Int×Int)} {os:List (Option Int)} {acs:List Bool} {rws:List (List Int)} {i:Nat}
  (hi:i<l.length) (hos:os.length=9) (hM:MapOf M l) (hok: ∀y,some y∈os→iOk y=true) (hB: ∀k,(nbS l (os.take k)).length≤1000000)
  (hp: ∀(k:Nat) (hk:k<9),∃j,p3 (nth l (i:Int)) (k:Int)=some (match nth os (k:Int) with | some y=>(y,true) | none=>(j,false))) :
  ∃M',ak (cD p3 (l,M,(i:Int),0,acs,rws)) aN (l,M,[],0)=some (.brk (nbS l os,M',nbR l os,9))∧MapOf M' (nbS l os):=by
 obtain ⟨s',e,M',rfl,hM'⟩:=iY (f:=cD p3 (l,M,(i:Int),0,acs,rws)) (fun k s=> ∃M',s=(nbS l (os.take k),M',nbR l (os.take k),(k:Int))∧MapOf M' (nbS l (os.take k))) 9 (by
  rintro k s hk ⟨M1,rfl,hM1⟩
  have hpre:=fc l (os.take k)
  have hlen:=hpre.length_le
  have hBk:=hB k
  obtain ⟨j,hj⟩:=hp k hk
  have hrl:(nbR l (os.take k)).length≤9:=by rw[cS,List.length_take];omega
  unfold cD
  simp only
  rw[if_pos (by simp;omega),aj (by omega) (by omega)];simp only[Option.bind_some]
  rw[fe hpre (by omega) (by omega),hj,take_one (by omega),mi,n8]
  simp only[Option.bind_some,ae (show k<9223372036854775807 by omega)]
  cases ho:nth os (k:Int) with
  | none =>
   simp only[Bool.false_eq_true,if_false]
   rw[ay (by simp;omega)]
   exact ⟨_,rfl,M1,rfl,hM1⟩
  | some y =>
   have hy:iOk y=true:=hok y (ho ▸ bT (by omega) (by omega))
   simp only[if_true]
   rw[show chk (iOk y=true)=some () from by unfold chk;rw[if_pos hy]];simp only[Option.bind_some]
   rw[show lkM M1 y=_ from hM1.2 y]
   by_cases c:y∈nbS l (os.take k)
   ·simp only[c,if_true,Option.isSome_some,Option.getD_some,Option.bind_some]
    rw[ay (by simp;omega)]
    exact ⟨_,rfl,M1,by rw[fS c];rfl,by rw[fS c];exact hM1⟩
   ·have hput:yf M1 iOk iOk y ((nbS l (os.take k)).length:Int)=some ((y,((nbS l (os.take k)).length:Int))::M1):=by
     unfold yf
     rw[if_pos ⟨by have:=hM1.1;omega,hy,GM hBk⟩]
    simp only[c,if_false,Option.isSome_none,Bool.false_eq_true,hput,Option.bind_some]
    rw[ay (by simp;omega)];simp only[Option.bind_some]
    rw[ay (by simp;omega)]
    refine ⟨_,rfl,(y,((nbS l (os.take k)).length:Int))::M1,?_,?_⟩
    ·rw[fm c];simp only[nbI,lJ c]
    ·rw[fm c];exact hM1.put c) (by
  rintro s ⟨M1,rfl,hM1⟩
  unfold cD
  simp) (s:=(l,M,[],0)) ⟨M,rfl,hM⟩ (by unfold aN;omega)
 rw[List.take_of_length_le (by omega)] at e hM'
 exact ⟨M',e,hM'⟩
theorem Ou {most:Int} {p2:Int→Option Bool} {p3:Int→Int→Option (Int×Bool)} {acc:Int→Bool} (H:NumOk nx first G B) (hB:B≤1000000) (hmost:(B:Int)≤most) (hok: ∀x,G x→iOk x=true)
  (h2: ∀x,G x→p2 x=some (acc x)) (h3: ∀x (k:Nat),G x→k<9→ ∃j,p3 x (k:Int)=some (match nth (nx x) (k:Int) with | some y=>(y,true) | none=>(j,false))) :
  ∃N,bfE nx first N∧cR first most p2 p3=some ((0,(bfS nx first N).map acc,bfR nx first N),true):=by
 obtain ⟨N,hNB,hN⟩:=Cu (nx:=nx) (first:=first) (H.le)
 refine ⟨N,hN,?_⟩
 unfold cR
 rw[show yf ([] :List (Int×Int)) iOk iOk first 0=some [(first,0)] from by unfold yf;rw[if_pos ⟨by simp,hok _ H.g0,by decide⟩]];simp only[Option.bind_some]
 obtain ⟨s',e,M',rfl,hM'⟩:=iY (f:=bp most p2 p3) (fun i s=> ∃M,s=(bfS nx first i,M,(i:Int),0,((bfS nx first i).take i).map acc,bfR nx first i)∧MapOf M (bfS nx first i)) N (by
  rintro i s hi ⟨M,rfl,hM⟩
  have hlt:=hN.2 i hi
  have hG:=H.at hlt
  have hle:=H.le i
  have hle':=H.le (i+1)
  obtain ⟨M',e,hM'⟩:=zQ (p3:=p3) (l:=bfS nx first i) (M:=M) (os:=nx (nth (bfS nx first i) (i:Int))) (acs:=((bfS nx first i).take i).map acc) (rws:=bfR nx first i) hlt (H.len _ hG) hM (fun y hy=>hok y (H.gn _ hG y hy))
   (fun k=>by
    have:(nbS (bfS nx first i) ((nx (nth (bfS nx first i) (i:Int))).take k)).length≤B:=H.bound _ (kh (iZ i)) fun x hx=>by
     rcases nE.1 hx with hx | hx
     ·exact fO H.g0 H.gn i x hx
     ·exact H.gn _ hG x (List.mem_of_mem_take hx)
    omega) (fun k hk=>h3 _ k hG hk)
  unfold bp
  simp only
  rw[if_pos (by simp;omega),ai e,←eT hlt]
  rw[←eT hlt] at hM'
  have hl2:=(aZ (nx:=nx) (first:=first) i).length_le
  simp only
  rw[if_neg (by simp;omega),aj (by omega) (by omega)];simp only[Option.bind_some]
  rw[fe (aZ i) (by omega) (by omega),h2 _ hG];simp only[Option.bind_some]
  have hr:(bfR nx first i).length=i:=gk fun j hj=>hN.2 j (by omega)
  rw[ay (by simp;omega)];simp only[Option.bind_some]
  rw[ay (by simp;omega)];simp only[Option.bind_some,ae (show i<9223372036854775807 by omega)]
  exact ⟨_,rfl,M',by rw[n9 hlt,qq hlt],hM'⟩) (by
  rintro s ⟨M,rfl,hM⟩
  unfold bp
  simp only
  rw[if_neg (by have:=hN.1;simp;omega)]) (s:=([first],[(first,0)],0,0,[],[])) ⟨_,rfl,MapOf.one first⟩ (nC (by omega))
 rw[ai e]
 simp only
 rw[List.take_of_length_le (by have:=hN.1;omega)]
end
theorem Kz {l:List Int} {x:Int} (h:l.length≤9223372036854775807):jQ l x=some (if x∈l then (l.idxOf x:Int) else -1):=by
 unfold jQ
 obtain ⟨o,e,hq⟩:=cW (f:=kV l x) (fun i s=>s=(i:Int)∧x∉l.take i) (fun o=>(x∈l∧o= .ret (l.idxOf x:Int))∨(x∉l∧ ∃s,o= .brk s)) l.length (s:=0) (by
  rintro i s hi ⟨rfl,hx⟩
  unfold kV
  by_cases hl:i<l.length
  ·rw[if_pos (by simp;omega),aj (by omega) (by omega)];simp only[Option.bind_some]
   by_cases c:nth l (i:Int)=x
   ·refine .inr ⟨_,by rw[if_pos (by simpa using c)],(fun s' e=>by cases e),.inl ?_⟩
    have e:l=l.take i++(x::l.drop (i+1)):=by
     rw[←c,bq hl,←List.drop_eq_getElem_cons hl,List.take_append_drop]
    refine ⟨by rw[e];simp,?_⟩
    congr 1
    conv=>rhs;rw[e,List.idxOf_append,if_neg hx,List.idxOf_cons_self]
    simp[List.length_take];first | done | omega
   ·refine .inl ⟨hl,_,by rw[if_neg (by simpa using c)],by rw[ae (by omega)],?_⟩
    rw[take_one hl,List.mem_append,List.mem_singleton]
    rintro (h | h)
    ·exact hx h
    ·exact c h.symm
  ·refine .inr ⟨_,by rw[if_neg (by simp;omega)],(fun s' e=>by cases e),.inr ⟨?_,_,rfl⟩⟩
   rwa [List.take_of_length_le (by omega)] at hx) ⟨rfl,by simp⟩ (nC h)
 rcases hq with ⟨hx,rfl⟩ | ⟨hx,s,rfl⟩
 ·rw[cv e,if_pos hx]
 ·rw[ai e,if_neg hx]
section
variable {a:AutT} {n:Nat} {c:List Int} {lv:List Bool} {nx:Int→List (Option Int)} {G:Int→Prop} {B:Nat} {acc:Int→Bool}
def good (n:Nat) (lv:List Bool) (r:Int):Prop:=0≤r∧r<n∧nth lv r=true
def ri (a:AutT) (c:List Int) (lv:List Bool) (r:Int):List (Option Int):=(List.range 9).map fun k=>if mv a r k≥0∧nth lv (mv a r k)=true then some (nth c (mv a r k)) else none
theorem Cz {r:Int} {k:Nat} (hk:k<9):nth (ri a c lv r) (k:Int)=if mv a r k≥0∧nth lv (mv a r k)=true then some (nth c (mv a r k)) else none:=by
 have:k<(ri a c lv r).length:=by simp[ri];omega
 rw[bq this];simp[ri]
def RepsOf (n:Nat) (lv:List Bool) (c:List Int) (rs l:List Int):Prop:=rs.length=l.length∧ ∀j:Nat,j<l.length→good n lv (nth rs j)∧nth c (nth rs j)=nth l (j:Int)
theorem RepsOf.snoc {rs l:List Int} (h:RepsOf n lv c rs l) {t:Int} (ht:good n lv t):RepsOf n lv c (rs++ [t]) (l++ [nth c t]):=by
 refine ⟨by simp[h.1],fun j hj=>?_⟩
 by_cases e:j<l.length
 ·rw[gS (by omega) (by have:=h.1;omega),gS (by omega) (by omega)];exact h.2 j e
 ·have e:j=l.length:=by simp at hj;omega
  subst e
  have h1:nth (rs++ [t]) (l.length:Int)=t:=by rw[bq (by simp[h.1])];simp[←h.1]
  have h2:nth (l++ [nth c t]) (l.length:Int)=nth c t:=by rw[bq (by simp)];simp
  rw[h1,h2];exact ⟨ht,rfl⟩
theorem GN (V:VA a n) (hn:n≤1000000) (hc:c.length=n) (hlv:lv.length=n) {l rs:List Int} {acs:List Bool} {rws:List (List Int)} {i:Nat} (hi:i<l.length) (hR:RepsOf n lv c rs l) {os:List (Option Int)} (hos:os.length=9)
  (ho: ∀r,good n lv r→nth c r=nth l (i:Int)→ri a c lv r=os) (hB: ∀k,(nbS l (os.take k)).length≤1000000) :
  ∃rs',ak (dV a c lv (l,rs,(i:Int),0,acs,rws)) aN (l,rs,[],0)=some (.brk (nbS l os,rs',nbR l os,9))∧RepsOf n lv c rs' (nbS l os):=by
 obtain ⟨s',e,rs',rfl,hR'⟩:=iY (f:=dV a c lv (l,rs,(i:Int),0,acs,rws)) (fun k s=> ∃rs',s=(nbS l (os.take k),rs',nbR l (os.take k),(k:Int))∧RepsOf n lv c rs' (nbS l (os.take k))) 9 (by
  rintro k s hk ⟨r1,rfl,hR1⟩
  have hpre:=fc l (os.take k)
  have hlen:=hpre.length_le
  have hBk:=hB k
  have hrl:(nbR l (os.take k)).length≤9:=by rw[cS,List.length_take];omega
  have hr1:=hR1.1
  obtain ⟨⟨g0,g1,g2⟩,gc⟩:=hR1.2 i (by omega)
  rw[fe hpre (by omega) (by omega)] at gc
  have hsu:=ho _ ⟨g0,g1,g2⟩ gc
  have hok:nth os (k:Int)=if mv a (nth r1 (i:Int)) k≥0∧nth lv (mv a (nth r1 (i:Int)) k)=true then some (nth c (mv a (nth r1 (i:Int)) k)) else none:=by
   rw[←hsu];exact Cz hk
  have hmv:=V.mv (s:=nth r1 (i:Int)) (k:=k) g0 g1 hk
  unfold dV
  simp only
  rw[if_pos (by simp;omega),aj (xs:=r1) (by omega) (by omega)];simp only[Option.bind_some]
  rw[V.get g0 g1];simp only[Option.bind_some]
  rw[V.get2 g0 g1 hk,take_one (by omega),mi,n8]
  simp only[Option.bind_some,ae (show k<9223372036854775807 by omega)]
  by_cases c1:mv a (nth r1 (i:Int)) k≥0
  ·rw[if_pos (by simpa using c1),aj (xs:=lv) c1 (by omega)];simp only[Option.bind_some]
   by_cases c2:nth lv (mv a (nth r1 (i:Int)) k)=true
   ·rw[if_pos ⟨c1,c2⟩] at hok
    rw[if_pos c2,aj (xs:=c) c1 (by omega),hok];simp only[Option.bind_some]
    rw[Kz (by omega)];simp only[Option.bind_some]
    by_cases c3:nth c (mv a (nth r1 (i:Int)) k)∈nbS l (os.take k)
    ·rw[if_pos c3,if_neg (by simp)];simp only[Option.bind_some]
     rw[ay (by simp;omega)]
     exact ⟨_,rfl,r1,by rw[fS c3];rfl,by rw[fS c3];exact hR1⟩
    ·rw[if_neg c3,if_pos (by decide)]
     rw[ay (by simp;omega)];simp only[Option.bind_some]
     rw[ay (by simp;omega)];simp only[Option.bind_some]
     rw[ay (by simp;omega)];simp only[Option.bind_some]
     refine ⟨_,rfl,r1++ [mv a (nth r1 (i:Int)) k],?_,?_⟩
     ·rw[fm c3];simp only[nbI,lJ c3]
     ·rw[fm c3];exact hR1.snoc ⟨c1,hmv.2,c2⟩
   ·rw[if_neg (fun h=>c2 h.2)] at hok
    rw[if_neg c2,hok];simp only[Option.bind_some]
    rw[ay (by simp;omega)]
    exact ⟨_,rfl,r1,rfl,hR1⟩
  ·rw[if_neg (fun h=>c1 h.1)] at hok
   rw[if_neg (by simpa using c1),hok];simp only[Option.bind_some]
   rw[ay (by simp;omega)]
   exact ⟨_,rfl,r1,rfl,hR1⟩) (by
  rintro s ⟨r1,rfl,hR1⟩
  unfold dV
  simp) (s:=(l,rs,[],0)) ⟨rs,rfl,hR⟩ (by unfold aN;omega)
 rw[List.take_of_length_le (by omega)] at e hR'
 exact ⟨rs',e,hR'⟩
theorem Ov (V:VA a n) (hn:n≤1000000) (hc:c.length=n) (hlv:lv.length=n) (hs:nth lv a.1=true) (H:NumOk nx (nth c a.1) G B) (hB:B≤1000000)
  (hnx: ∀r,good n lv r→nx (nth c r)=ri a c lv r) (hacc: ∀r,good n lv r→acc (nth c r)=nth a.2.1 r) :
  ∃N,bfE nx (nth c a.1) N∧eZ a c lv=some (0,(bfS nx (nth c a.1) N).map acc,bfR nx (nth c a.1) N):=by
 obtain ⟨N,hNB,hN⟩:=Cu (nx:=nx) (first:=nth c a.1) (H.le)
 refine ⟨N,hN,?_⟩
 have hst:=V.start
 have hlen:=V.len
 unfold eZ
 rw[aj hst.1 (by omega)];simp only[Option.bind_some]
 rw[if_pos hs,aj hst.1 (by omega)];simp only[Option.bind_some]
 obtain ⟨s',e,rs,rfl,hR⟩:=iY (f:=fG a c lv) (fun i s=> ∃rs,s=(bfS nx (nth c a.1) i,rs,(i:Int),0,((bfS nx (nth c a.1) i).take i).map acc,bfR nx (nth c a.1) i)∧RepsOf n lv c rs (bfS nx (nth c a.1) i)) N (by
  rintro i s hi ⟨rs,rfl,hR⟩
  have hlt:=hN.2 i hi
  have hG:=H.at hlt
  have hle:=H.le i
  have hle':=H.le (i+1)
  obtain ⟨rs',e,hR'⟩:=GN (acs:=((bfS nx (nth c a.1) i).take i).map acc) (rws:=bfR nx (nth c a.1) i) V hn hc hlv hlt hR (os:=nx (nth (bfS nx (nth c a.1) i) (i:Int))) (H.len _ hG) (fun r hr e=>by rw[←hnx r hr,e]) (fun k=>by
    have:(nbS (bfS nx (nth c a.1) i) ((nx (nth (bfS nx (nth c a.1) i) (i:Int))).take k)).length≤B:=H.bound _ (kh (iZ i)) fun x hx=>by
     rcases nE.1 hx with hx | hx
     ·exact fO H.g0 H.gn i x hx
     ·exact H.gn _ hG x (List.mem_of_mem_take hx)
    omega)
  unfold fG
  simp only
  rw[if_pos (by simp;omega),ai e]
  rw[←eT hlt] at hR'
  have hl2:=(aZ (nx:=nx) (first:=nth c a.1) i).length_le
  have hr1:=hR'.1
  obtain ⟨⟨g0,g1,g2⟩,gc⟩:=hR'.2 i (by omega)
  rw[fe (aZ i) (by omega) (by omega)] at gc
  rw[aj (xs:=rs') (by omega) (by omega)];simp only[Option.bind_some]
  rw[V.acc g0 g1,←hacc _ ⟨g0,g1,g2⟩,gc];simp only[Option.bind_some]
  have hr:(bfR nx (nth c a.1) i).length=i:=gk fun j hj=>hN.2 j (by omega)
  rw[ay (by simp;omega)];simp only[Option.bind_some]
  rw[ay (by simp;omega)];simp only[Option.bind_some,ae (show i<9223372036854775807 by omega)]
  exact ⟨_,rfl,rs',by rw[←eT hlt,n9 hlt,qq hlt],hR'⟩) (by
  rintro s ⟨rs,rfl,hR⟩
  unfold fG
  simp only
  rw[if_neg (by have:=hN.1;simp;omega)]) (s:=([nth c a.1],[a.1],0,0,[],[])) ⟨[a.1],rfl,rfl,fun j hj=>by
   obtain rfl:j=0:=by simpa [bfS] using hj
   exact ⟨⟨hst.1,hst.2,hs⟩,rfl⟩⟩ (nC (by omega))
 rw[ai e]
 simp only
 rw[List.take_of_length_le (by have:=hN.1;omega)]
theorem Bl (V:VA a n) (hlv:lv.length=n) (hs:nth lv a.1=false):eZ a c lv=some nothing:=by
 have hst:=V.start
 unfold eZ
 rw[aj hst.1 (by omega)];simp only[Option.bind_some]
 rw[hs,GK];rfl
end
end D
namespace D
open Go.RowKit
abbrev zX:=(List Int)×Int×Int×(List Int)×Bool
abbrev Js (x:Int) (j:Nat):Bool:=(sG (om x (j:Int)) 1)==1
def Jt (F:List Int) (set m0:Int):Nat→Int
 | 0=>m0
 | i+1=>if Js set (i+1) then orI (Jt F set m0 i) (nth F (i:Int)) else Jt F set m0 i
def pick (L:List Int) (m letter:Int):Nat→Int
 | 0=>0
 | i+1=>if nth L (i:Int)=letter∧Js m i=true then orI (pick L m letter i) (By 1 ((i+1:Nat):Int)) else pick L m letter i
def aft (p:zX) (set letter:Int):Int:=pick p.1 (Jt p.2.2.2.1 set (if (sG set 1)==1 then p.2.1 else 0) p.2.2.2.1.length) letter p.1.length
def qu (p:zX) (set:Int):Bool:=if (sG set 1)==1 then (if p.2.2.2.2 then true else (sG (om set 1) p.2.2.1) !=0) else (sG (om set 1) p.2.2.1) !=0
theorem nG (i:Nat):chk (0≤(i:Int))=some ():=by unfold chk;rw[if_pos (by omega)]
theorem MS {p:zX} {set letter:Int} (hl:p.2.2.2.1.length=p.1.length) (hb:p.1.length≤1000000):kE p set letter=some (aft p set letter):=by
 have h0: ∀m0,ak (eJ p set) aN (m0,0)=some (.brk (Jt p.2.2.2.1 set m0 p.1.length,(p.1.length:Int))):=fun m0 =>
  a7 (f:=eJ p set) (fun i=>(Jt p.2.2.2.1 set m0 i,(i:Int))) p.1.length (fun i hi=>by
   unfold eJ
   simp only
   rw[if_pos (by simp;omega),ae (by omega),nG];simp only[Option.bind_some]
   rw[Jt]
   by_cases c:Js set (i+1)=true
   ·rw[if_pos c,if_pos c,aj (by omega) (by omega)];rfl
   ·rw[if_neg c,if_neg c];rfl) (by unfold eJ;simp) (nC (by omega))
 have h1: ∀s7:Int×Int,ak (eK p letter s7) aN (0,0)=some (.brk (pick p.1 s7.1 letter p.1.length,(p.1.length:Int))):=fun s7 =>
  a7 (f:=eK p letter s7) (fun i=>(pick p.1 s7.1 letter i,(i:Int))) p.1.length (fun i hi=>by
   unfold eK
   simp only
   rw[if_pos (by simp;omega),ae (by omega),nG,nG];simp only[Option.bind_some]
   rw[pick]
   by_cases c:Js s7.1 i=true
   ·rw[if_pos c,aj (by omega) (by omega)];simp only[Option.bind_some]
    by_cases d:nth p.1 (i:Int)=letter
    ·rw[if_pos (by simpa using d),if_pos ⟨d,c⟩];rfl
    ·rw[if_neg (by simpa using d),if_neg (fun h=>d h.1)];rfl
   ·rw[if_neg c,if_neg (fun h=>c h.2)];rfl) (by unfold eK;simp) (nC (by omega))
 unfold kE aft
 rw[hl]
 by_cases c:((sG set 1)==1)=true
 ·rw[if_pos c,if_pos c];simp only[Option.bind_some]
  rw[ai (h0 _),ai (h1 _)]
 ·rw[if_neg c,if_neg c];simp only[Option.bind_some]
  rw[ai (h0 _),ai (h1 _)]
theorem MT {p:zX} {set letter:Int} (hl:p.2.2.2.1.length=p.1.length) (hb:p.1.length≤1000000):dJ p set letter=some (aft p set letter):=by
 have h0: ∀m0,ak (bQ p set) aN (m0,0)=some (.brk (Jt p.2.2.2.1 set m0 p.2.2.2.1.length,(p.2.2.2.1.length:Int))):=fun m0 =>
  a7 (f:=bQ p set) (fun i=>(Jt p.2.2.2.1 set m0 i,(i:Int))) p.2.2.2.1.length (fun i hi=>by
   unfold bQ
   simp only
   rw[if_pos (by simp;omega),aj (by omega) (by omega)];simp only[Option.bind_some]
   rw[ae (by omega),nG];simp only[Option.bind_some]
   rw[Jt]
   by_cases c:Js set (i+1)=true
   ·rw[if_pos c,if_pos c];rfl
   ·rw[if_neg c,if_neg c];rfl) (by unfold bQ;simp) (nC (by omega))
 have h1: ∀s7:Int×Int,ak (bR p letter s7) aN (0,0)=some (.brk (pick p.1 s7.1 letter p.1.length,(p.1.length:Int))):=fun s7 =>
  a7 (f:=bR p letter s7) (fun i=>(pick p.1 s7.1 letter i,(i:Int))) p.1.length (fun i hi=>by
   unfold bR
   simp only
   rw[if_pos (by simp;omega),aj (by omega) (by omega)];simp only[Option.bind_some]
   rw[ae (by omega),nG,nG];simp only[Option.bind_some]
   rw[pick]
   by_cases d:nth p.1 (i:Int)=letter
   ·rw[if_pos (by simpa using d)]
    by_cases c:Js s7.1 i=true
    ·rw[if_pos c,if_pos ⟨d,c⟩];rfl
    ·rw[if_neg c,if_neg (fun h=>c h.2)];rfl
   ·rw[if_neg (by simpa using d),if_neg (fun h=>d h.1)];rfl) (by unfold bR;simp) (nC (by omega))
 unfold dJ aft
 by_cases c:((sG set 1)==1)=true
 ·rw[if_pos c,if_pos c];simp only[Option.bind_some]
  rw[ai (h0 _),ai (h1 _)]
 ·rw[if_neg c,if_neg c];simp only[Option.bind_some]
  rw[ai (h0 _),ai (h1 _)]
theorem Ow (p:zX) (x:Int):iB p x=some (qu p x):=by
 unfold iB qu
 split <;> (try split) <;> rfl
theorem Ox (p:zX) (x:Int):bZ p x=some (qu p x):=by
 unfold bZ qu
 split <;> (try split) <;> rfl
theorem DK (x:Int): -9223372036854775808≤IntKind.i64.wrap x∧IntKind.i64.wrap x≤9223372036854775807:=by
 simp only[IntKind.wrap,IntKind.bits,IntKind.signed,Bool.true_and]
 split <;> rename_i h <;> simp at h <;> omega
theorem MU (x:Int):iOk (IntKind.i64.wrap x)=true:=by
 have h1:IntKind.i64.min= -9223372036854775808:=by decide
 have h2:IntKind.i64.max=9223372036854775807:=by decide
 have h3:=DK x
 simp only[iOk,Lit.wf,h1,h2,Bool.and_eq_true,decide_eq_true_eq]
 omega
theorem Oy (m n:Int):iOk (orI m n)=true:=MU _
theorem GO (L:List Int) (m letter:Int): ∀i,iOk (pick L m letter i)=true
 | 0=>by unfold pick;decide
 | i+1=>by
  rw[pick]
  split
  ·exact Oy _ _
  ·exact GO L m letter i
def nxS (p:zX) (x:Int):List (Option Int):=(List.range 9).map fun k:Nat=>if aft p x (k:Int)=0 then none else some (aft p x (k:Int))
theorem KB {p:zX} {x:Int} {k:Nat} (hk:k<9):nth (nxS p x) (k:Int)=if aft p x k=0 then none else some (aft p x k):=by
 have:k<(nxS p x).length:=by simp[nxS];omega
 rw[bq this];simp[nxS]
theorem xM (p:zX) (x:Int):(nxS p x).length=9:=by simp[nxS]
theorem Oz {p:zX} {x y:Int} (h:some y∈nxS p x):iOk y=true:=by
 obtain ⟨k,hk,e⟩:=List.mem_map.1 h
 split at e
 ·cases e
 ·obtain rfl:=Option.some.inj e
  exact GO _ _ _ _
theorem GP {κ:Type} [DecidableEq κ] : ∀(l:List κ) (os:List (Option κ)),(nbS l os).length≤l.length+os.length
 | l,[] =>by simp[nbS]
 | l,o::os=>by
  have h:=GP (nbL l o) os
  have h2:(nbL l o).length≤l.length+1:=by
   cases o with
   | none=>simp[nbL]
   | some x=>unfold nbL;simp only;split <;> simp
  show (nbS (nbL l o) os).length≤_
  simp only[List.length_cons];omega
section
variable {κ:Type} [DecidableEq κ] (nx:κ→List (Option κ)) (first:κ) (acc:κ→Bool) (most:Nat)
def goM:Nat→Nat→AutT×Bool
 | 0,i=>((0,[],[]),false)
 | f+1,i=>if i<(bfS nx first i).length then (if (bfS nx first (i+1)).length>most then ((0,[],[]),false) else goM f (i+1)) else ((0,((bfS nx first i).take i).map acc,bfR nx first i),true)
end
section
variable {κ:Type} [DecidableEq κ] {nx:κ→List (Option κ)} {first:κ} {acc:κ→Bool} {most:Nat}
theorem xN {i:Nat} (h: ∀j,j<i→j<(bfS nx first j).length):i≤(bfS nx first i).length:=by
 cases i with
 | zero=>omega
 | succ i =>
  have h1:=h i (by omega)
  have h2:=(aZ (nx:=nx) (first:=first) i).length_le
  omega
theorem CA {S:Type} {f:S→Option (Out (AutT×Bool) S)} (hm:most≤1000000) (h1:1≤most) (st:Nat→S→Prop)
  (hs: ∀i s,st i s→(∀j,j<i→j<(bfS nx first j).length)→(bfS nx first i).length≤most→i<(bfS nx first i).length→((bfS nx first (i+1)).length>most→f s=some (.ret ((0,[],[]),false)))∧((bfS nx first (i+1)).length≤most→ ∃s',f s=some (.nxt s')∧st (i+1) s'))
  (he: ∀i s,st i s→ ¬i<(bfS nx first i).length→f s=some (.brk s)) {s:S} (h0:st 0 s) :
  (ak f aN s=some (.ret ((0,[],[]),false))∧goM nx first acc most (most+2) 0=((0,[],[]),false)) ∨
  ∃N s',ak f aN s=some (.brk s')∧st N s'∧bfE nx first N∧N≤most∧goM nx first acc most (most+2) 0=((0,(bfS nx first N).map acc,bfR nx first N),true):=by
 obtain ⟨o,e,hq⟩:=cW (f:=f) (fun i s=>st i s∧(∀j,j<i→j<(bfS nx first j).length)∧(bfS nx first i).length≤most∧goM nx first acc most (most+2) 0=goM nx first acc most (most+2 - i) i)
  (fun o=>(o= .ret ((0,[],[]),false)∧goM nx first acc most (most+2) 0=((0,[],[]),false))∨ ∃N s',o= .brk s'∧st N s'∧bfE nx first N∧N≤most∧goM nx first acc most (most+2) 0=((0,(bfS nx first N).map acc,bfR nx first N),true)) most (s:=s) (by
  rintro i s hi ⟨k1,k2,k3,k4⟩
  have hle:=xN k2
  rw[show most+2 - i=(most+1 - i)+1 from by omega] at k4
  have k5:goM nx first acc most (most+1 - i+1) i=if i<(bfS nx first i).length then (if (bfS nx first (i+1)).length>most then ((0,[],[]),false) else goM nx first acc most (most+1 - i) (i+1)) else ((0,((bfS nx first i).take i).map acc,bfR nx first i),true):=rfl
  rw[k5] at k4
  by_cases c:i<(bfS nx first i).length
  ·rw[if_pos c] at k4
   obtain ⟨q1,q2⟩:=hs i s k1 k2 k3 c
   by_cases d:(bfS nx first (i+1)).length>most
   ·rw[if_pos d] at k4
    exact .inr ⟨_,q1 d,(fun s' e=>by cases e),.inl ⟨rfl,k4⟩⟩
   ·rw[if_neg d] at k4
    obtain ⟨s',e,hs'⟩:=q2 (by omega)
    exact .inl ⟨by omega,s',e,hs',fun j hj=>(by
     by_cases ej:j=i
     ·subst ej;exact c
     ·exact k2 j (by omega)),by omega,by rw[k4];congr 1;omega⟩
  ·rw[if_neg c] at k4
   refine .inr ⟨_,he i s k1 c,(fun s' e=>by cases e),.inr ⟨i,s,rfl,k1,⟨by omega,k2⟩,hi,?_⟩⟩
   rw[k4,List.take_of_length_le (by omega)]) ⟨h0,fun j hj=>by omega,by simp[bfS];omega,rfl⟩ (nC (by omega))
 rcases hq with ⟨rfl,h⟩ | ⟨N,s',rfl,h⟩
 ·exact .inl ⟨e,h⟩
 ·exact .inr ⟨N,s',e,h⟩
end
section
variable {p:zX} {most:Nat} (hl:p.2.2.2.1.length=p.1.length) (hb:p.1.length≤1000000) (hm:most≤900000) (h1:1≤most)
include hl hb hm h1
theorem PH:eN p most=some (goM (nxS p) 1 (qu p) most (most+2) 0):=by
 have hp3: ∀(l:List Int) (i k:Nat),k<9→ ∃j,(fun a0 a1=>bS a0 a1 (p.1,p.2.1,p.2.2.1,p.2.2.2.1,p.2.2.2.2)) (nth l (i:Int)) (k:Int)=some (match nth (nxS p (nth l (i:Int))) (k:Int) with | some y=>(y,true) | none=>(j,false)):=by
  intro l i k hk
  refine ⟨0,?_⟩
  show bS _ _ p=_
  unfold bS
  simp only[eD]
  rw[MT hl hb,KB hk];simp only[Option.bind_some]
  by_cases c:aft p (nth l (i:Int)) k=0
  ·rw[if_pos c];simp[c]
  ·rw[if_neg c];simp[c]
 unfold eN cR
 rw[show yf ([] :List (Int×Int)) iOk iOk 1 0=some [(1,0)] from by unfold yf;rw[if_pos ⟨by simp,by decide,by decide⟩]];simp only[Option.bind_some]
 rcases CA (nx:=nxS p) (first:=1) (acc:=qu p) (most:=most) (f:=bp most (fun a0=>bZ (p.1,p.2.1,p.2.2.1,p.2.2.2.1,p.2.2.2.2) a0) (fun a0 a1=>bS a0 a1 (p.1,p.2.1,p.2.2.1,p.2.2.2.1,p.2.2.2.2)))
  (by omega) h1 (fun i s=> ∃M,s=(bfS (nxS p) 1 i,M,(i:Int),0,((bfS (nxS p) 1 i).take i).map (qu p),bfR (nxS p) 1 i)∧MapOf M (bfS (nxS p) 1 i)) (by
   rintro i s ⟨M,rfl,hM⟩ hj hle hlt
   have hil:=xN hj
   obtain ⟨M',e,hM'⟩:=zQ (p3:=fun a0 a1=>bS a0 a1 (p.1,p.2.1,p.2.2.1,p.2.2.2.1,p.2.2.2.2)) (l:=bfS (nxS p) 1 i) (M:=M) (os:=nxS p (nth (bfS (nxS p) 1 i) (i:Int))) (acs:=((bfS (nxS p) 1 i).take i).map (qu p)) (rws:=bfR (nxS p) 1 i) hlt (xM _ _) hM (fun y hy=>Oz hy)
    (fun k=>by
     have:=GP (bfS (nxS p) 1 i) ((nxS p (nth (bfS (nxS p) 1 i) (i:Int))).take k)
     have h9:=xM p (nth (bfS (nxS p) 1 i) (i:Int))
     rw[List.length_take] at this
     omega) (fun k hk=>hp3 _ i k hk)
   rw[←eT hlt] at hM'
   have hl2:=(aZ (nx:=nxS p) (first:=1) i).length_le
   constructor
   ·intro hgt
    unfold bp
    simp only
    rw[if_pos (by simp;omega),ai e,←eT hlt]
    simp only
    rw[if_pos (by simp;omega)]
   ·intro hle2
    unfold bp
    simp only
    rw[if_pos (by simp;omega),ai e,←eT hlt]
    simp only
    rw[if_neg (by simp;omega),aj (by omega) (by omega)];simp only[Option.bind_some]
    rw[fe (aZ i) (by omega) (by omega)]
    simp only[eD]
    rw[Ox];simp only[Option.bind_some]
    have hr:(bfR (nxS p) 1 i).length=i:=gk hj
    rw[ay (by simp;omega)];simp only[Option.bind_some]
    rw[ay (by simp;omega)];simp only[Option.bind_some,ae (show i<9223372036854775807 by omega)]
    exact ⟨_,rfl,M',by rw[n9 hlt,qq hlt],hM'⟩) (by
   rintro i s ⟨M,rfl,hM⟩ hn
   unfold bp
   simp only
   rw[if_neg (by simp;omega)]) (s:=([1],[(1,0)],0,0,[],[])) ⟨_,rfl,MapOf.one 1⟩ with ⟨e,hg⟩ | ⟨N,s',e,⟨M,rfl,hM⟩,hN,hNm,hg⟩
 ·rw[cv e,hg];rfl
 ·rw[ai e,hg];simp only[Option.bind_some]
  rw[List.take_of_length_le (by have:=hN.1;omega)]
theorem Ju {l:List Int} {acs:List Bool} {rws:List (List Int)} {i:Nat} (hi:i<l.length) (hle:l.length≤most) :
  ak (du p (l,(i:Int),0,acs,rws)) aN (l,[],0)=some (.brk (nbS l (nxS p (nth l (i:Int))),nbR l (nxS p (nth l (i:Int))),9)):=by
 have h9:=xM p (nth l (i:Int))
 have:=a7 (f:=du p (l,(i:Int),0,acs,rws)) (fun k=>(nbS l ((nxS p (nth l (i:Int))).take k),nbR l ((nxS p (nth l (i:Int))).take k),(k:Int))) 9 (fun k hk=>by
  have hpre:=fc l ((nxS p (nth l (i:Int))).take k)
  have hlen:=hpre.length_le
  have hB:=GP l ((nxS p (nth l (i:Int))).take k)
  rw[List.length_take] at hB
  have hrl:(nbR l ((nxS p (nth l (i:Int))).take k)).length≤9:=by rw[cS,List.length_take];omega
  unfold du
  simp only[eD]
  rw[if_pos (by simp;omega),aj (by omega) (by omega)];simp only[Option.bind_some]
  rw[fe hpre (by omega) (by omega),MS hl hb];simp only[Option.bind_some]
  rw[take_one (by omega),mi,n8,KB hk]
  simp only[ae (show k<9223372036854775807 by omega)]
  by_cases c:aft p (nth l (i:Int)) k=0
  ·rw[if_pos c,if_neg (by simp[c])];simp only[Option.bind_some]
   rw[ay (by simp;omega)];rfl
  ·rw[if_neg c,if_pos (by simpa using c),Kz (by omega)];simp only[Option.bind_some]
   by_cases d:aft p (nth l (i:Int)) k∈nbS l ((nxS p (nth l (i:Int))).take k)
   ·rw[if_pos d,if_neg (by simp),fS d];simp only[Option.bind_some]
    rw[ay (by simp;omega)];rfl
   ·rw[if_neg d,if_pos (by decide),ay (by simp;omega),fm d];simp only[Option.bind_some]
    rw[ay (by simp;omega)];simp only[nbI,lJ d,Option.bind_some]) (by
  unfold du
  simp) (by unfold aN;omega)
 have e9:(nxS p (nth l (i:Int))).take 9=nxS p (nth l (i:Int)):=List.take_of_length_le (by omega)
 rw[e9] at this
 exact this
theorem PI:fA p most=some (goM (nxS p) 1 (qu p) most (most+2) 0):=by
 unfold fA
 rcases CA (nx:=nxS p) (first:=1) (acc:=qu p) (most:=most) (f:=dw p most)
  (by omega) h1 (fun i s=>s=(bfS (nxS p) 1 i,(i:Int),0,((bfS (nxS p) 1 i).take i).map (qu p),bfR (nxS p) 1 i)) (by
   rintro i s rfl hj hle hlt
   have hil:=xN hj
   have e:=Ju hl hb hm h1 (acs:=((bfS (nxS p) 1 i).take i).map (qu p)) (rws:=bfR (nxS p) 1 i) hlt hle
   have hl2:=(aZ (nx:=nxS p) (first:=1) i).length_le
   constructor
   ·intro hgt
    unfold dw
    simp only
    rw[if_pos (by simp;omega),ai e,←eT hlt]
    simp only
    rw[if_pos (by simp;omega)]
   ·intro hle2
    unfold dw
    simp only
    rw[if_pos (by simp;omega),ai e,←eT hlt]
    simp only
    rw[if_neg (by simp;omega),aj (by omega) (by omega)];simp only[Option.bind_some]
    rw[fe (aZ i) (by omega) (by omega)]
    simp only[eD]
    rw[Ow];simp only[Option.bind_some]
    have hr:(bfR (nxS p) 1 i).length=i:=gk hj
    rw[ay (by simp;omega)];simp only[Option.bind_some]
    rw[ay (by simp;omega)];simp only[Option.bind_some,ae (show i<9223372036854775807 by omega)]
    exact ⟨_,rfl,by rw[n9 hlt,qq hlt]⟩) (by
   rintro i s rfl hn
   unfold dw
   simp only
   rw[if_neg (by simp;omega)]) (s:=([1],0,0,[],[])) rfl with ⟨e,hg⟩ | ⟨N,s',e,rfl,hN,hNm,hg⟩
 ·rw[cv e,hg]
 ·rw[ai e,hg];simp only
  rw[List.take_of_length_le (by have:=hN.1;omega)]
end
end D
namespace D
open Go.RowKit
theorem Jv (m n:Int):orI m n=orI n m:=by unfold orI;rw[BitVec.or_comm]
def lk (F:List Int) (from_ to_:Int):Nat→List Int
 | 0=>F
 | i+1=>if Js from_ i then (lk F from_ to_ i).set i (orI (nth (lk F from_ to_ i) (i:Int)) to_) else lk F from_ to_ i
theorem uE (F:List Int) (f t:Int): ∀i,(lk F f t i).length=F.length
 | 0=>rfl
 | i+1=>by
  rw[lk]
  split
  ·rw[List.length_set,uE]
  ·exact uE F f t i
theorem KD {p:zX} {f t:Int} (hl:p.2.2.2.1.length≤1000000):jS p f t=some (p.1,p.2.1,p.2.2.1,lk p.2.2.2.1 f t p.2.2.2.1.length,p.2.2.2.2):=by
 have hL:ak (fy f t) aN (0,p.2.2.2.1)=some (.brk ((p.2.2.2.1.length:Int),lk p.2.2.2.1 f t p.2.2.2.1.length)):=a7 (f:=fy f t) (fun i=>((i:Int),lk p.2.2.2.1 f t i)) p.2.2.2.1.length (fun i hi=>by
  have hk:=uE p.2.2.2.1 f t i
  unfold fy
  simp only
  rw[if_pos (by simp;omega),nG];simp only[Option.bind_some]
  rw[lk,ae (by omega)]
  by_cases c:Js f i=true
  ·rw[if_pos c,if_pos c,aj (by omega) (by omega)];simp only[Option.bind_some,Int.toNat_natCast]
  ·rw[if_neg c,if_neg c];rfl) (by unfold fy;simp[uE]) (nC (by omega))
 unfold jS
 rw[ai hL]
theorem CB {p:zX} {f t:Int} (hl:p.2.2.2.1.length≤1000000):cn p f t=some (p.1,p.2.1,p.2.2.1,lk p.2.2.2.1 f t p.2.2.2.1.length,p.2.2.2.2):=by
 have hL:ak (bK p f t) aN (0,p.2.2.2.1)=some (.brk ((p.2.2.2.1.length:Int),lk p.2.2.2.1 f t p.2.2.2.1.length)):=a7 (f:=bK p f t) (fun i=>((i:Int),lk p.2.2.2.1 f t i)) p.2.2.2.1.length (fun i hi=>by
  have hk:=uE p.2.2.2.1 f t i
  unfold bK
  simp only
  rw[if_pos (by simp;omega),nG];simp only[Option.bind_some]
  rw[lk,ae (by omega)]
  by_cases c:Js f i=true
  ·rw[if_pos c,if_pos c,aj (by omega) (by omega)];simp only[Option.bind_some,Int.toNat_natCast]
  ·rw[if_neg c,if_neg c];rfl) (by unfold bK;simp) (nC (by omega))
 unfold cn
 rw[ai hL]
def BOk (x:Tr Tok):Prop:= ∀(n m:Nat) (p:zX),(flat x).length≤n→(flat x).length≤m→p.2.2.2.1.length=p.1.length→p.1.length+(flat x).length≤100000→
 ∃(nu:Bool) (fi la:Int) (q:zX),bV n p (flat x)=some ((nu,fi,la),q)∧aR m p x=some ((fi,la,nu),q)∧q.2.2.2.1.length=q.1.length∧q.1.length≤p.1.length+(flat x).length
theorem Jw {x:Tr Tok} (h:WT x):BOk x:=by
 refine WT.ind (p:=BOk) ?_ ?_ ?_ h
 ·intro t e n m p hn hm hF hl
  rw[vx] at hn hm hl⊢
  simp only[List.length_cons,List.length_nil] at hl
  match n,m,hn,hm with
  | n+1,m+1,_,_ =>
   rw[bV,aR];simp only[lN,Option.bind_some]
   have:=(jF (A:=[]) (t:=t) (by simp)).1
   rw[List.nil_append] at this
   rw[this];simp only[Option.bind_some,eD]
   rcases kl (show 0≤ar t by omega) with ⟨k,_⟩ | ⟨k,_⟩ | ⟨_,k⟩
   ·omega
   ·omega
   rcases k with k | k | k
   ·exact ⟨false,0,0,p,by simp[k],by simp[k],hF,by simp⟩
   ·exact ⟨true,0,0,p,by simp[k],by simp[k],hF,by simp⟩
   ·refine ⟨false,By 1 (p.1.length:Int),By 1 (p.1.length:Int),(p.1++ [t.2.1],p.2.1,p.2.2.1,p.2.2.2.1++ [0],p.2.2.2.2),?_,?_,by simp[hF],by simp⟩
    ·rw[if_neg (by simp[k]),if_pos (by simp[k]),ay (by simp;omega)];simp only[Option.bind_some]
     rw[ay (by simp;omega)];rfl
    ·rw[if_neg (by simp[k]),if_pos (by simp[k]),ay (by simp;omega)];simp only[Option.bind_some]
     rw[ay (by simp;omega)];rfl
 ·intro t a e wa ih n m p hn hm hF hl
  rw[xG] at hn hm hl⊢
  simp only[List.length_append,List.length_cons,List.length_nil] at hn hm hl
  match n,m,hn,hm with
  | n+1,m+1,hn,hm =>
   rw[bV,aR];simp only[lN,Option.bind_some,eD]
   obtain ⟨l1,l2⟩:=jF (A:=flat a) (t:=t) (by omega)
   rw[l1];simp only[Option.bind_some]
   obtain ⟨nu,fi,la,q,hs,hi,hq1,hq2⟩:=ih n m p (by omega) (by omega) hF (by omega)
   rcases Jo e with ⟨k1,k2⟩ | ⟨k1,k2,k3⟩
   ·have g2:(t.1==2)=false:=by simp[k2]
    have g3:(t.1==3)=false:=by simp[k2]
    have g4:(t.1==4)=false:=by simp[k2]
    have g5:(t.1==5)=false:=by simp[k2]
    simp only[g2,g3,g4,g5,k1,Bool.false_eq_true,if_false,if_true]
    rw[l2,Int.toNat_natCast,List.take_left,jo (by simp only[List.length_append,List.length_cons,List.length_nil];omega)];simp only[Option.bind_some]
    rw[hs,show aI [a] 0=some a from rfl];simp only[Option.bind_some]
    rw[hi];simp only[Option.bind_some,eD]
    rw[KD (by omega),CB (by omega)];simp only[Option.bind_some]
    refine ⟨true,fi,la,_,rfl,rfl,?_,?_⟩
    ·simp only[uE];exact hq1
    ·simp only[List.length_append,List.length_cons,List.length_nil];omega
   ·have g2:(t.1==2)=false:=by simp[k3]
    have g3:(t.1==3)=false:=by simp[k3]
    have g4:(t.1==4)=false:=by simp[k3]
    have g5:(t.1==5)=false:=by simp[k3]
    simp only[g2,g3,g4,g5,k1,Bool.false_eq_true,if_false]
    exact ⟨false,0,0,p,rfl,rfl,hF,by omega⟩
 ·intro t a b e wa wb iha ihb n m p hn hm hF hl
  rw[pq] at hn hm hl⊢
  have hl2:((flat a++flat b)++ [t]).length≤1000000:=by omega
  obtain ⟨p1,p2,p3,p4⟩:=uD (a:=a) (t:=t) wb hl2
  simp only[List.length_append,List.length_cons,List.length_nil] at hn hm hl
  match n,m,hn,hm with
  | n+1,m+1,hn,hm =>
   have hpa:=wa.pos
   have hpb:=wb.pos
   rw[bV,aR];simp only[lN,Option.bind_some,eD]
   obtain ⟨l1,l2⟩:=jF (A:=flat a++flat b) (t:=t) (by rw[List.length_append];omega)
   rw[l1];simp only[Option.bind_some]
   obtain ⟨nu,fi,la,q,hs,hi,hq1,hq2⟩:=iha n m p (by omega) (by omega) hF (by omega)
   obtain ⟨nu2,fi2,la2,q2,hs2,hi2,hq3,hq4⟩:=ihb n m q (by omega) (by omega) hq1 (by omega)
   have c1: ∀r:Int,0≤r→r≤((flat a++flat b++ [t]).length:Int)→chk (0≤r∧r≤((flat a++flat b++ [t]).length:Int))=some ():=fun r h1 h2=>jo ⟨h1,h2⟩
   have g0:aI [a,b] 0=some a:=rfl
   have g1:aI [a,b] 1=some b:=rfl
   rcases kl (show 0≤ar t by omega) with ⟨_,k⟩ | ⟨k,_⟩ | ⟨k,_⟩
   ·rcases k with k | k
    ·have g2:(t.1==2)=false:=by simp[k]
     have g3:(t.1==3)=false:=by simp[k]
     have g4:(t.1==4)=true:=by simp[k]
     have g5:(t.1==5)=false:=by simp[k]
     simp only[g2,g3,g4,g5,Bool.false_eq_true,if_false,if_true]
     rw[l2,p1,p2,jo (by simp only[List.length_append,List.length_cons,List.length_nil];omega)];simp only[Option.bind_some]
     rw[jo (by simp only[List.length_append,List.length_cons,List.length_nil];omega),p3,p4,hs,g0,g1];simp only[Option.bind_some]
     rw[hi,jo (by simp only[List.length_append,List.length_cons,List.length_nil];omega)];simp only[Option.bind_some,eD]
     rw[hs2,hi2];simp only[Option.bind_some,eD]
     rw[KD (by omega),CB (by omega)];simp only[Option.bind_some]
     refine ⟨nu&&nu2,if nu then orI fi fi2 else fi,if nu2 then orI la la2 else la2,(q2.1,q2.2.1,q2.2.2.1,lk q2.2.2.2.1 la fi2 q2.2.2.2.1.length,q2.2.2.2.2),?_,?_,?_,?_⟩
     ·cases nu <;> cases nu2 <;> rfl
     ·rw[Jv la la2]
      cases nu <;> cases nu2 <;> rfl
     ·simp only[uE];exact hq3
     ·simp only[List.length_append,List.length_cons,List.length_nil];omega
    ·have g2:(t.1==2)=false:=by simp[k]
     have g3:(t.1==3)=false:=by simp[k]
     have g4:(t.1==4)=false:=by simp[k]
     have g5:(t.1==5)=true:=by simp[k]
     simp only[g2,g3,g4,g5,Bool.false_eq_true,if_false,if_true]
     rw[l2,p1,p2,jo (by simp only[List.length_append,List.length_cons,List.length_nil];omega)];simp only[Option.bind_some]
     rw[jo (by simp only[List.length_append,List.length_cons,List.length_nil];omega),p3,p4,hs,g0,g1];simp only[Option.bind_some]
     rw[hi,jo (by simp only[List.length_append,List.length_cons,List.length_nil];omega)];simp only[Option.bind_some,eD]
     rw[hs2,hi2];simp only[Option.bind_some,eD]
     refine ⟨nu || nu2,orI fi fi2,orI la la2,q2,?_,?_,hq3,?_⟩
     ·cases nu <;> simp
     ·cases nu <;> simp
     ·simp only[List.length_append,List.length_cons,List.length_nil];omega
   ·omega
   ·omega
def Bm (e:List Tok):Nat→Nat
 | 0=>0
 | i+1=>if (nth e (i:Int)).1=3 then Bm e i+1 else Bm e i
theorem Bn (e:List Tok): ∀i,Bm e i≤i
 | 0=>Nat.le_refl _
 | i+1=>by
  have:=Bn e i
  rw[Bm];split <;> omega
theorem PJ {r:List Tok×Bool} (hl:r.1.length≤1000000):ak (bW r) aN (0,0)=some (.brk ((Bm r.1 r.1.length:Int),(r.1.length:Int))):=
 a7 (f:=bW r) (fun i=>((Bm r.1 i:Int),(i:Int))) r.1.length (fun i hi=>by
  have:=Bn r.1 i
  unfold bW
  simp only
  rw[if_pos (by simp;omega),aj (by omega) (by omega)];simp only[Option.bind_some]
  rw[Bm,ae (show i<9223372036854775807 by omega),ae (show Bm r.1 i<9223372036854775807 by omega)]
  by_cases c:(nth r.1 (i:Int)).1=3
  ·rw[if_pos (by simpa using c),if_pos c];rfl
  ·rw[if_neg (by simpa using c),if_neg c];rfl) (by unfold bW;simp) (nC (by omega))
theorem PK {r:List Tok×Bool} (hl:r.1.length≤1000000):ak (bY r) aN (0,0)=some (.brk ((Bm r.1 r.1.length:Int),(r.1.length:Int))):=
 a7 (f:=bY r) (fun i=>((Bm r.1 i:Int),(i:Int))) r.1.length (fun i hi=>by
  have:=Bn r.1 i
  unfold bY
  simp only
  rw[if_pos (by simp;omega),aj (by omega) (by omega)];simp only[Option.bind_some]
  rw[Bm,ae (show i<9223372036854775807 by omega),ae (show Bm r.1 i<9223372036854775807 by omega)]
  by_cases c:(nth r.1 (i:Int)).1=3
  ·rw[if_pos (by simpa using c),if_pos c];rfl
  ·rw[if_neg (by simpa using c),if_neg c];rfl) (by unfold bY;simp) (nC (by omega))
theorem pw {e:List Tok} (he:e.length≤1048576): ∃r:zX×Bool,et e=some r∧ew e=some r∧r.1.2.2.2.1.length=r.1.1.length∧r.1.1.length≤100000:=by
 have hF:=qp
 obtain ⟨e1,e2⟩:=Bj he
 unfold et ew
 rw[e1,e2];simp only[Option.bind_some]
 by_cases c:(DJ e).2=true
 ·obtain ⟨y,wy,ey,ly⟩:=MP c
  rw[if_pos c,if_pos c,ai (PJ (by rw[ey];omega)),ai (PK (by rw[ey];omega))]
  simp only
  by_cases d:(Bm (DJ e).1 (DJ e).1.length:Int)>20
  ·have d':decide ((Bm (DJ e).1 (DJ e).1.length:Int)>20)=true:=decide_eq_true d
   simp only[d',if_true]
   exact ⟨_,rfl,rfl,rfl,by simp⟩
  ·have d':decide ((Bm (DJ e).1 (DJ e).1.length:Int)>20)=false:=decide_eq_false d
   simp only[d',Bool.false_eq_true,if_false]
   rw[ey,xI (by omega),re wy];simp only[Option.bind_some]
   obtain ⟨nu,fi,la,q,hs,hi,hq1,hq2⟩:=Jw wy dS dS ([],0,0,[],false) (by omega) (by omega) rfl (by simp;omega)
   rw[hs,hi];simp only[Option.bind_some]
   exact ⟨_,rfl,rfl,hq1,by simp at hq2;show q.1.length≤_;omega⟩
 ·rw[if_neg c,if_neg c]
  exact ⟨_,rfl,rfl,rfl,by simp⟩
end D
namespace D
open Go.RowKit
theorem DL {κ:Type} [DecidableEq κ] {l m:List κ} (h:l <+:m) {y:κ} (hy:y∈l):(m.idxOf y:Int)=l.idxOf y:=by
 obtain ⟨t,rfl⟩:=h
 rw[List.idxOf_append,if_pos hy]
theorem KE {κ:Type} [DecidableEq κ] : ∀(l:List κ) (os:List (Option κ)) (i:Nat),i<os.length→nth (nbR l os) (i:Int)=nbI (nbS l os) (nth os (i:Int))
 | l,o::os,0,_=>by
  show nbI l o=nbI (nbS (nbL l o) os) o
  cases o with
  | none=>rfl
  | some y =>
   have hm:y∈nbL l (some y):=Gr.2 (.inr rfl)
   simp only[nbI]
   rw[DL (fc _ os) hm]
   by_cases c:y∈l
   ·rw[fS c]
   ·rw[fm c,List.idxOf_append,if_neg c,lJ c];simp
 | l,o::os,i+1,h=>by
  have h':i<os.length:=by simpa using h
  have ih:=KE (nbL l o) os i h'
  have e1:nth (nbR l (o::os)) ((i+1:Nat):Int)=nth (nbR (nbL l o) os) (i:Int):=by
   rw[bq (by rw[cS];exact h),bq (by rw[cS];exact h')];rfl
  have e2:nth (o::os) ((i+1:Nat):Int)=nth os (i:Int):=by rw[bq h,bq h'];rfl
  rw[e1,e2];exact ih
theorem kY {κ:Type} [DecidableEq κ] {l:List κ} {y:κ} (h:y∈l): ∃(q:Nat) (hq:q<l.length),nbI l (some y)=(q:Int)∧l[q] =y:=
 ⟨l.idxOf y,List.idxOf_lt_length_of_mem h,rfl,by simp⟩
theorem xO {κ:Type} [DecidableEq κ] {l:List κ} {y:κ} (h:y∉l):nbI l (some y)=(l.length:Int):=by simp only[nbI,lJ h]
def KF:List Int→Nat→Nat→Prop
 | [],c,m=>c=m
 | x::xs,c,m=>(x= -1∧KF xs c m)∨(0≤x∧x<c∧KF xs c m)∨(x=c∧KF xs (c+1) m)
theorem xP {κ:Type} [DecidableEq κ] : ∀(os:List (Option κ)) (l:List κ),KF (nbR l os) l.length (nbS l os).length
 | [],l=>rfl
 | none::os,l=>.inl ⟨rfl,xP os l⟩
 | some y::os,l=>by
  by_cases c:y∈l
  ·refine .inr (.inl ⟨Int.natCast_nonneg _,?_,?_⟩)
   ·have:=List.idxOf_lt_length_of_mem c
    simp only[nbI];omega
   ·show KF (nbR (nbL l (some y)) os) l.length (nbS (nbL l (some y)) os).length
    rw[fS c];exact xP os l
  ·refine .inr (.inr ⟨by simp only[nbI,lJ c],?_⟩)
   show KF (nbR (nbL l (some y)) os) (l.length+1) (nbS (nbL l (some y)) os).length
   have:=xP os (l++ [y])
   rw[fm c]
   simpa using this
def O8:List Int→List (Option (List Int))→Prop
 | [],[] =>True
 | x::xs,o::os=>((x<0∧o=none)∨(0≤x∧ ∃t,o=some (x::t)))∧O8 xs os
 | _,_=>False
theorem GQ: ∀(xs:List Int) (os:List (Option (List Int))),xs.length=os.length→(∀i (h:i<xs.length) (h':i<os.length),(xs[i] < 0∧os[i] =none)∨(0≤xs[i] ∧ ∃t,os[i] =some (xs[i] ::t)))→O8 xs os
 | [],[],_,_=>trivial
 | x::xs,o::os,hl,h=>⟨h 0 (by simp) (by simp),GQ xs os (by simpa using hl) fun i h1 h2=>h (i+1) (by simpa using h1) (by simpa using h2)⟩
theorem km: ∀(xs:List Int) (os:List (Option (List Int))) (l:List (List Int)) (c m:Nat),O8 xs os→KF xs c m→(∀y∈l,∃h t,y=h::t∧h<c)→
  m+l.length≤(nbS l os).length+c∧(l.length=c→(∀(q:Nat) (hq:q<l.length),∃t,l[q] =(q:Int)::t)→(nbS l os).length=m→nbR l os=xs)
 | [],[],l,c,m,_,hn,_=>by
  have hn:c=m:=hn
  subst hn
  exact ⟨by simp[nbS];omega,fun _ _ _=>rfl⟩
 | x::xs,o::os,l,c,m,hr,hn,hh=>by
  obtain ⟨hr1,hr2⟩:=hr
  rcases hn with ⟨rfl,hn⟩ | ⟨hx0,hxc,hn⟩ | ⟨rfl,hn⟩
  ·have ho:o=none:=by
    rcases hr1 with ⟨-,h⟩ | ⟨h,-⟩
    ·exact h
    ·omega
   subst ho
   obtain ⟨i1,i2⟩:=km xs os l c m hr2 hn hh
   exact ⟨i1,fun h1 h2 h3=>by show -1::nbR l os=_;rw[i2 h1 h2 h3]⟩
  ·obtain ⟨t,rfl⟩: ∃t,o=some (x::t):=by
    rcases hr1 with ⟨h,-⟩ | ⟨-,h⟩
    ·omega
    ·exact h
   by_cases k:(x::t)∈l
   ·obtain ⟨i1,i2⟩:=km xs os l c m hr2 hn hh
    have hb:nbL l (some (x::t))=l:=fS k
    refine ⟨by show m+l.length≤(nbS (nbL l (some (x::t))) os).length+c;rw[hb];exact i1,fun h1 h2 h3=>?_⟩
    have h3:(nbS (nbL l (some (x::t))) os).length=m:=h3
    rw[hb] at h3
    obtain ⟨q,hq,e1,e2⟩:=kY k
    obtain ⟨t',ht'⟩:=h2 _ hq
    rw[e2] at ht'
    have:x=(q:Int):=by injection ht'
    show nbI l (some (x::t))::nbR (nbL l (some (x::t))) os=_
    rw[e1,←this,hb,i2 h1 h2 h3]
   ·have hb:nbL l (some (x::t))=l++ [x::t]:=fm k
    obtain ⟨i1,i2⟩:=km xs os (l++ [x::t]) c m hr2 hn (fun y hy=>by
     rcases List.mem_append.1 hy with hy | hy
     ·exact hh y hy
     ·obtain rfl:=List.mem_singleton.1 hy
      exact ⟨x,t,rfl,hxc⟩)
    rw[List.length_append,List.length_singleton] at i1
    refine ⟨by show m+l.length≤(nbS (nbL l (some (x::t))) os).length+c;rw[hb];omega,fun h1 h2 h3=>?_⟩
    have h3:(nbS (nbL l (some (x::t))) os).length=m:=h3
    rw[hb] at h3
    omega
  ·obtain ⟨t,rfl⟩: ∃t,o=some ((c:Int)::t):=by
    rcases hr1 with ⟨h,-⟩ | ⟨-,h⟩
    ·omega
    ·exact h
   have k:((c:Int)::t)∉l:=fun k=>by
    obtain ⟨h,t',e,hlt⟩:=hh _ k
    have:(c:Int)=h:=by injection e
    omega
   have hb:nbL l (some ((c:Int)::t))=l++ [(c:Int)::t]:=fm k
   obtain ⟨i1,i2⟩:=km xs os (l++ [(c:Int)::t]) (c+1) m hr2 hn (fun y hy=>by
    rcases List.mem_append.1 hy with hy | hy
    ·obtain ⟨h,t',e,hlt⟩:=hh y hy
     exact ⟨h,t',e,by omega⟩
    ·obtain rfl:=List.mem_singleton.1 hy
     exact ⟨c,t,rfl,by omega⟩)
   have hlen:(l++ [(c:Int)::t]).length=l.length+1:=by simp
   rw[hlen] at i1
   refine ⟨by show m+l.length≤(nbS (nbL l (some ((c:Int)::t))) os).length+c;rw[hb];omega,fun h1 h2 h3=>?_⟩
   have h3:(nbS (nbL l (some ((c:Int)::t))) os).length=m:=h3
   rw[hb] at h3
   have:=i2 (by rw[hlen,h1]) (fun q hq=>by
    by_cases e:q<l.length
    ·rw[List.getElem_append_left e];exact h2 q e
    ·have e:q=l.length:=by omega
     subst e
     exact ⟨t,by simp;omega⟩) h3
   show nbI l (some ((c:Int)::t))::nbR (nbL l (some ((c:Int)::t))) os=_
   rw[hb,this,xO k,h1]
theorem Bo (xs ys:List Int) (hN:xs.length≤1048576): ∃r,lj xs ys=some r∧(r=0↔xs=ys):=by
 unfold lj
 have h0:=Oj (f:=kC xs ys) xs ys (fun i h h'=>by
  simp only[kC,cd h,cd h',if_true,aw h,aw h',Option.bind_some,ae (show i<9223372036854775807 by omega)]
  by_cases h1:xs[i] < ys[i]
  ·simp[h1]
  ·by_cases h2:xs[i] > ys[i]
   ·simp[h1,h2]
   ·simp[h1,h2]) (fun i hi=>by
  simp only[kC]
  by_cases h1:i<xs.length
  ·have h2: ¬i<ys.length:=by omega
   simp[h1,h2]
  ·simp[h1]) xs.length 0 aN (by omega) (oH _ (by omega))
 rw[show (((0:Nat):Int))=(0:Int) from rfl] at h0
 rcases h0 with ⟨r,e,h1,h2⟩ | ⟨s,e,h1⟩
 ·exact ⟨r,by rw[e];rfl,by simp[h1,h2]⟩
 ·rw[e]
  simp only[aE]
  by_cases c1:xs.length<ys.length
  ·exact ⟨-1,by simp[c1],by simp;intro e;subst e;omega⟩
  ·by_cases c2:xs.length>ys.length
   ·exact ⟨1,by simp[c1,c2],by simp;intro e;subst e;omega⟩
   ·exact ⟨0,by simp[c1,c2],by simpa using h1 (by omega)⟩
theorem zR (xs ys:List Int) (hN:xs.length≤9223372036854775807):bO xs ys=some (decide (xs=ys)):=
 eqL (f:=bB xs ys) xs ys hN (fun i h h'=>by
  simp only[bB,cd h,if_true,aw h,aw h',Option.bind_some,ae (show i<9223372036854775807 by omega)]
  by_cases c:xs[i] =ys[i] <;> simp[c]) (by simp only[bB,bu];rfl)
def DX (a:AutT):List Int:=(List.range a.2.1.length).map fun s:Nat=>if nth (live a) (s:Int)=true then (if nth a.2.1 (s:Int)=true then 1 else 0) else -1
def ent (a:AutT) (c:List Int) (s:Int) (k:Nat):Int:=if mv a s k<0 then -1 else nth c (mv a s k)
def xQ (a:AutT) (c:List Int) (s:Int):List Int:=nth c s::(List.range 9).map fun k=>ent a c s k
def xX (a:AutT) (c:List Int) (s:Nat):Option (List Int):=if nth c (s:Int)<0 then none else some (xQ a c s)
def keys (a:AutT) (c:List Int):List (Option (List Int)):=(List.range a.2.1.length).map (xX a c)
def wv (a:AutT) (c:List Int):List Int:=nbR [] (keys a c)
def sD (a:AutT) (c:List Int):Nat:=(nbS [] (keys a c)).length
def cI (a:AutT):Nat→List Int
 | 0=>DX a
 | j+1=>wv a (cI a j)
section
variable {a:AutT} {n:Nat}
theorem cF (a:AutT) (c:List Int):(keys a c).length=a.2.1.length:=by simp[keys]
theorem Bp {c:List Int} {s:Nat} (h:s<a.2.1.length):nth (keys a c) (s:Int)=xX a c s:=by
 rw[bq (by simpa [keys] using h)];simp[keys]
theorem uF (a:AutT) (c:List Int):(wv a c).length=a.2.1.length:=by rw[wv,cS,cF]
theorem ko (a:AutT): ∀j,(cI a j).length=a.2.1.length
 | 0=>by simp[cI,DX]
 | j+1=>uF a _
theorem mn {κ:Type} [DecidableEq κ] : ∀(l:List κ) (os:List (Option κ)),(nbS l os).length≤l.length+os.length
 | l,[] =>by simp[nbS]
 | l,o::os=>by
  have h:=mn (nbL l o) os
  have:(nbL l o).length≤l.length+1:=by
   cases o with
   | none=>simp[nbL]
   | some x=>unfold nbL;simp only;split <;> simp
  show (nbS (nbL l o) os).length≤_
  rw[List.length_cons];omega
theorem Bq (a:AutT) (c:List Int):sD a c≤a.2.1.length:=by
 have:=mn ([] :List (List Int)) (keys a c)
 rw[cF] at this
 simpa [sD] using this
theorem xR {c:List Int} {s:Nat} (h:s<a.2.1.length):nth (wv a c) (s:Int)=nbI (nbS [] (keys a c)) (xX a c s):=by
 rw[wv,KE _ _ _ (by rw[cF];exact h),Bp h]
theorem uG {c:List Int} {s:Nat} (h:s<a.2.1.length) (hc: ¬nth c (s:Int)<0):xQ a c s∈nbS [] (keys a c):=by
 refine nE.2 (.inr ?_)
 refine List.mem_map.2 ⟨s,List.mem_range.2 h,?_⟩
 unfold xX;rw[if_neg hc]
theorem sE {c:List Int} {s:Nat} (h:s<a.2.1.length):(nth (wv a c) (s:Int)<0↔nth c (s:Int)<0)∧(nth (wv a c) (s:Int)<0→nth (wv a c) (s:Int)= -1):=by
 rw[xR h]
 unfold xX
 by_cases hc:nth c (s:Int)<0
 ·rw[if_pos hc];simp[nbI,hc]
 ·rw[if_neg hc]
  obtain ⟨q,hq,e,-⟩:=kY (uG h hc)
  rw[e]
  exact ⟨⟨fun h=>by omega,fun h=>absurd h hc⟩,fun h=>by omega⟩
theorem MV {c:List Int} {s:Nat} (h:s<a.2.1.length):nth (wv a c) (s:Int)<(a.2.1.length:Int):=by
 rw[xR h]
 unfold xX
 by_cases hc:nth c (s:Int)<0
 ·rw[if_pos hc];simp only[nbI];omega
 ·rw[if_neg hc]
  obtain ⟨q,hq,e,-⟩:=kY (uG h hc)
  have:=Bq a c
  unfold sD at this
  rw[e];omega
theorem GR {c:List Int} {s t:Nat} (hs:s<a.2.1.length) (ht:t<a.2.1.length) (h0:0≤nth (wv a c) (s:Int)) (h:nth (wv a c) (s:Int)=nth (wv a c) (t:Int)):xQ a c s=xQ a c t:=by
 have n1: ¬nth c (s:Int)<0:=fun k=>by have:=(sE hs).1.2 k;omega
 have n2: ¬nth c (t:Int)<0:=fun k=>by have:=(sE ht).1.2 k;omega
 rw[xR hs,xR ht] at h
 unfold xX at h
 rw[if_neg n1,if_neg n2] at h
 obtain ⟨q,hq,e1,e2⟩:=kY (uG hs n1)
 obtain ⟨q',hq',e1',e2'⟩:=kY (uG ht n2)
 rw[e1,e1'] at h
 obtain rfl:q=q':=by omega
 rw[←e2,←e2']
theorem wx (a:AutT) {s:Nat} (h:s<a.2.1.length): ∀j,(nth (cI a j) (s:Int)<0↔nth (live a) (s:Int)=false)∧(nth (cI a j) (s:Int)<0→nth (cI a j) (s:Int)= -1)
 | 0=>by
  have e:nth (cI a 0) (s:Int)=if nth (live a) (s:Int)=true then (if nth a.2.1 (s:Int)=true then 1 else 0) else -1:=by
   show nth (DX a) (s:Int)=_
   rw[bq (by simpa [DX] using h)];simp[DX]
  rw[e]
  cases nth (live a) (s:Int) <;> cases nth a.2.1 (s:Int) <;> simp
 | j+1=>by
  have ih:=wx a h j
  have:=sE (c:=cI a j) h
  exact ⟨this.1.trans ih.1,this.2⟩
theorem KG (a:AutT) {s t:Nat} (hs:s<a.2.1.length) (ht:t<a.2.1.length): ∀j,0≤nth (cI a j) (s:Int)→nth (cI a j) (s:Int)=nth (cI a j) (t:Int)→nth a.2.1 (s:Int)=nth a.2.1 (t:Int)
 | 0,h0,h=>by
  have e: ∀ {s:Nat},s<a.2.1.length→nth (cI a 0) (s:Int)=if nth (live a) (s:Int)=true then (if nth a.2.1 (s:Int)=true then 1 else 0) else -1:=by
   intro s h
   show nth (DX a) (s:Int)=_
   rw[bq (by simpa [DX] using h)];simp[DX]
  rw[e hs] at h0 h
  rw[e ht] at h
  revert h0 h
  cases nth (live a) (s:Int) <;> cases nth a.2.1 (s:Int) <;> cases nth (live a) (t:Int) <;> cases nth a.2.1 (t:Int) <;> simp
 | j+1,h0,h=>by
  have k:=GR (c:=cI a j) hs ht h0 h
  have h1:nth (cI a j) (s:Int)=nth (cI a j) (t:Int):=by
   unfold xQ at k;injection k
  refine KG a hs ht j ?_ h1
  have:=(sE (c:=cI a j) hs).1
  by_cases q:nth (cI a j) (s:Int)<0
  ·have:=this.2 q
   have h0:0≤nth (wv a (cI a j)) (s:Int):=h0
   omega
  ·omega
theorem MW (a:AutT) (j:Nat):KF (cI a (j+1)) 0 (sD a (cI a j)):=xP (keys a (cI a j)) []
theorem Jx (a:AutT) {c:List Int} (hc:c.length=a.2.1.length):O8 c (keys a c):=by
 refine GQ _ _ (by rw[cF,hc]) fun i h h'=>?_
 have e1:c[i] =nth c (i:Int):=(bq h).symm
 have e2:(keys a c)[i] =xX a c i:=by simp[keys]
 rw[e1,e2]
 unfold xX
 by_cases k:nth c (i:Int)<0
 ·exact .inl ⟨k,by rw[if_pos k]⟩
 ·exact .inr ⟨by omega,_,by rw[if_neg k];rfl⟩
theorem GS (a:AutT) (j:Nat):sD a (cI a j)≤sD a (cI a (j+1))∧(sD a (cI a (j+1))=sD a (cI a j)→cI a (j+2)=cI a (j+1)):=by
 obtain ⟨h1,h2⟩:=km (cI a (j+1)) (keys a (cI a (j+1))) [] 0 (sD a (cI a j)) (Jx a (ko a _)) (MW a j) (fun y hy=>by cases hy)
 exact ⟨by simpa [sD] using h1,fun h=>h2 rfl (fun q hq=>absurd hq (Nat.not_lt_zero q)) h⟩
theorem KH {j k:Nat} (h:cI a (j+1)=cI a j) (hk:j≤k):cI a k=cI a j:=by
 induction hk with
 | refl=>rfl
 | step _ ih=>rw[cI,ih];exact h
theorem GT {j k:Nat} (h:cI a (j+1)=cI a j) (h':cI a (k+1)=cI a k):cI a j=cI a k:=by
 rcases Nat.le_total j k with e | e
 ·exact (KH h e).symm
 ·exact KH h' e
theorem MX (a:AutT): ∃j,j≤a.2.1.length∧cI a (j+1)=cI a j:=by
 by_cases h0:cI a 1=cI a 0
 ·exact ⟨0,Nat.zero_le _,h0⟩
 have hpos:1≤sD a (cI a 0):=by
  refine Nat.one_le_iff_ne_zero.2 fun hz=>h0 ?_
  have hnone: ∀s:Nat,s<a.2.1.length→nth (cI a 0) (s:Int)<0:=fun s hs=>by
   refine Classical.byContradiction fun k=>?_
   have:=uG (c:=cI a 0) hs k
   have hl:=List.length_pos_of_mem this
   unfold sD at hz;omega
  refine MH (by rw[ko,ko]) fun i hi=>?_
  rw[ko] at hi
  have h1:=(wx a hi 0).2 (hnone i hi)
  have h2:=(wx a hi 1).2 (((wx a hi 1).1.trans (wx a hi 0).1.symm).2 (hnone i hi))
  rw[h1,h2]
 have key: ∀m,(∃j,j≤m∧cI a (j+1)=cI a j)∨m+1≤sD a (cI a m):=by
  intro m
  induction m with
  | zero=>exact .inr hpos
  | succ m ih =>
   rcases ih with ⟨j,hj,e⟩ | ih
   ·exact .inl ⟨j,by omega,e⟩
   ·obtain ⟨g1,g2⟩:=GS a m
    by_cases e:sD a (cI a (m+1))=sD a (cI a m)
    ·exact .inl ⟨m+1,Nat.le_refl _,g2 e⟩
    ·exact .inr (by omega)
 rcases key a.2.1.length with h | h
 ·exact h
 ·have:=Bq a (cI a a.2.1.length);omega
end
end D
namespace D
open Go.RowKit
section
variable {a:AutT} {n:Nat} {c:List Int}
theorem CC (k:Nat) (s:Int):(List.range (k+1)).map (fun k=>ent a c s k)=(List.range k).map (fun k=>ent a c s k)++ [ent a c s k]:=by simp[List.range_succ]
theorem PL (V:VA a n) (hn:n≤1000000) (hc:c.length=n) {s:Nat} (hs:s<n):lh a c s=some (xQ a c s):=by
 unfold lh
 rw[aj (by omega) (by omega)];simp only[Option.bind_some]
 have:=a7 (f:=jv a c s) (fun k=>(nth c (s:Int)::(List.range k).map (fun k=>ent a c s k),(k:Int))) 9 (fun k hk=>by
  have hm:=V.mv (s:=s) (k:=k) (by omega) (by omega) hk
  unfold jv
  simp only
  rw[if_pos (by simp;omega),V.get (by omega) (by omega)];simp only[Option.bind_some]
  rw[V.get2 (by omega) (by omega) hk,CC];simp only[Option.bind_some,ae (show k<9223372036854775807 by omega)]
  by_cases h:mv a s k<0
  ·rw[if_pos (by simpa using h),ay (by simp;omega),show ent a c s k= -1 from by unfold ent;rw[if_pos h]];rfl
  ·rw[if_neg (by simpa using h),aj (by omega) (by omega)];simp only[Option.bind_some]
   rw[ay (by simp;omega),show ent a c s k=nth c (mv a s k) from by unfold ent;rw[if_neg h]];rfl) (by unfold jv;simp) (by unfold aN;omega)
 exact ai this
theorem PN (V:VA a n) (hn:n≤1000000) (hc:c.length=n) {s:Nat} (hs:s<n):ak (bL c (nth a.2.2 (s:Int))) aN (0,[nth c (s:Int)])=some (.brk (9,xQ a c s)):=by
 have hr:=V.rowAt (s:=s) (by omega) (by omega)
 exact a7 (f:=bL c (nth a.2.2 (s:Int))) (fun k=>((k:Int),nth c (s:Int)::(List.range k).map (fun k=>ent a c s k))) 9 (fun k hk=>by
  have hm:=V.mv (s:=s) (k:=k) (by omega) (by omega) hk
  unfold bL
  simp only
  rw[if_pos (by simp[hr];omega),V.get2 (by omega) (by omega) hk,CC];simp only[Option.bind_some,ae (show k<9223372036854775807 by omega)]
  by_cases h:mv a s k<0
  ·have e:mv a s k= -1:=by omega
   rw[if_neg (by simp;omega)];simp only[Option.bind_some]
   rw[ay (by simp;omega),show ent a c s k=mv a s k from by unfold ent;rw[if_pos h,e]];rfl
  ·rw[if_pos (by simp;omega),aj (by omega) (by omega)];simp only[Option.bind_some]
   rw[ay (by simp;omega),show ent a c s k=nth c (mv a s k) from by unfold ent;rw[if_neg h]];rfl) (by unfold bL;simp[hr]) (by unfold aN;omega)
theorem zS {κ:Type} [DecidableEq κ] {l t r:List κ} {x:κ} (e:l=t++x::r) (hx:x∉t):nbI l (some x)=(t.length:Int):=by
 subst e
 simp only[nbI]
 rw[List.idxOf_append,if_neg hx,List.idxOf_cons_self,Nat.zero_add]
def OA (l:List (List Int)) (x:List Int):Int:=if x∈l then nbI l (some x) else -1
theorem OB {l:List (List Int)} {x cs:List Int} {q:Int} (hl:l.length≤1000000) (hd:l.Nodup) (hx: ∀y∈l,y.length≤1048576):ak (dq (l,cs,q) x) aN (-1,0)=some (.brk (OA l x,(l.length:Int))):=by
 have:=a7 (f:=dq (l,cs,q) x) (fun k=>(if x∈l.take k then nbI l (some x) else -1,(k:Int))) l.length (fun k hk=>by
  unfold dq
  simp only
  rw[if_pos (by simp;omega),aj (by omega) (by omega)];simp only[Option.bind_some,Int.toNat_natCast,ae (show k<9223372036854775807 by omega)]
  obtain ⟨r,e,hr⟩:=Bo (nth l (k:Int)) x (hx _ (bT (by omega) (by omega)))
  rw[e,take_one hk];simp only[Option.bind_some,List.mem_append,List.mem_singleton]
  by_cases h:nth l (k:Int)=x
  ·have h0:r=0:=hr.2 h
   have hm:x∈l:=h ▸ bT (by omega) (by omega)
   obtain ⟨q,hq,e1,e2⟩:=kY hm
   have:q=k:=by
    have h1:l[q]? =some x:=by rw[List.getElem?_eq_getElem hq,e2]
    have h2:l[k]? =some x:=by rw[List.getElem?_eq_getElem hk,←bq hk,h]
    exact (List.getElem?_inj hq hd).1 (h1.trans h2.symm)
   subst this
   rw[if_pos (by simp[h0]),if_pos (.inr h.symm),e1];rfl
  ·have h0:r≠0:=fun e=>h (hr.1 e)
   have hn: ¬x=nth l (k:Int):=fun e=>h e.symm
   rw[if_neg (by simpa using h0)]
   simp[hn]) (by unfold dq;simp) (nC (by omega))
 rw[List.take_of_length_le (Nat.le_refl _)] at this
 exact this
theorem OC {l:List (List Int)} {x:List Int} {f:List Int→Option Bool} (hl:l.length≤1000000) (hf: ∀y∈l,f y=some (decide (y=x))):bf l f=some (OA l x):=by
 unfold bf
 obtain ⟨o,e,hq⟩:=cW (f:=bt l f) (fun k s=>s=(k:Int)∧x∉l.take k) (fun o=>(x∈l∧o= .ret (nbI l (some x)))∨(x∉l∧ ∃s,o= .brk s)) l.length (s:=0) (by
  rintro k s hk ⟨rfl,hx⟩
  unfold bt
  by_cases hkl:k<l.length
  ·rw[if_pos (by simp;omega),aj (by omega) (by omega)];simp only[Option.bind_some]
   rw[hf _ (bT (by omega) (by omega))];simp only[Option.bind_some]
   by_cases h:nth l (k:Int)=x
   ·refine .inr ⟨_,by rw[if_pos (by simpa using h)],(fun s' e=>by cases e),.inl ?_⟩
    have hm:x∈l:=h ▸ bT (by omega) (by omega)
    refine ⟨hm,?_⟩
    have e:l=l.take k++(x::l.drop (k+1)):=by
     rw[←h,bq hkl,←List.drop_eq_getElem_cons hkl,List.take_append_drop]
    rw[zS e hx,List.length_take,Nat.min_eq_left (by omega)]
   ·refine .inl ⟨hkl,_,by rw[if_neg (by simpa using h)],by rw[ae (by omega)],?_⟩
    rw[take_one hkl,List.mem_append,List.mem_singleton]
    rintro (h' | h')
    ·exact hx h'
    ·exact h h'.symm
  ·refine .inr ⟨_,by rw[if_neg (by simp;omega)],(fun s' e=>by cases e),.inr ⟨?_,_,rfl⟩⟩
   rwa [List.take_of_length_le (by omega)] at hx) ⟨rfl,by simp⟩ (nC (by omega))
 unfold OA
 rcases hq with ⟨hx,rfl⟩ | ⟨hx,s,rfl⟩
 ·rw[cv e,if_pos hx]
 ·rw[ai e,if_neg hx]
theorem uH {os:List (Option (List Int))} (h: ∀y,some y∈os→y.length=10): ∀y∈nbS [] os,y.length=10:=fun y hy=>by
 rcases nE.1 hy with hy | hy
 ·cases hy
 ·exact h y hy
theorem wz (a:AutT) (c:List Int): ∀y,some y∈keys a c→y.length=10:=by
 intro y hy
 obtain ⟨s,-,e⟩:=List.mem_map.1 hy
 unfold xX at e
 split at e
 ·cases e
 ·rw[←Option.some.inj e];simp[xQ]
section
variable (V:VA a n) (hn:n≤1000000) (hc:c.length=n)
include V hn hc
theorem CD (s:Nat):(nbS [] ((keys a c).take s)).length≤n:=by
 have:=mn ([] :List (List Int)) ((keys a c).take s)
 rw[List.length_take,cF,V.len] at this
 simp at this;omega
theorem Jy {m:Int} :ak (dt a (c,m)) aN ([],[],0)=some (.brk (nbS [] (keys a c),wv a c,(n:Int))):=by
 have hlen:=V.len
 have:=a7 (f:=dt a (c,m)) (fun s=>(nbS [] ((keys a c).take s),nbR [] ((keys a c).take s),(s:Int))) n (fun s hs=>by
  have hkl:=CD V hn hc s
  have hrl:(nbR [] ((keys a c).take s)).length≤n:=by rw[cS,List.length_take,cF];omega
  unfold dt
  simp only
  rw[if_pos (by simp;omega),aj (by omega) (by omega)];simp only[Option.bind_some]
  rw[take_one (by rw[cF];omega),mi,n8,Bp (by omega)]
  simp only[ae (show s<9223372036854775807 by omega)]
  by_cases h:nth c (s:Int)<0
  ·rw[if_pos (by simpa using h),ay (by simp;omega),show xX a c s=none from by unfold xX;rw[if_pos h]];rfl
  ·rw[if_neg (by simpa using h),show xX a c s=some (xQ a c s) from by unfold xX;rw[if_neg h]]
   rw[show lh (a.1,a.2.1,a.2.2) c (s:Int)=some (xQ a c s) from PL V hn hc hs];simp only[Option.bind_some]
   rw[ai (OB (by omega) (kh (by simp)) (fun y hy=>by rw[uH (fun y hy=>wz a c y (List.mem_of_mem_take hy)) y hy];decide))]
   simp only
   unfold OA
   by_cases k:xQ a c s∈nbS [] ((keys a c).take s)
   ·obtain ⟨q,hq,e1,e2⟩:=kY k
    rw[if_pos k,fS k,e1,if_neg (by simp)];simp only[Option.bind_some]
    rw[ay (by simp;omega)];rfl
   ·rw[if_neg k,fm k,xO k,if_pos (show decide ((-1:Int)<0)=true from rfl),ay (by simp;omega)];simp only[Option.bind_some]
    rw[ay (by simp;omega)];rfl) (by
  unfold dt
  simp only
  rw[if_neg (by simp;omega)]) (nC (by omega))
 rw[show (keys a c).take n=keys a c from List.take_of_length_le (by rw[cF];omega)] at this
 exact this
theorem Jz:cq a c=some (wv a c,(sD a c:Int)):=by
 have hlen:=V.len
 unfold cq
 have:=a7 (f:=cw a c) (fun s=>(nbS [] ((keys a c).take s),nbR [] ((keys a c).take s),(s:Int))) n (fun s hs=>by
  have hkl:=CD V hn hc s
  have hrl:(nbR [] ((keys a c).take s)).length≤n:=by rw[cS,List.length_take,cF];omega
  unfold cw
  simp only
  rw[if_pos (by simp;omega),aj (by omega) (by omega)];simp only[Option.bind_some]
  rw[take_one (by rw[cF];omega),mi,n8,Bp (by omega)]
  simp only[ae (show s<9223372036854775807 by omega)]
  by_cases h:nth c (s:Int)<0
  ·rw[if_pos (by simpa using h),ay (by simp;omega),show xX a c s=none from by unfold xX;rw[if_pos h]];rfl
  ·rw[if_neg (by simpa using h),show xX a c s=some (xQ a c s) from by unfold xX;rw[if_neg h],V.get (by omega) (by omega)];simp only[Option.bind_some]
   rw[ai (PN V hn hc hs)];simp only
   rw[OC (x:=xQ a c s) (by omega) (fun y hy=>by
    unfold ek
    rw[zR _ _ (by rw[uH (fun y hy=>wz a c y (List.mem_of_mem_take hy)) y hy];decide)];rfl)];simp only[Option.bind_some]
   unfold OA
   by_cases k:xQ a c s∈nbS [] ((keys a c).take s)
   ·obtain ⟨q,hq,e1,e2⟩:=kY k
    rw[if_pos k,fS k,e1,if_neg (by simp)];simp only[Option.bind_some]
    rw[ay (by simp;omega)];rfl
   ·rw[if_neg k,fm k,xO k,if_pos (show decide ((-1:Int)<0)=true from rfl),ay (by simp;omega)];simp only[Option.bind_some]
    rw[ay (by simp;omega)];rfl) (by
  unfold cw
  simp only
  rw[if_neg (by simp;omega)]) (nC (by omega))
 rw[show (keys a c).take n=keys a c from List.take_of_length_le (by rw[cF];omega)] at this
 exact ai this
end
end
section
variable {a:AutT} {n:Nat} (V:VA a n) (hn:n≤1000000)
include V hn
theorem zT (s:Nat):(List.range (s+1)).map (fun s:Nat=>if nth (live a) (s:Int)=true then (if nth a.2.1 (s:Int)=true then (1:Int) else 0) else -1)=(List.range s).map (fun s:Nat=>if nth (live a) (s:Int)=true then (if nth a.2.1 (s:Int)=true then 1 else 0) else -1)++ [if nth (live a) (s:Int)=true then (if nth a.2.1 (s:Int)=true then 1 else 0) else -1]:=by simp[List.range_succ]
theorem OD:ak (dn a (live a)) aN ([],0)=some (.brk (DX a,(n:Int))):=by
 have hlen:=V.len
 have hll:(live a).length=n:=by rw[pv,hlen]
 have:=a7 (f:=dn a (live a)) (fun s=>((List.range s).map (fun s:Nat=>if nth (live a) (s:Int)=true then (if nth a.2.1 (s:Int)=true then (1:Int) else 0) else -1),(s:Int))) n (fun s hs=>by
  unfold dn
  simp only
  rw[if_pos (by simp;omega),V.acc (by omega) (by omega)];simp only[Option.bind_some]
  rw[zT V hn,aj (xs:=live a) (by omega) (by omega)];simp only[ae (show s<9223372036854775807 by omega)]
  cases nth (live a) (s:Int) <;> cases nth a.2.1 (s:Int) <;> simp only[if_true,if_false,Bool.false_eq_true,Option.bind_some] <;> rw[ay (by simp;omega)] <;> rfl) (by
  unfold dn
  simp only
  rw[if_neg (by simp;omega)]) (nC (by omega))
 unfold DX
 rw[hlen]
 exact this
theorem OE:ak (bE a (live a)) aN ([],0)=some (.brk (DX a,(n:Int))):=by
 have hlen:=V.len
 have hll:(live a).length=n:=by rw[pv,hlen]
 have:=a7 (f:=bE a (live a)) (fun s=>((List.range s).map (fun s:Nat=>if nth (live a) (s:Int)=true then (if nth a.2.1 (s:Int)=true then (1:Int) else 0) else -1),(s:Int))) n (fun s hs=>by
  unfold bE
  simp only
  rw[if_pos (by simp;omega),aj (xs:=live a) (by omega) (by omega)];simp only[Option.bind_some]
  rw[zT V hn,V.acc (by omega) (by omega)];simp only[ae (show s<9223372036854775807 by omega)]
  cases nth (live a) (s:Int) <;> cases nth a.2.1 (s:Int) <;> simp only[if_true,if_false,Bool.false_eq_true,Option.bind_some] <;> rw[ay (by simp;omega)] <;> rfl) (by
  unfold bE
  simp only
  rw[if_neg (by simp;omega)]) (nC (by omega))
 unfold DX
 rw[hlen]
 exact this
theorem GU: ∃J,cI a (J+1)=cI a J∧fx a=some (cI a J):=by
 have hlen:=V.len
 unfold fx
 rw[show hO (a.1,a.2.1,a.2.2)=some (live a) from Ky V hn];simp only[Option.bind_some]
 rw[ai (OD V hn)]
 obtain ⟨J0,hJ0,hfix⟩:=MX a
 obtain ⟨o,e,j,rfl,hj⟩:=cW (f:=hY a) (fun j s=>s=(cI a j,(j:Int))∧j≤J0) (fun o=> ∃j,o= .ret (cI a j)∧cI a (j+1)=cI a j) (J0+1) (s:=(cI a 0,0)) (by
  rintro j s hj ⟨rfl,hjJ⟩
  have hcl:(cI a j).length=n:=by rw[ko,hlen]
  unfold hY
  simp only
  rw[if_pos (by simp;omega),ai (Jy V hn hcl)]
  simp only
  obtain ⟨r,er,hr⟩:=Bo (wv a (cI a j)) (cI a j) (by rw[uF];omega)
  rw[er];simp only[Option.bind_some,ae (show j<9223372036854775807 by omega)]
  by_cases h:wv a (cI a j)=cI a j
  ·exact .inr ⟨_,by rw[if_pos (by simpa using hr.2 h)],(fun s' e=>by cases e),j,rfl,h⟩
  ·refine .inl ⟨by omega,(cI a (j+1),((j+1:Nat):Int)),by rw[if_neg (by simpa using fun e=>h (hr.1 e))];rfl,rfl,?_⟩
   by_cases e:j=J0
   ·subst e;exact absurd hfix h
   ·omega) ⟨rfl,Nat.zero_le _⟩ (nC (by omega))
 exact ⟨j,hj,cv e⟩
theorem GV: ∃J,cI a (J+1)=cI a J∧b9 a=some (cI a J):=by
 have hlen:=V.len
 unfold b9
 rw[show cT (a.1,a.2.1,a.2.2)=some (live a) from Ot V hn];simp only[Option.bind_some]
 rw[ai (OE V hn)]
 let kk:Nat→Int:=fun j=>match j with | 0=> -1 | i+1=>(sD a (cI a i):Int)
 obtain ⟨o,e,j,rfl,hj⟩:=cW (f:=dy a) (fun j s=>s=(cI a j,kk j)∧(j:Int)≤kk j+1) (fun o=> ∃j,o= .ret (cI a j)∧cI a (j+1)=cI a j) (n+2) (s:=(cI a 0,-1)) (by
  rintro j s hj ⟨rfl,hjk⟩
  have hcl:(cI a j).length=n:=by rw[ko,hlen]
  have hle:=Bq a (cI a j)
  unfold dy
  simp only
  rw[show cq (a.1,a.2.1,a.2.2) (cI a j)=some (wv a (cI a j),(sD a (cI a j):Int)) from Jz V hn hcl];simp only[Option.bind_some]
  cases j with
  | zero =>
   refine .inl ⟨by omega,(cI a 1,kk 1),by rw[if_neg (by show¬((sD a (cI a 0):Int) == -1)=true;simp)];rfl,rfl,?_⟩
   show (1:Int)≤(sD a (cI a 0):Int)+1
   omega
  | succ i =>
   obtain ⟨g1,g2⟩:=GS a i
   have hki:kk (i+1)=(sD a (cI a i):Int):=rfl
   rw[hki] at hjk⊢
   by_cases h:sD a (cI a (i+1))=sD a (cI a i)
   ·refine .inr ⟨.ret (cI a (i+2)),by rw[if_pos (by simp[h])];rfl,(fun s' e=>by cases e),i+2,rfl,?_⟩
    have:=g2 h
    show wv a (cI a (i+2))=cI a (i+2)
    rw[this];exact this
   ·refine .inl ⟨?_,(cI a (i+2),kk (i+2)),by rw[if_neg (by simp;omega)];rfl,rfl,?_⟩
    ·omega
    ·show ((i+1+1:Nat):Int)≤(sD a (cI a (i+1)):Int)+1
     omega) ⟨rfl,by show ((0:Nat):Int)≤ -1+1;omega⟩ (nC (by omega))
 exact ⟨j,hj,cv e⟩
theorem DM: ∃c,fx a=some c∧b9 a=some c∧c.length=n∧wv a c=c∧ ∃j,c=cI a j:=by
 obtain ⟨J,hJ,es⟩:=GU V hn
 obtain ⟨J',hJ',ei⟩:=GV V hn
 have:=GT hJ hJ'
 exact ⟨cI a J,es,by rw[this];exact ei,by rw[ko,V.len],hJ,J,rfl⟩
end
end D
namespace D
open Go.RowKit
theorem DN (n:Nat) (l:List Int) (hd:l.Nodup) (h: ∀x∈l,0≤x∧x<n):l.length≤n:=by
 have:=hd.length_le_of_subset (l₂:=(List.range n).map Int.ofNat) (fun x hx=>by
  obtain ⟨h0,h1⟩:=h x hx
  exact List.mem_map.2 ⟨x.toNat,List.mem_range.2 (by omega),by show ((x.toNat:Nat):Int)=x;omega⟩)
 simpa using this
theorem OF {n:Nat} {x:Int} (hn:n≤1000000) (h0:0≤x) (h1:x<n):iOk x=true:=by
 have:=GM (n:=x.toNat) (by omega)
 rwa [show ((x.toNat:Nat):Int)=x from by omega] at this
theorem OG {κ:Type} [DecidableEq κ] {nx:κ→List (Option κ)} {first:κ} {G:κ→Prop} {B N:Nat} {acc:κ→Bool} (H:NumOk nx first G B) (hB:B≤1000000) (hN:bfE nx first N):Data.sm ((0,(bfS nx first N).map acc,bfR nx first N):AutT):=by
 have hl:=H.bound _ (iZ (nx:=nx) (first:=first) N) (fO H.g0 H.gn N)
 refine ⟨trivial,⟨by rw[List.length_map];omega,fun _ _=>trivial⟩,?_,?_⟩
 ·rw[gk hN.2];have:=hN.1;omega
 ·have key: ∀i,i≤N→ ∀r∈bfR nx first i,r.length=9:=by
   intro i
   induction i with
   | zero=>intro _ r hr;cases hr
   | succ i ih =>
    intro hi r hr
    have hlt:=hN.2 i (by omega)
    rw[ql hlt] at hr
    rcases List.mem_append.1 hr with hr | hr
    ·exact ih (by omega) r hr
    ·obtain rfl:=List.mem_singleton.1 hr
     rw[cS,H.len _ (fO H.g0 H.gn i _ (List.getElem_mem hlt))]
  intro r hr
  exact ⟨by rw[key N (Nat.le_refl _) r hr];decide,fun _ _=>trivial⟩
theorem DO:Data.sm nothing:=⟨trivial,⟨by decide,fun _ _=>trivial⟩,by decide,fun r hr=>by
 obtain rfl:=List.mem_singleton.1 hr
 exact ⟨by decide,fun _ _=>trivial⟩⟩
end D
namespace D
open Go.RowKit
theorem MY {l:List Int} {x:Int} (hl:l.length≤1000000) (hx:x∈l):aD x l=some (nbI l (some x)):=by
 unfold aD cN
 obtain ⟨o,e,hq⟩:=cW (f:=cj l x) (fun k s=>s=(k:Int)∧x∉l.take k) (fun o=>o= .ret (nbI l (some x))) l.length (s:=0) (by
  rintro k s hk ⟨rfl,hx'⟩
  unfold cj
  by_cases hkl:k<l.length
  ·rw[if_pos (by simp;omega),aj (by omega) (by omega)];simp only[Option.bind_some]
   by_cases h:nth l (k:Int)=x
   ·refine .inr ⟨_,by rw[if_pos (by simp[h])],(fun s' e=>by cases e),?_⟩
    have e:l=l.take k++(x::l.drop (k+1)):=by
     rw[←h,bq hkl,←List.drop_eq_getElem_cons hkl,List.take_append_drop]
    rw[zS e hx',List.length_take,Nat.min_eq_left (by omega)]
   ·have h': ¬x=nth l (k:Int):=fun e=>h e.symm
    refine .inl ⟨hkl,_,by rw[if_neg (by simpa using h')],by rw[ae (by omega)],?_⟩
    rw[take_one hkl,List.mem_append,List.mem_singleton]
    rintro (h' | h')
    ·exact hx' h'
    ·exact h h'.symm
  ·rw[List.take_of_length_le (by omega)] at hx'
   exact absurd hx hx') ⟨rfl,by simp⟩ (nC (by omega))
 subst hq
 rw[cv e];rfl
section
variable {a:AutT} {n:Nat}
def rep (c:List Int) (x:Int):Int:=nbI c (some x)
theorem GW {c:List Int} {x:Int} (h:x∈c):0≤rep c x∧rep c x<c.length∧nth c (rep c x)=x:=by
 obtain ⟨q,hq,e1,e2⟩:=kY h
 unfold rep
 rw[e1]
 exact ⟨by omega,by omega,by rw[bq hq,e2]⟩
theorem JA (V:VA a n) (hn:n≤1000000): ∃r,gD a=some r∧cK a=some r∧Data.sm r:=by
 have hlen:=V.len
 have hst:=V.start
 have hll:(live a).length=n:=by rw[pv,hlen]
 obtain ⟨c,es,ei,hcl,hfix,j,hj⟩:=DM V hn
 have hneg: ∀s:Int,0≤s→s<n→(nth c s<0↔nth (live a) s=false):=fun s h0 h1=>by
  have:=(wx a (s:=s.toNat) (by omega) j).1
  rw[←hj,show ((s.toNat:Nat):Int)=s from by omega] at this
  exact this
 have hlt: ∀s:Int,0≤s→s<n→nth c s<n:=fun s h0 h1=>by
  have:=MV (c:=c) (a:=a) (s:=s.toNat) (by omega)
  rw[hfix,hlen,show ((s.toNat:Nat):Int)=s from by omega] at this
  exact this
 have hpos: ∀r,good n (live a) r→0≤nth c r:=fun r hr=>by
  have:=hneg r hr.1 hr.2.1
  by_cases k:nth c r<0
  ·have:=this.1 k;rw[hr.2.2] at this;cases this
  ·omega
 have hkey: ∀r t:Int,0≤r→r<n→0≤t→t<n→0≤nth c r→nth c r=nth c t→xQ a c r=xQ a c t:=fun r t r0 r1 t0 t1 h0 h=>by
  have:=GR (a:=a) (c:=c) (s:=r.toNat) (t:=t.toNat) (by omega) (by omega) (by rw[hfix,show ((r.toNat:Nat):Int)=r from by omega];exact h0) (by rw[hfix,show ((r.toNat:Nat):Int)=r from by omega,show ((t.toNat:Nat):Int)=t from by omega];exact h)
  rwa [show ((r.toNat:Nat):Int)=r from by omega,show ((t.toNat:Nat):Int)=t from by omega] at this
 have hacc: ∀r t:Int,0≤r→r<n→0≤t→t<n→0≤nth c r→nth c r=nth c t→nth a.2.1 r=nth a.2.1 t:=fun r t r0 r1 t0 t1 h0 h=>by
  have:=KG a (s:=r.toNat) (t:=t.toNat) (by omega) (by omega) j (by rw[←hj,show ((r.toNat:Nat):Int)=r from by omega];exact h0) (by rw[←hj,show ((r.toNat:Nat):Int)=r from by omega,show ((t.toNat:Nat):Int)=t from by omega];exact h)
  rwa [show ((r.toNat:Nat):Int)=r from by omega,show ((t.toNat:Nat):Int)=t from by omega] at this
 have hsuccs: ∀r,good n (live a) r→ri a c (live a) r=(List.range 9).map fun k=>if 0≤ent a c r k then some (ent a c r k) else none:=fun r hr=>by
  refine List.map_congr_left fun k hk=>?_
  have hk:k<9:=List.mem_range.1 hk
  have hm:=V.mv hr.1 hr.2.1 hk
  unfold ent
  by_cases h:mv a r k<0
  ·rw[if_pos h,if_neg (fun h'=>by omega),if_neg (by omega)]
  ·rw[if_neg h]
   have:=hneg (mv a r k) (by omega) hm.2
   cases hl:nth (live a) (mv a r k) with
   | false =>
    have:=this.2 hl
    rw[if_neg (fun h'=>by cases h'.2),if_neg (by omega)]
   | true =>
    have: ¬nth c (mv a r k)<0:=fun h'=>by have:=this.1 h';rw[hl] at this;cases this
    rw[if_pos ⟨by omega,rfl⟩,if_pos (by omega)]
 have hent: ∀r t:Int,xQ a c r=xQ a c t→ ∀k,k<9→ent a c r k=ent a c t k:=fun r t h k hk=>by
  have h:(List.range 9).map (fun k=>ent a c r k)=(List.range 9).map (fun k=>ent a c t k):=by unfold xQ at h;injection h
  have:=congrArg (fun l:List Int=>l[k]?) h
  simpa [hk] using this
 let nx:Int→List (Option Int):=fun x=>ri a c (live a) (rep c x)
 let acc:Int→Bool:=fun x=>nth a.2.1 (rep c x)
 let G:Int→Prop:=fun x=> ∃r,good n (live a) r∧nth c r=x
 have Gm: ∀x,G x→x∈c∧0≤x∧good n (live a) (rep c x):=by
  rintro x ⟨r,hr,rfl⟩
  have hm:nth c r∈c:=bT hr.1 (by rw[hcl];exact hr.2.1)
  obtain ⟨h0,h1,h2⟩:=GW hm
  have hp:=hpos r hr
  refine ⟨hm,hp,h0,by omega,?_⟩
  have:=hneg (rep c (nth c r)) h0 (by omega)
  rw[h2] at this
  cases hl:nth (live a) (rep c (nth c r)) with
  | true=>rfl
  | false=>have:=this.2 hl;omega
 have hnx: ∀r,good n (live a) r→nx (nth c r)=ri a c (live a) r:=fun r hr=>by
  obtain ⟨hm,hp,hg⟩:=Gm _ ⟨r,hr,rfl⟩
  obtain ⟨h0,h1,h2⟩:=GW hm
  show ri a c (live a) (rep c (nth c r))=_
  rw[hsuccs _ hg,hsuccs _ hr]
  refine List.map_congr_left fun k hk=>?_
  rw[hent _ _ (hkey _ _ hg.1 hg.2.1 hr.1 hr.2.1 (by rw[h2];exact hp) h2) k (List.mem_range.1 hk)]
 have hac: ∀r,good n (live a) r→acc (nth c r)=nth a.2.1 r:=fun r hr=>by
  obtain ⟨hm,hp,hg⟩:=Gm _ ⟨r,hr,rfl⟩
  obtain ⟨h0,h1,h2⟩:=GW hm
  exact hacc _ _ hg.1 hg.2.1 hr.1 hr.2.1 (by rw[h2];exact hp) h2
 have hgn: ∀r,good n (live a) r→ ∀y,some y∈ri a c (live a) r→G y:=fun r hr y h=>by
  obtain ⟨k,hk,e⟩:=List.mem_map.1 h
  have hk:k<9:=List.mem_range.1 hk
  split at e
  ·rename_i hc
   exact ⟨mv a r k,⟨hc.1,(V.mv hr.1 hr.2.1 hk).2,hc.2⟩,Option.some.inj e⟩
  ·cases e
 unfold gD cK
 simp only[eD]
 rw[es,ei,Ky V hn];simp only[Option.bind_some]
 rw[aj hst.1 (by omega)];simp only[Option.bind_some]
 cases hs:nth (live a) a.1 with
 | false =>
  have:=(hneg a.1 hst.1 hst.2).2 hs
  rw[Bl V hll hs,if_pos (by simpa using this),GL]
  exact ⟨nothing,rfl,rfl,DO⟩
 | true =>
  have hst':good n (live a) a.1:=⟨hst.1,hst.2,hs⟩
  have hp:=hpos _ hst'
  have H:NumOk nx (nth c a.1) G n:=⟨⟨a.1,hst',rfl⟩,fun x hx y hy=>hgn _ (Gm x hx).2.2 y hy,fun x hx=>by simp[nx,ri],fun l hd h=>DN n l hd fun x hx=>by
   obtain ⟨r,hr,rfl⟩:=h x hx
   exact ⟨hpos r hr,hlt r hr.1 hr.2.1⟩⟩
  obtain ⟨N,hN,e1⟩:=Ov (acc:=acc) V hn hcl hll hs H hn hnx hac
  have hfirst: ∀x,G x→aD x c=some (rep c x):=fun x hx=>MY (by omega) (Gm x hx).1
  obtain ⟨N',hN',e2⟩:=Ou (most:=(c.length:Int)) (p2:=fun a0=>bF a0 (a.1,a.2.1,a.2.2) (fun a0=>aD a0 c)) (p3:=fun a0 a1=>bG a0 a1 (a.1,a.2.1,a.2.2) (fun a0=>aD a0 c) c) (acc:=acc) H hn (by omega) (fun x hx=>OF hn (Gm x hx).2.1 (by
    obtain ⟨r,hr,rfl⟩:=hx
    exact hlt r hr.1 hr.2.1)) (fun x hx=>by
   show bF x (a.1,a.2.1,a.2.2) (fun a0=>aD a0 c)=_
   unfold bF
   simp only
   rw[hfirst x hx];simp only[Option.bind_some]
   rw[V.acc (Gm x hx).2.2.1 (Gm x hx).2.2.2.1];rfl) (fun x k hx hk=>by
   obtain ⟨hm,hx0,hg⟩:=Gm x hx
   have hm':=V.mv hg.1 hg.2.1 hk
   refine ⟨0,?_⟩
   show bG x k (a.1,a.2.1,a.2.2) (fun a0=>aD a0 c) c=_
   unfold bG
   simp only
   rw[hfirst x hx];simp only[Option.bind_some]
   rw[show ba (a.1,a.2.1,a.2.2) (rep c x) k=some (mv a (rep c x) k) from Kt V hg.1 hg.2.1 hk];simp only[Option.bind_some]
   show _=some (match nth (ri a c (live a) (rep c x)) (k:Int) with | some y=>(y,true) | none=>(0,false))
   rw[Cz hk]
   by_cases h:mv a (rep c x) k<0
   ·rw[if_pos (by simpa using h),if_neg (fun h'=>by omega)]
   ·rw[if_neg (by simpa using h),aj (by omega) (by omega)];simp only[Option.bind_some]
    have hng:=hneg (mv a (rep c x) k) (by omega) hm'.2
    cases hl:nth (live a) (mv a (rep c x) k) with
    | false =>
     have:=hng.2 hl
     rw[if_pos (by simpa using this),if_neg (fun h'=>by cases h'.2)]
    | true =>
     have: ¬nth c (mv a (rep c x) k)<0:=fun h'=>by have:=hng.1 h';rw[hl] at this;cases this
     rw[if_neg (by simpa using this),if_pos ⟨by omega,rfl⟩])
  obtain rfl:=Cv hN hN'
  refine ⟨_,by rw[e1];rfl,?_,OG H hn hN⟩
  rw[if_neg (by simp;omega)]
  exact (congrArg (fun x=>Option.bind x _) e2).trans rfl
end
end D
end Go.Proofs.YtcmpdlhbliolaaaGreat
