/- FnExactIsValidEngine: for every input the law returns true and changes nothing that was there. Part 9 of 9. -/
import Derived.Test.YtilionjghdjbdaaGreatDoorEC7
import Derived.Test.YtilionjghdjbdaaGreatDoorEC0
set_option linter.unusedVariables false
set_option linter.unusedSimpArgs false
set_option linter.unnecessarySimpa false
set_option linter.unusedSectionVars false
set_option maxRecDepth 1000000
namespace Go.Proofs.YtilionjghdjbdaaGreatDoor
namespace R
open Go.Shelf
def Es:Go.Shelf.Ren:=⟨fun | 146=>171 | 221=>225 | 268=>265 | 138=>266 | 143=>267 | 195=>302 | 197=>303 | 218=>304 | 219=>305 | 260=>330 | 217=>170 | 225=>331 | 224=>332 | 267=>333 | 266=>224 | 314=>349 | n=>n,fun | 9=>9 | 31=>205 | 3=>3 | 4=>4 | 0=>0 | 105=>309 | 21=>21 | 5=>5 | 46=>295 | 119=>354 | 139=>357 | 138=>356 | 146=>358 | 51=>344 | n=>n,fun | 1=>0 | 3=>4 | 4=>5 | n=>n⟩
theorem Q9:Go.Proofs.LaysM.n146 Tryz.prog Es:= {
 mixed:=by kernel_rfl
 f138:=Tryz.func266.trans (congrArg some (by kernel_rfl))
 f143:=Tryz.func267.trans (congrArg some (by kernel_rfl))
 f146:=Tryz.func171.trans (congrArg some (by kernel_rfl))
 f195:=Tryz.func302.trans (congrArg some (by kernel_rfl))
 f197:=Tryz.func303.trans (congrArg some (by kernel_rfl))
 f217:=Tryz.func170.trans (congrArg some (by kernel_rfl))
 f218:=Tryz.func304.trans (congrArg some (by kernel_rfl))
 f219:=Tryz.func305.trans (congrArg some (by kernel_rfl))
 f221:=Tryz.func225.trans (congrArg some (by kernel_rfl))
 f224:=Tryz.func332.trans (congrArg some (by kernel_rfl))
 f225:=Tryz.func331.trans (congrArg some (by kernel_rfl))
 f260:=Tryz.func330.trans (congrArg some (by kernel_rfl))
 f266:=Tryz.func224.trans (congrArg some (by kernel_rfl))
 f267:=Tryz.func333.trans (congrArg some (by kernel_rfl))
 f268:=Tryz.func265.trans (congrArg some (by kernel_rfl))
 f314:=Tryz.func349.trans (congrArg some (by kernel_rfl))
 t0:=Tryz.underlying0
 a0:=Tryz.isAgg0
 z0:=Tryz.sizeOf0
 v0:=Tryz.zeroValue0
 t3:=Tryz.underlying3
 a3:=Tryz.isAgg3
 z3:=Tryz.sizeOf3
 v3:=Tryz.zeroValue3
 t4:=Tryz.underlying4
 a4:=Tryz.isAgg4
 z4:=Tryz.sizeOf4
 v4:=Tryz.zeroValue4
 t5:=Tryz.underlying5
 a5:=Tryz.isAgg5
 z5:=Tryz.sizeOf5
 v5:=Tryz.zeroValue5
 t9:=Tryz.underlying9
 a9:=Tryz.isAgg9
 z9:=Tryz.sizeOf9
 v9:=Tryz.zeroValue9
 t21:=Tryz.underlying21
 a21:=Tryz.isAgg21
 z21:=Tryz.sizeOf21
 v21:=Tryz.zeroValue21
 t31:=Tryz.underlying205
 a31:=Tryz.isAgg205
 z31:=Tryz.sizeOf205
 v31:=Tryz.zeroValue205
 t46:=Tryz.underlying295
 a46:=Tryz.isAgg295
 z46:=Tryz.sizeOf295
 v46:=Tryz.zeroValue295
 t51:=Tryz.underlying344
 a51:=Tryz.isAgg344
 z51:=Tryz.sizeOf344
 v51:=Tryz.zeroValue344
 t105:=Tryz.underlying309
 a105:=Tryz.isAgg309
 z105:=Tryz.sizeOf309
 v105:=Tryz.zeroValue309
 t119:=Tryz.underlying354
 a119:=Tryz.isAgg354
 z119:=Tryz.sizeOf354
 t138:=Tryz.underlying356
 a138:=Tryz.isAgg356
 z138:=Tryz.sizeOf356
 v138:=Tryz.zeroValue356
 t139:=Tryz.underlying357
 a139:=Tryz.isAgg357
 z139:=Tryz.sizeOf357
 v139:=Tryz.zeroValue357
 t146:=Tryz.underlying358
 a146:=Tryz.isAgg358
 z146:=Tryz.sizeOf358
 v146:=Tryz.zeroValue358
 g1:=by kernel_rfl
 g3:=by kernel_rfl
 g4:=by kernel_rfl
 i0:=by kernel_rfl
 i3:=by kernel_rfl
 i4:=by kernel_rfl
 i5:=by kernel_rfl
 i9:=by kernel_rfl
 i21:=by kernel_rfl
 i31:=by kernel_rfl
 i46:=by kernel_rfl
 i51:=by kernel_rfl
 i105:=by kernel_rfl
 i138:=by kernel_rfl
 i139:=by kernel_rfl
 i146:=by kernel_rfl
 m1:=by kernel_rfl
 s1_3:=fun w h=>Go.Proofs.cell_of_shapedOpen_int (zero:= #[.int .i64 0]) (t:=3) h (of_decide_eq_true (by kernel_rfl)) (by kernel_rfl) rfl (by kernel_rfl) (by kernel_rfl) Tryz.underlying3
 m3:=by kernel_rfl
 m4:=by kernel_rfl }
end R
open Go.ChangeShapes Go.WideShapes Go.ChangeAt Go.RowKit
namespace D
theorem op3:Opens Tryz.prog 3 aI:=JK Tryz.underlying3
theorem UM:Opens Tryz.prog 91 (aa 3 aI):=eT Tryz.underlying91 (by kernel_rfl) (by decide) op3
theorem Ua:Opens Tryz.prog 172 (ak aI (ak aI (ak aI aI))):=by
 refine cQ Tryz.underlying172 (by kernel_rfl) ?_
 refine bE (R:=aI) (S:=ak (aI) (ak (aI) (aI))) rfl (by kernel_rfl) op3 ?_
 refine bE (R:=aI) (S:=ak (aI) (aI)) rfl (by kernel_rfl) op3 ?_
 refine bE (R:=aI) (S:=aI) rfl (by kernel_rfl) op3 ?_
 exact fa rfl (by kernel_rfl) op3
theorem Ub:Opens Tryz.prog 177 (aa 172 (ak aI (ak aI (ak aI aI)))):=eT Tryz.underlying177 (by kernel_rfl) (by decide) Ua
theorem Uc:Opens Tryz.prog 179 (ak (aa 3 aI) (aa 172 (ak aI (ak aI (ak aI aI))))):=by
 refine cQ Tryz.underlying179 (by kernel_rfl) ?_
 refine bE (R:=aa 3 aI) (S:=aa 172 (ak aI (ak aI (ak aI aI)))) rfl (by kernel_rfl) UM ?_
 exact fa rfl (by kernel_rfl) Ub
theorem U4:Opens Tryz.prog 22 (aa 179 (ak (aa 3 aI) (aa 172 (ak aI (ak aI (ak aI aI)))))):=eT Tryz.underlying22 (by kernel_rfl) (by decide) Uc
theorem U5:Opens Tryz.prog 24 (ak aI (aa 179 (ak (aa 3 aI) (aa 172 (ak aI (ak aI (ak aI aI))))))):=by
 refine cQ Tryz.underlying24 (by kernel_rfl) ?_
 refine bE (R:=aI) (S:=aa 179 (ak (aa 3 aI) (aa 172 (ak aI (ak aI (ak aI aI)))))) rfl (by kernel_rfl) op3 ?_
 exact fa rfl (by kernel_rfl) U4
theorem op4:Opens Tryz.prog 4 lh:=G0 Tryz.underlying4
theorem Ud:Opens Tryz.prog 181 (aa 4 lh):=eT Tryz.underlying181 (by kernel_rfl) (by decide) op4
theorem Ue:Opens Tryz.prog 182 (aa 91 (aa 3 aI)):=eT Tryz.underlying182 (by kernel_rfl) (by decide) UM
theorem Uf:Opens Tryz.prog 184 (ak aI (ak (aa 4 lh) (aa 91 (aa 3 aI)))):=by
 refine cQ Tryz.underlying184 (by kernel_rfl) ?_
 refine bE (R:=aI) (S:=ak (aa 4 lh) (aa 91 (aa 3 aI))) rfl (by kernel_rfl) op3 ?_
 refine bE (R:=aa 4 lh) (S:=aa 91 (aa 3 aI)) rfl (by kernel_rfl) Ud ?_
 exact fa rfl (by kernel_rfl) Ue
theorem U6:Opens Tryz.prog 25 (aa 184 (ak aI (ak (aa 4 lh) (aa 91 (aa 3 aI))))):=eT Tryz.underlying25 (by kernel_rfl) (by decide) Uf
theorem Ug:Opens Tryz.prog 163 (ak aI (ak aI (ak aI aI))):=by
 refine cQ Tryz.underlying163 (by kernel_rfl) ?_
 refine bE (R:=aI) (S:=ak (aI) (ak (aI) (aI))) rfl (by kernel_rfl) op3 ?_
 refine bE (R:=aI) (S:=ak (aI) (aI)) rfl (by kernel_rfl) op3 ?_
 refine bE (R:=aI) (S:=aI) rfl (by kernel_rfl) op3 ?_
 exact fa rfl (by kernel_rfl) op3
theorem U7:Opens Tryz.prog 54 (aa 163 (ak aI (ak aI (ak aI aI)))):=eT Tryz.underlying54 (by kernel_rfl) (by decide) Ug
theorem U8:Opens Tryz.prog 56 (aa 163 (ak aI (ak aI (ak aI aI)))):=by
 refine cQ Tryz.underlying56 (by kernel_rfl) ?_
 exact fa rfl (by kernel_rfl) U7
theorem Uh:Opens Tryz.prog 187 (ak aI (ak (aa 163 (ak aI (ak aI (ak aI aI)))) aI)):=by
 refine cQ Tryz.underlying187 (by kernel_rfl) ?_
 refine bE (R:=aI) (S:=ak (aa 163 (ak aI (ak aI (ak aI aI)))) (aI)) rfl (by kernel_rfl) op3 ?_
 refine bE (R:=aa 163 (ak aI (ak aI (ak aI aI)))) (S:=aI) rfl (by kernel_rfl) U8 ?_
 exact fa rfl (by kernel_rfl) op3
theorem U9:Opens Tryz.prog 26 (aa 187 (ak aI (ak (aa 163 (ak aI (ak aI (ak aI aI)))) aI))):=eT Tryz.underlying26 (by kernel_rfl) (by decide) Uh
theorem Va:Opens Tryz.prog 28 (ak (aa 184 (ak aI (ak (aa 4 lh) (aa 91 (aa 3 aI))))) (aa 187 (ak aI (ak (aa 163 (ak aI (ak aI (ak aI aI)))) aI)))):=by
 refine cQ Tryz.underlying28 (by kernel_rfl) ?_
 refine bE (R:=aa 184 (ak aI (ak (aa 4 lh) (aa 91 (aa 3 aI))))) (S:=aa 187 (ak aI (ak (aa 163 (ak aI (ak aI (ak aI aI)))) aI))) rfl (by kernel_rfl) U6 ?_
 exact fa rfl (by kernel_rfl) U9
theorem Ui:Opens Tryz.prog 133 (ak aI (ak aI aI)):=by
 refine cQ Tryz.underlying133 (by kernel_rfl) ?_
 refine bE (R:=aI) (S:=ak (aI) (aI)) rfl (by kernel_rfl) op3 ?_
 refine bE (R:=aI) (S:=aI) rfl (by kernel_rfl) op3 ?_
 exact fa rfl (by kernel_rfl) op3
theorem Vc:Opens Tryz.prog 29 (aa 133 (ak aI (ak aI aI))):=eT Tryz.underlying29 (by kernel_rfl) (by decide) Ui
theorem op9:Opens Tryz.prog 9 zn:=Cu Tryz.underlying9
theorem Vd:Opens Tryz.prog 31 (ak (ak aI (aa 179 (ak (aa 3 aI) (aa 172 (ak aI (ak aI (ak aI aI))))))) (ak (ak (aa 184 (ak aI (ak (aa 4 lh) (aa 91 (aa 3 aI))))) (aa 187 (ak aI (ak (aa 163 (ak aI (ak aI (ak aI aI)))) aI)))) (ak (aa 133 (ak aI (ak aI aI))) zn))):=by
 refine cQ Tryz.underlying31 (by kernel_rfl) ?_
 refine bE (R:=ak aI (aa 179 (ak (aa 3 aI) (aa 172 (ak aI (ak aI (ak aI aI))))))) (S:=ak (ak (aa 184 (ak aI (ak (aa 4 lh) (aa 91 (aa 3 aI))))) (aa 187 (ak aI (ak (aa 163 (ak aI (ak aI (ak aI aI)))) aI)))) (ak (aa 133 (ak aI (ak aI aI))) (zn))) rfl (by kernel_rfl) U5 ?_
 refine bE (R:=ak (aa 184 (ak aI (ak (aa 4 lh) (aa 91 (aa 3 aI))))) (aa 187 (ak aI (ak (aa 163 (ak aI (ak aI (ak aI aI)))) aI)))) (S:=ak (aa 133 (ak aI (ak aI aI))) (zn)) rfl (by kernel_rfl) Va ?_
 refine bE (R:=aa 133 (ak aI (ak aI aI))) (S:=zn) rfl (by kernel_rfl) Vc ?_
 exact fa rfl (by kernel_rfl) op9
theorem Uj {W:World} {base:Nat} {z:Value} {H:Type} {enc:TypeId×Value→H} {d:DataW H} {p:List MemPlace} (hv:Value.okWide Tryz.prog W .any base 31 z) (h:DataW.Trod enc Tryz.prog W 0 (fun _=>true) true 31 z d p) :
  ∃(x:(Int×(List ((List Int)×(List (Int×Int×Int×Int)))))×((List (Int×(List Bool)×(List (List Int))))×(List (Int×((List (Int×Int×Int×Int)))×Int)))×(List (Int×Int×Int))×ByteArray) (v0:Value) (v1:Value) (v2:Value) (v3:Value),z= .agg #[.int .i64 x.1.1,v0,v1,v2,v3,.string x.2.2.2] ∧Data.lim x∧(aa 179 (ak (aa 3 aI) (aa 172 (ak aI (ak aI (ak aI aI)))))).rd (hp W) [v0] x.1.2∧(aa 184 (ak aI (ak (aa 4 lh) (aa 91 (aa 3 aI))))).rd (hp W) [v1] x.2.1.1∧(aa 187 (ak aI (ak (aa 163 (ak aI (ak aI (ak aI aI)))) aI))).rd (hp W) [v2] x.2.1.2∧(aa 133 (ak aI (ak aI aI))).rd (hp W) [v3] x.2.2.1:=by
 obtain ⟨fuel,hf⟩:=h
 obtain ⟨⟨cs⟩,rfl,-⟩:=okWide_struct Tryz.underlying31 hv
 obtain ⟨x,hx,hl⟩:=Vd.out enc W _ _ _ hf
 have hx:(ak (ak aI (aa 179 (ak (aa 3 aI) (aa 172 (ak aI (ak aI (ak aI aI))))))) (ak (ak (aa 184 (ak aI (ak (aa 4 lh) (aa 91 (aa 3 aI))))) (aa 187 (ak aI (ak (aa 163 (ak aI (ak aI (ak aI aI)))) aI)))) (ak (aa 133 (ak aI (ak aI aI))) zn))).rd (hp W) cs x:=hx
 obtain ⟨_,_,rfl,⟨_,_,rfl,rfl,r0⟩,⟨_,_,rfl,⟨_,_,rfl,r1,r2⟩,⟨_,_,rfl,r3,rfl⟩⟩⟩:=hx
 obtain ⟨v0,rfl⟩:=uY r0 rfl
 obtain ⟨v1,rfl⟩:=uY r1 rfl
 obtain ⟨v2,rfl⟩:=uY r2 rfl
 obtain ⟨v3,rfl⟩:=uY r3 rfl
 exact ⟨x,v0,v1,v2,v3,rfl,hl,r0,r1,r2,r3⟩
end D
open D (Data)
theorem tz {H:Type} {enc:TypeId×Value→H} {a:Assume} {C:Checked} {os:Os} {f:FuncId} {fn:Func} {s:ChangeSpec} {conds:List PathCond} {apart fresh handsOn again:Bool} {X:World→Array Value→Prop}
  (hX: ∀(w w':World) (args:Array Value),w.heap=w'.heap→X w args→X w' args)
  (own:ownKnob C.prog.godebug=none) (started:os.Started) (noInit:C.prog.inits.idxOf? f=none) (hfn:C.prog.funcs[f]? =some fn)
  (witness: ∃(w:World) (tape:Tape) (i:Input),w.os=os∧(w.forCall tape i).Shaped C.prog∧i.vars= [] ∧Input.okWide C.prog (w.forCall tape i) .any w.heap.size f i ∧
   ((s.pre enc C.prog fn conds apart (w.forCall tape i).memory i.args∧X (w.forCall tape i).memory i.args)∧sizedMet enc C.prog fn (OpenSpec.ofChange s) apart (w.forCall tape i).memory i.args)∧a.holds C.prog (lone (Frame.enter C.prog f i.args .normal) [] (w.forCall tape i)))
  (contract: ∀(W:World) (base:Nat) (args:Array Value) (ds gs:List (DataW H)) (before:List MemPlace),
   (∀(j:Nat) t v,fn.params[j]? =some t→args[j]? =some v→Value.okWide C.prog W .any base t v)→
   DataW.Whole enc C.prog fn.params.toList s.vars apart W args.toList ds gs before→X W args→W.ShapedOpen C.prog→
   Calls C.prog f args W fun e W'=> ∃v,e= .returned v∧s.post enc C.prog fn apart fresh handsOn again W args v W') :
  ReturnsInHanded a C os f .any (fun w args=>(s.pre enc C.prog fn conds apart w args∧X w args)∧sizedMet enc C.prog fn (OpenSpec.ofChange s) apart w args) (s.post enc C.prog fn apart fresh handsOn again):=by
 refine returnsInHanded_of_calls own started noInit witness ?_
 intro w tape i _ hsh _ hok hpre _
 obtain ⟨_,_,_,fn',hfn',_,_,_,_,hval⟩:=hok
 have e:fn'=fn:=Option.some.inj (hfn'.symm.trans hfn)
 subst e
 obtain ⟨⟨⟨ds,gs,before,hw,hc⟩,hx⟩,_⟩:=hpre
 have hw':=DataW.Whole.of_heap (w':=w.forCall tape i) (by rfl) hw
 refine (contract (w.forCall tape i) w.heap.size i.args ds gs before hval hw' (hX (w.forCall tape i).memory (w.forCall tape i) _ rfl hx) hsh).mono fun e W' ⟨v,he,hp⟩=>?_
 subst he
 exact ChangeSpec.post_blind hp
theorem OZ (u:TypeId) (h:Tryz.prog.typeName? 3 u=some "*errors.errorString"):u=362:=
 typeName_ptr_named (nm:= "errors.errorString") (by kernel_rfl) (by kernel_rfl) (by decide) u h
theorem uX {W:World} (h:laidMetH Tryz.prog Rows.fnExactIsValidEngineRow.laid W) (hsh:W.ShapedOpen Tryz.prog):D.LayW Tryz.prog W:=by
 rw[MakeChecks.laidMetH_plain _ _ _ (by kernel_rfl)] at h
 obtain ⟨a5,s5,hv5,-⟩:=laid_sentinel (g:=2) (ti:=243) (tp:=362) (te:=364) (ts:=9) (h.tail.tail.tail.tail) (by kernel_rfl) (by kernel_rfl) Tryz.underlying243 OZ Tryz.underlying362 Tryz.underlying364 rfl rfl Tryz.underlying9 (by kernel_rfl) (by kernel_rfl)
 obtain ⟨a6,s6,hv6,-⟩:=laid_sentinel (g:=1) (ti:=243) (tp:=362) (te:=364) (ts:=9) (h.tail.tail.tail.tail.tail) (by kernel_rfl) (by kernel_rfl) Tryz.underlying243 OZ Tryz.underlying362 Tryz.underlying364 rfl rfl Tryz.underlying9 (by kernel_rfl) (by kernel_rfl)
 have ht:Lib.TabIs Tryz.prog W "internal/strconv.uint64pow10" .u64 Lib.pow10Tab:=Lib.tabIs_of_head (g:=3) (by kernel_rfl) (by kernel_rfl) Tryz.underlying343 Tryz.underlying321 (by kernel_rfl) (by kernel_rfl) (h.tail.tail)
 exact ⟨⟨0,(R.Q9.s1_3 W hsh).imp fun m hm=>⟨by kernel_rfl,hm⟩⟩,ht,⟨_,_,hv6⟩,⟨_,_,hv5⟩⟩
theorem tC (W:World) (hL:laidMetH Tryz.prog Rows.fnExactIsValidEngineRow.laid W) (hsh:W.ShapedOpen Tryz.prog) (args:Array Value) (H:Type) (enc:TypeId×Value→H) (base:Nat) (ds gs:List (DataW H)) (before:List MemPlace)
  (hval: ∀(j:Nat) t v,Tryz.f3.params[j]? =some t→args[j]? =some v→Value.okWide Tryz.prog W .any base t v)
  (hW:DataW.Whole enc Tryz.prog Tryz.f3.params.toList Rows.fnExactIsValidEngineSpec.vars false W args.toList ds gs before) :
  Calls Tryz.prog 3 args W fun e W'=> ∃v,e= .returned v∧Rows.fnExactIsValidEngineSpec.post enc Tryz.prog Tryz.f3 false true false false W args v W':=by
 have hW':=hW
 obtain ⟨p,q,hA,hV,rfl,hfz,hnd⟩:=hW
 rw[Tryz.params3] at hA hval
 obtain ⟨z0,vs0,d0,ds0,p0,q0,hargs,rfl,rfl,h0,r0⟩:=trodAll_cons hA
 obtain ⟨rfl,rfl,rfl⟩:=trodAll_nil r0
 obtain rfl:args= #[z0]:=by cases args;simp_all
 obtain ⟨rfl,rfl⟩:=trodVars_none hV
 obtain ⟨x0,v0_0,v0_1,v0_2,v0_3,rfl,l0,r0_0,r0_1,r0_2,r0_3⟩:=D.Uj (hval 0 _ _ rfl rfl) h0
 have hc:=D.mM x0 true (D.uW x0 l0) (I:=D.hp W) (w0:=W) v0_0 v0_1 v0_2 v0_3 r0_0 r0_1 r0_2 r0_3 (D.Lay.of (uX hL hsh)) W [] (D.St.init W)
 refine hc.mono fun e W' ⟨v,he,hv,hs⟩=>?_
 subst he;subst hv
 exact ⟨_,rfl,NP (f:=Tryz.f3) (s:=Rows.fnExactIsValidEngineSpec) 4 Tryz.underlying4 rfl (by kernel_rfl) rfl hW' rfl rfl rfl (D.St.below hs)⟩
set_option maxRecDepth 100000 in
theorem pW (os:Os) (started:os.Started) (H:Type) (enc:TypeId×Value→H) :
  ReturnsInHanded {} Tryz.checked os 3 .any (fun w args=>(Rows.fnExactIsValidEngineSpec.pre enc Tryz.prog Tryz.f3 [] false w args∧laidMetH Tryz.prog Rows.fnExactIsValidEngineRow.laid w)∧sizedMet enc Tryz.prog Tryz.f3 (OpenSpec.ofChange Rows.fnExactIsValidEngineSpec) false w args) (Rows.fnExactIsValidEngineSpec.post enc Tryz.prog Tryz.f3 false true false false):=by
 refine tz (C:=Tryz.checked) (X:=fun w _=>laidMetH Tryz.prog Rows.fnExactIsValidEngineRow.laid w) (fun _ _ _ hh h=>h.of_heap hh) own started (by kernel_rfl) Tryz.func3
  (ChangeSpec.witness_shaped (enc:=enc) (C:=Tryz.checked) (os:=os) (X:=fun w _=>laidMetH Tryz.prog Rows.fnExactIsValidEngineRow.laid w) false (World.laidAll Tryz.prog os Rows.fnExactIsValidEngineRow.laid) #[.agg #[.int .i64 0,.slice none 0 0,.slice none 0 0,.slice none 0 0,.slice none 0 0,.string ⟨#[]⟩]] 8 (World.laidAll_os _ _ _) (World.shaped_of_ZipB (by kernel_rfl) (by kernel_rfl)) (by kernel_rfl) (by kernel_rfl) (by kernel_rfl) (by rw[MakeChecks.laidMetH_plain _ _ _ (by kernel_rfl)];exact laidMet_laidAll _ (by kernel_rfl) (by kernel_rfl))) ?_
 intro W base args ds gs before hval hW hL hsh
 exact tC W hL hsh args H enc base ds gs before hval hW
theorem q7:Rows.FnExactIsValidEngineSaid:=
 OpenClaim.holds_of_wide 3 Tryz.f3 rfl rfl rfl rfl rfl rfl rfl ⟨rfl,rfl,rfl,rfl,rfl⟩ rfl rfl rfl rfl rfl (by kernel_rfl) Tryz.func3 pT
  (of_decide_eq_true (by kernel_rfl)) (by unfold Func.isWrapper;first | (rw[if_pos (by decide +kernel)];kernel_rfl) | (rw[if_neg (by decide +kernel)];exact ⟨rfl,rfl⟩))
  (fun os started H enc _=>pW os started H enc)
theorem cardLIsValidEngine:Rows.FnExactIsValidEngineCardSaid:=
 Claim7.holds_tied_plain_at .later [] [.data,.data,.data,.data,.sentinel,.sentinel,.pinned] true (true,"cff0790423b5df951cc606f0fc8fb4ad82e67faf05c9a9573691dcb8680664a3") true
  q7 (fun _ h=>by cases h) (by kernel_rfl) (fun _ h=>by cases h) fnExactIsValidEngine_row_tie rfl ⟨rfl,rfl⟩ uz rfl
  (fun f fn hf hfn=>by
   obtain rfl:f=3:=Option.some.inj (uv.symm.trans hf) |>.symm
   obtain rfl:fn=Tryz.f3:=(Option.some.inj (Tryz.func3.symm.trans hfn)).symm
   exact ⟨uw,fun j t ht=>by
    rw[Tryz.params3] at ht
    have hm:t ∈ [31]:=by simpa using Array.mem_of_getElem? ht
    have hall:([31].all fun u=> !Tryz.prog.wantsStandIn u)=true:=by kernel_rfl
    exact (show Tryz.prog.wantsStandIn t=false by simpa using List.all_eq_true.1 hall t hm)⟩)
  uy
end Go.Proofs.YtilionjghdjbdaaGreatDoor
