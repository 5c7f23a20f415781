/- FnExactSurvivingVersion: for every input the law returns true and changes nothing that was there. Part 9 of 9. -/
import Derived.Test.YtodbpnpbhpeepaaGreatDoorESC7
import Derived.Test.YtodbpnpbhpeepaaGreatDoorESKSurvivingVersion
set_option linter.unusedVariables false
set_option linter.unusedSimpArgs false
set_option linter.unnecessarySimpa false
set_option linter.unusedSectionVars false
set_option maxRecDepth 1000000
namespace Go.Proofs.YtodbpnpbhpeepaaGreatDoor
open Go.IntKind (i64)
open Go.ChangeShapes Go.WideShapes Go.ChangeAt Go.RowKit
namespace D
theorem op3:Opens Tryz.prog 3 be:=NG Tryz.underlying3
theorem Za:Opens Tryz.prog 70 (af 3 be):=gq Tryz.underlying70 (by kernel_rfl) (by decide) op3
theorem Yt:Opens Tryz.prog 316 (aH be (aH be (aH be be))):=by
 refine dP Tryz.underlying316 (by kernel_rfl) ?_
 refine cw (R:=be) (S:=aH (be) (aH (be) (be))) rfl (by kernel_rfl) op3 ?_
 refine cw (R:=be) (S:=aH (be) (be)) rfl (by kernel_rfl) op3 ?_
 refine cw (R:=be) (S:=be) rfl (by kernel_rfl) op3 ?_
 exact gH rfl (by kernel_rfl) op3
theorem Yu:Opens Tryz.prog 217 (af 316 (aH be (aH be (aH be be)))):=gq Tryz.underlying217 (by kernel_rfl) (by decide) Yt
theorem Yv:Opens Tryz.prog 219 (aH (af 3 be) (af 316 (aH be (aH be (aH be be))))):=by
 refine dP Tryz.underlying219 (by kernel_rfl) ?_
 refine cw (R:=af 3 be) (S:=af 316 (aH be (aH be (aH be be)))) rfl (by kernel_rfl) Za ?_
 exact gH rfl (by kernel_rfl) Yu
theorem Zu:Opens Tryz.prog 45 (af 219 (aH (af 3 be) (af 316 (aH be (aH be (aH be be)))))):=gq Tryz.underlying45 (by kernel_rfl) (by decide) Yv
theorem Zv:Opens Tryz.prog 47 (aH be (af 219 (aH (af 3 be) (af 316 (aH be (aH be (aH be be))))))):=by
 refine dP Tryz.underlying47 (by kernel_rfl) ?_
 refine cw (R:=be) (S:=af 219 (aH (af 3 be) (af 316 (aH be (aH be (aH be be)))))) rfl (by kernel_rfl) op3 ?_
 exact gH rfl (by kernel_rfl) Zu
theorem op4:Opens Tryz.prog 4 nY:=Kz Tryz.underlying4
theorem Yw:Opens Tryz.prog 138 (af 4 nY):=gq Tryz.underlying138 (by kernel_rfl) (by decide) op4
theorem Yx:Opens Tryz.prog 139 (af 70 (af 3 be)):=gq Tryz.underlying139 (by kernel_rfl) (by decide) Za
theorem Yy:Opens Tryz.prog 221 (aH be (aH (af 4 nY) (af 70 (af 3 be)))):=by
 refine dP Tryz.underlying221 (by kernel_rfl) ?_
 refine cw (R:=be) (S:=aH (af 4 nY) (af 70 (af 3 be))) rfl (by kernel_rfl) op3 ?_
 refine cw (R:=af 4 nY) (S:=af 70 (af 3 be)) rfl (by kernel_rfl) Yw ?_
 exact gH rfl (by kernel_rfl) Yx
theorem Zw:Opens Tryz.prog 48 (af 221 (aH be (aH (af 4 nY) (af 70 (af 3 be))))):=gq Tryz.underlying48 (by kernel_rfl) (by decide) Yy
theorem Yz:Opens Tryz.prog 353 (aH be (aH be (aH be be))):=by
 refine dP Tryz.underlying353 (by kernel_rfl) ?_
 refine cw (R:=be) (S:=aH (be) (aH (be) (be))) rfl (by kernel_rfl) op3 ?_
 refine cw (R:=be) (S:=aH (be) (be)) rfl (by kernel_rfl) op3 ?_
 refine cw (R:=be) (S:=be) rfl (by kernel_rfl) op3 ?_
 exact gH rfl (by kernel_rfl) op3
theorem YA:Opens Tryz.prog 223 (af 353 (aH be (aH be (aH be be)))):=gq Tryz.underlying223 (by kernel_rfl) (by decide) Yz
theorem YB:Opens Tryz.prog 225 (af 353 (aH be (aH be (aH be be)))):=by
 refine dP Tryz.underlying225 (by kernel_rfl) ?_
 exact gH rfl (by kernel_rfl) YA
theorem YC:Opens Tryz.prog 227 (aH be (aH (af 353 (aH be (aH be (aH be be)))) be)):=by
 refine dP Tryz.underlying227 (by kernel_rfl) ?_
 refine cw (R:=be) (S:=aH (af 353 (aH be (aH be (aH be be)))) (be)) rfl (by kernel_rfl) op3 ?_
 refine cw (R:=af 353 (aH be (aH be (aH be be)))) (S:=be) rfl (by kernel_rfl) YB ?_
 exact gH rfl (by kernel_rfl) op3
theorem Zx:Opens Tryz.prog 49 (af 227 (aH be (aH (af 353 (aH be (aH be (aH be be)))) be))):=gq Tryz.underlying49 (by kernel_rfl) (by decide) YC
theorem Zy:Opens Tryz.prog 51 (aH (af 221 (aH be (aH (af 4 nY) (af 70 (af 3 be))))) (af 227 (aH be (aH (af 353 (aH be (aH be (aH be be)))) be)))):=by
 refine dP Tryz.underlying51 (by kernel_rfl) ?_
 refine cw (R:=af 221 (aH be (aH (af 4 nY) (af 70 (af 3 be))))) (S:=af 227 (aH be (aH (af 353 (aH be (aH be (aH be be)))) be))) rfl (by kernel_rfl) Zw ?_
 exact gH rfl (by kernel_rfl) Zx
theorem YD:Opens Tryz.prog 161 (aH be (aH be be)):=by
 refine dP Tryz.underlying161 (by kernel_rfl) ?_
 refine cw (R:=be) (S:=aH (be) (be)) rfl (by kernel_rfl) op3 ?_
 refine cw (R:=be) (S:=be) rfl (by kernel_rfl) op3 ?_
 exact gH rfl (by kernel_rfl) op3
theorem Zz:Opens Tryz.prog 52 (af 161 (aH be (aH be be))):=gq Tryz.underlying52 (by kernel_rfl) (by decide) YD
theorem op9:Opens Tryz.prog 9 CB:=FI Tryz.underlying9
theorem ZA:Opens Tryz.prog 54 (aH (aH be (af 219 (aH (af 3 be) (af 316 (aH be (aH be (aH be be))))))) (aH (aH (af 221 (aH be (aH (af 4 nY) (af 70 (af 3 be))))) (af 227 (aH be (aH (af 353 (aH be (aH be (aH be be)))) be)))) (aH (af 161 (aH be (aH be be))) CB))):=by
 refine dP Tryz.underlying54 (by kernel_rfl) ?_
 refine cw (R:=aH be (af 219 (aH (af 3 be) (af 316 (aH be (aH be (aH be be))))))) (S:=aH (aH (af 221 (aH be (aH (af 4 nY) (af 70 (af 3 be))))) (af 227 (aH be (aH (af 353 (aH be (aH be (aH be be)))) be)))) (aH (af 161 (aH be (aH be be))) (CB))) rfl (by kernel_rfl) Zv ?_
 refine cw (R:=aH (af 221 (aH be (aH (af 4 nY) (af 70 (af 3 be))))) (af 227 (aH be (aH (af 353 (aH be (aH be (aH be be)))) be)))) (S:=aH (af 161 (aH be (aH be be))) (CB)) rfl (by kernel_rfl) Zy ?_
 refine cw (R:=af 161 (aH be (aH be be))) (S:=CB) rfl (by kernel_rfl) Zz ?_
 exact gH rfl (by kernel_rfl) op9
theorem YE {W:World} {base:Nat} {z:Value} {H:Type} {enc:TypeId×Value->H} {d:DataW H} {p:List MemPlace} (hv:Value.okWide Tryz.prog W .any base 54 z) (h:DataW.Trod enc Tryz.prog W 0 (fun _=>true) true 54 z d p) :
  ∃(x:(Int×(List ((List Int)×(List (Int×Int×Int×Int)))))×((List (Int×(List Bool)×(List (List Int))))×(List (Int×((List (Int×Int×Int×Int)))×Int)))×(List (Int×Int×Int))×ByteArray) (v0:Value) (v1:Value) (v2:Value) (v3:Value),z= .agg #[.int .i64 x.1.1,v0,v1,v2,v3,.string x.2.2.2] /\Data.lim x/\(af 219 (aH (af 3 be) (af 316 (aH be (aH be (aH be be)))))).rd (hp W) [v0] x.1.2/\(af 221 (aH be (aH (af 4 nY) (af 70 (af 3 be))))).rd (hp W) [v1] x.2.1.1/\(af 227 (aH be (aH (af 353 (aH be (aH be (aH be be)))) be))).rd (hp W) [v2] x.2.1.2/\(af 161 (aH be (aH be be))).rd (hp W) [v3] x.2.2.1:=by
 obtain ⟨fuel,hf⟩:=h
 obtain ⟨⟨cs⟩,rfl,-⟩:=okWide_struct Tryz.underlying54 hv
 obtain ⟨x,hx,hl⟩:=ZA.out enc W _ _ _ hf
 have hx:(aH (aH be (af 219 (aH (af 3 be) (af 316 (aH be (aH be (aH be be))))))) (aH (aH (af 221 (aH be (aH (af 4 nY) (af 70 (af 3 be))))) (af 227 (aH be (aH (af 353 (aH be (aH be (aH be be)))) be)))) (aH (af 161 (aH be (aH be be))) CB))).rd (hp W) cs x:=hx
 obtain ⟨_,_,rfl,⟨_,_,rfl,rfl,r0⟩,⟨_,_,rfl,⟨_,_,rfl,r1,r2⟩,⟨_,_,rfl,r3,rfl⟩⟩⟩:=hx
 obtain ⟨v0,rfl⟩:=yp r0 rfl
 obtain ⟨v1,rfl⟩:=yp r1 rfl
 obtain ⟨v2,rfl⟩:=yp r2 rfl
 obtain ⟨v3,rfl⟩:=yp r3 rfl
 exact ⟨x,v0,v1,v2,v3,rfl,hl,r0,r1,r2,r3⟩
theorem ZB {W:World} {base:Nat} {z:Value} {H:Type} {enc:TypeId×Value->H} {d:DataW H} {p:List MemPlace} (hv:Value.okWide Tryz.prog W .any base 9 z) (h:DataW.Trod enc Tryz.prog W 0 (fun _=>true) true 9 z d p) :
  ∃(x:ByteArray),z= .string x/\Data.lim x:=by
 obtain ⟨fuel,hf⟩:=h
 obtain ⟨n,rfl⟩:=okWide_string Tryz.underlying9 hv
 obtain ⟨x,hx,hl⟩:=op9.out enc W _ _ _ hf
 exact ⟨x,(List.cons.inj (show [_] = [_] from hx)).1,hl⟩
end D
open D (Data)
theorem xb {H:Type} {enc:TypeId×Value->H} {a:Assume} {C:Checked} {os:Os} {f:FuncId} {fn:Func} {s:ChangeSpec} {conds:List PathCond} {apart fresh handsOn again:Bool} {X:World->Array Value->Prop}
  (hX: ∀(w w':World) (args:Array Value),w.heap=w'.heap->X w args->X w' args)
  (own:ownKnob C.prog.godebug=none) (started:os.Started) (noInit:C.prog.inits.idxOf? f=none) (hfn:C.prog.funcs[f]? =some fn)
  (witness: ∃(w:World) (tape:Tape) (i:Input),w.os=os/\(w.forCall tape i).Shaped C.prog/\i.vars= [] /\Input.okWide C.prog (w.forCall tape i) .any w.heap.size f i /\
   ((s.pre enc C.prog fn conds apart (w.forCall tape i).memory i.args/\X (w.forCall tape i).memory i.args)/\sizedMet enc C.prog fn (OpenSpec.ofChange s) apart (w.forCall tape i).memory i.args)/\a.holds C.prog (lone (Frame.enter C.prog f i.args .normal) [] (w.forCall tape i)))
  (contract: ∀(W:World) (base:Nat) (args:Array Value) (ds gs:List (DataW H)) (before:List MemPlace),
   (∀(j:Nat) t v,fn.params[j]? =some t->args[j]? =some v->Value.okWide C.prog W .any base t v)->
   DataW.Whole enc C.prog fn.params.toList s.vars apart W args.toList ds gs before->X W args->W.ShapedOpen C.prog->
   Calls C.prog f args W fun e W'=> ∃v,e= .returned v/\s.post enc C.prog fn apart fresh handsOn again W args v W') :
  ReturnsInHanded a C os f .any (fun w args=>(s.pre enc C.prog fn conds apart w args/\X w args)/\sizedMet enc C.prog fn (OpenSpec.ofChange s) apart w args) (s.post enc C.prog fn apart fresh handsOn again):=by
 refine returnsInHanded_of_calls own started noInit witness ?_
 intro w tape i _ hsh _ hok hpre _
 obtain ⟨_,_,_,fn',hfn',_,_,_,_,hval⟩:=hok
 have e:fn'=fn:=ae (hfn'.symm.trans hfn)
 subst e
 obtain ⟨⟨⟨ds,gs,before,hw,hc⟩,hx⟩,_⟩:=hpre
 have hw':=DataW.Whole.of_heap (w':=w.forCall tape i) (by rfl) hw
 refine (contract (w.forCall tape i) w.heap.size i.args ds gs before hval hw' (hX (w.forCall tape i).memory (w.forCall tape i) _ rfl hx) hsh).mono fun e W' ⟨v,he,hp⟩=>?_
 subst he
 exact ChangeSpec.post_blind hp
theorem SM (u:TypeId) (h:Tryz.prog.typeName? 3 u=some "*errors.errorString"):u=407:=
 typeName_ptr_named (nm:= "errors.errorString") (by kernel_rfl) (by kernel_rfl) (by decide) u h
theorem uM {W:World} (h:laidMetH Tryz.prog Rows.fnExactSurvivingVersionRow.laid W) (hsh:W.ShapedOpen Tryz.prog):D.LayW Tryz.prog W:=by
 rw[MakeChecks.laidMetH_plain _ _ _ (by kernel_rfl)] at h
 obtain ⟨a5,s5,hv5,-⟩:=laid_sentinel (g:=2) (ti:=264) (tp:=407) (te:=409) (ts:=9) (h.tail.tail.tail.tail) (by kernel_rfl) (by kernel_rfl) Tryz.underlying264 SM Tryz.underlying407 Tryz.underlying409 rfl rfl Tryz.underlying9 (by kernel_rfl) (by kernel_rfl)
 obtain ⟨a6,s6,hv6,-⟩:=laid_sentinel (g:=1) (ti:=264) (tp:=407) (te:=409) (ts:=9) (h.tail.tail.tail.tail.tail) (by kernel_rfl) (by kernel_rfl) Tryz.underlying264 SM Tryz.underlying407 Tryz.underlying409 rfl rfl Tryz.underlying9 (by kernel_rfl) (by kernel_rfl)
 have ht:Lib.TabIs Tryz.prog W "internal/strconv.uint64pow10" .u64 Lib.pow10Tab:=Lib.tabIs_of_head (g:=3) (by kernel_rfl) (by kernel_rfl) Tryz.underlying390 Tryz.underlying363 (by kernel_rfl) (by kernel_rfl) (h.tail.tail)
 exact ⟨⟨0,(R.Vo.s1_3 W hsh).imp fun m hm=>⟨by kernel_rfl,hm⟩⟩,ht,⟨_,_,hv6⟩,⟨_,_,hv5⟩⟩
theorem tg (W:World) (hL:laidMetH Tryz.prog Rows.fnExactSurvivingVersionRow.laid W) (hsh:W.ShapedOpen Tryz.prog) (args:Array Value) (H:Type) (enc:TypeId×Value->H) (base:Nat) (ds gs:List (DataW H)) (before:List MemPlace)
  (hval: ∀(j:Nat) t v,Tryz.f4.params[j]? =some t->args[j]? =some v->Value.okWide Tryz.prog W .any base t v)
  (hW:DataW.Whole enc Tryz.prog Tryz.f4.params.toList Rows.fnExactSurvivingVersionSpec.vars false W args.toList ds gs before) :
  Calls Tryz.prog 4 args W fun e W'=> ∃v,e= .returned v/\Rows.fnExactSurvivingVersionSpec.post enc Tryz.prog Tryz.f4 false true false false W args v W':=by
 have hW':=hW
 obtain ⟨p,q,hA,hV,rfl,hfz,hnd⟩:=hW
 rw[Tryz.params4] at hA hval
 obtain ⟨z0,vs0,d0,ds0,p0,q0,hargs,rfl,rfl,h0,r0⟩:=trodAll_cons hA
 obtain ⟨z1,vs1,d1,ds1,p1,q1,rfl,rfl,rfl,h1,r1⟩:=trodAll_cons r0
 obtain ⟨rfl,rfl,rfl⟩:=trodAll_nil r1
 obtain rfl:args= #[z0,z1]:=by cases args;simp_all
 obtain ⟨rfl,rfl⟩:=trodVars_none hV
 obtain ⟨x0,v0_0,v0_1,v0_2,v0_3,rfl,l0,r0_0,r0_1,r0_2,r0_3⟩:=D.YE (hval 0 _ _ rfl rfl) h0
 obtain ⟨x1,rfl,l1⟩:=D.ZB (hval 1 _ _ rfl rfl) h1
 have hc:=D.nQ x0 x1 true (D.uL x0 x1 l0 l1) (I:=D.hp W) (w0:=W) v0_0 v0_1 v0_2 v0_3 r0_0 r0_1 r0_2 r0_3 (D.Lay.of (uM hL hsh)) W [] (D.St.init W)
 refine hc.mono fun e W' ⟨v,he,hv,hs⟩=>?_
 subst he;subst hv
 exact ⟨_,rfl,Rr (f:=Tryz.f4) (s:=Rows.fnExactSurvivingVersionSpec) 4 Tryz.underlying4 rfl (by kernel_rfl) rfl hW' rfl rfl rfl (D.St.below hs)⟩
set_option maxRecDepth 100000 in
theorem qn (os:Os) (started:os.Started) (H:Type) (enc:TypeId×Value->H) :
  ReturnsInHanded {} Tryz.checked os 4 .any (fun w args=>(Rows.fnExactSurvivingVersionSpec.pre enc Tryz.prog Tryz.f4 [] false w args/\laidMetH Tryz.prog Rows.fnExactSurvivingVersionRow.laid w)/\sizedMet enc Tryz.prog Tryz.f4 (OpenSpec.ofChange Rows.fnExactSurvivingVersionSpec) false w args) (Rows.fnExactSurvivingVersionSpec.post enc Tryz.prog Tryz.f4 false true false false):=by
 refine xb (C:=Tryz.checked) (X:=fun w _=>laidMetH Tryz.prog Rows.fnExactSurvivingVersionRow.laid w) (fun _ _ _ hh h=>h.of_heap hh) own started (by kernel_rfl) Tryz.func4
  (ChangeSpec.witness_shaped (enc:=enc) (C:=Tryz.checked) (os:=os) (X:=fun w _=>laidMetH Tryz.prog Rows.fnExactSurvivingVersionRow.laid w) false (World.laidAll Tryz.prog os Rows.fnExactSurvivingVersionRow.laid) #[.agg #[.int .i64 0,.slice none 0 0,.slice none 0 0,.slice none 0 0,.slice none 0 0,.string ⟨#[]⟩],.string ⟨#[]⟩] 8 (World.laidAll_os _ _ _) (World.shaped_of_ZipB (by kernel_rfl) (by kernel_rfl)) (by kernel_rfl) (by kernel_rfl) (by kernel_rfl) (by rw[MakeChecks.laidMetH_plain _ _ _ (by kernel_rfl)];exact laidMet_laidAll _ (by kernel_rfl) (by kernel_rfl))) ?_
 intro W base args ds gs before hval hW hL hsh
 exact tg W hL hsh args H enc base ds gs before hval hW
theorem qY:Rows.FnExactSurvivingVersionSaid:=
 OpenClaim.holds_of_wide 4 Tryz.f4 rfl rfl rfl rfl rfl rfl rfl ⟨rfl,rfl,rfl,rfl,rfl⟩ rfl rfl rfl rfl rfl (by kernel_rfl) Tryz.func4 closedLSurvivingVersion
  (of_decide_eq_true (by kernel_rfl)) (by unfold Func.isWrapper;first | (rw[if_pos (by decide +kernel)];kernel_rfl) | (rw[if_neg (by decide +kernel)];exact ⟨rfl,rfl⟩))
  (fun os started H enc _=>qn os started H enc)
theorem cardLSurvivingVersion:Rows.FnExactSurvivingVersionCardSaid:=
 Claim7.holds_tied_plain_at .later [] [.data,.data,.data,.data,.sentinel,.sentinel,.pinned] true (true,"3c499cde14a55990d2571a198b88511f35a3bcefb865e8a21ba7b894b258559b") true
  qY (fun _ h=>by cases h) (by kernel_rfl) (fun _ h=>by cases h) fnExactSurvivingVersion_row_tie rfl ⟨rfl,rfl⟩ kf4SurvivingVersion rfl
  (fun f fn hf hfn=>by
   obtain rfl:f=4:=ae (kf1SurvivingVersion.symm.trans hf) |>.symm
   obtain rfl:fn=Tryz.f4:=(ae (Tryz.func4.symm.trans hfn)).symm
   exact ⟨kf2SurvivingVersion,fun j t ht=>by
    rw[Tryz.params4] at ht
    have hm:t ∈ [54,9]:=by simpa using Array.mem_of_getElem? ht
    have hall:([54,9].all fun u=> !Tryz.prog.wantsStandIn u)=true:=by kernel_rfl
    exact (show Tryz.prog.wantsStandIn t=false by simpa using List.all_eq_true.1 hall t hm)⟩)
  kf3SurvivingVersion
end Go.Proofs.YtodbpnpbhpeepaaGreatDoor
