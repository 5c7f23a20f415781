/- FnDeterminism: for every input the law returns true and changes nothing that was there. Part 7 of 7. -/
import Derived.Test.YtobnepmpjgmpoaaGreatDC5
set_option linter.unusedVariables false
set_option linter.unusedSimpArgs false
set_option linter.unnecessarySimpa false
set_option linter.unusedSectionVars false
set_option maxRecDepth 1000000
namespace Go.Proofs.YtobnepmpjgmpoaaGreat
open Go.IntKind (i64)
set_option synthInstance.maxSize 20000
set_option synthInstance.maxHeartbeats 2000000
namespace D
open Go.RowKit
theorem v7 {a:AutT} (hs:Data.sm a):bj a a=some true:=by
 have h:=zI a a hs
 rw[h];simp
theorem Ih {a:AutT} (hs:Data.sm a): ∃r,g9 a=some r/\gZ a=some r/\Data.sm r/\ ∃b,aC a=some b/\(b=false->r=(0,[],[]))/\(b=true->a.2.1.length<=12/\VA a a.2.1.length/\VA r r.2.1.length/\r.2.1.length<=a.2.1.length/\L8 a a.2.1.length r):=by
 obtain ⟨b,e1,e2,k⟩:=sG a hs
 unfold g9 gZ
 simp only[mW]
 rw[e1,e2];simp only[ae]
 cases b with
 | false=>exact ⟨(0,[],[]),rfl,rfl,⟨trivial,⟨by decide,fun _ h=>by cases h⟩,by decide,fun _ h=>by cases h⟩,false,rfl,fun _=>rfl,fun h=>by cases h⟩
 | true =>
  obtain ⟨h12,V⟩:=k rfl
  obtain ⟨r,es,ei,hr,hv,hle,hf⟩:=uz V (by omega)
  rw[if_pos rfl,if_pos rfl,es,ei]
  exact ⟨r,rfl,rfl,hr,true,rfl,fun h=>(by cases h),fun _=>⟨h12,V,hv,hle,hf⟩⟩
theorem LR {xs:List Int} (hl:xs.length<=1048576): ∃r:AutT,cd xs=some r/\Data.sm r:=by
 unfold cd
 obtain ⟨r0,e0,k0⟩:=LB hl
 rw[e0];simp only[ae]
 obtain ⟨r1,e1,h1,k1⟩:=Nz (h:=r0.2) hl k0
 rw[e1]
 exact ⟨_,rfl,h1⟩
theorem A7 {a r:AutT} (h: ∀w:List Nat,(∀k∈w,k<9)->acw r w=acw a w) (w:List Int):FE r w=FE a w:=by
 unfold FE
 cases hL:cV w with
 | false=>rfl
 | true=>rw[h _ (sH hL)]
theorem RunEnd.one {a:AutT} {n:Nat} {w:List Int} {r t:Int} (h:RunEnd a n w r) (k:RunEnd a n w t):r=t:=by
 rcases h with ⟨h0,h1,h2,h3⟩ | ⟨h0,h1⟩
 ·rcases k with ⟨-,-,-,k3⟩ | ⟨k0,k1⟩
  ·rw[h3,k3]
  ·have:=k1 h2
   omega
 ·rcases k with ⟨k0,k1,k2,k3⟩ | ⟨k0,k1⟩
  ·have:=h1 k2
   omega
  ·rw[h0,k0]
theorem Ii {a:AutT} (hs:Data.sm a) {w:List Int} (hw:w.length<=1000000): ∃x,eL a w=some x/\eO a w=some x:=by
 obtain ⟨b,e1,e2,k⟩:=sG a hs
 cases b with
 | false =>
  unfold eL eO
  simp only[mW]
  rw[e1,e2]
  exact ⟨_,rfl,rfl⟩
 | true =>
  obtain ⟨-,V⟩:=k rfl
  obtain ⟨r,f1,g1⟩:=Jl V e1 hw
  obtain ⟨t,f2,g2⟩:=Jm V e2 hw
  obtain rfl:=g1.one g2
  exact ⟨_,f2,f1⟩
theorem Fw {xs:List Int} (hl:xs.length<=1048576) {w:List Int} (hw:w.length<=5):((cd xs).bind fun r14=>(dy (r14.1,r14.2.1,r14.2.2)).bind fun r15=>(gZ (r14.1,r14.2.1,r14.2.2)).bind fun r16=>sY (S:=Unit) ((dA (r14.1,r14.2.1,r14.2.2)).bind fun r23=>(bj (r15.1,r15.2.1,r15.2.2) (r23.1,r23.2.1,r23.2.2)).bind fun r24=>if r24 then ((g9 (r14.1,r14.2.1,r14.2.2)).bind fun r25=>(bj (r16.1,r16.2.1,r16.2.2) (r25.1,r25.2.1,r25.2.2)).bind fun r26=>if r26 then ((eL (r14.1,r14.2.1,r14.2.2) w).bind fun r27=>(eO (r14.1,r14.2.1,r14.2.2) w).bind fun r28=>if r27 !=r28 then (some (.inl false)) else (some (.inr ()))) else (some (.inl false))) else (some (.inl false))) (fun s3=>(aC (r14.1,r14.2.1,r14.2.2)).bind fun r29=>if r29 then ((bH (r15.1,r15.2.1,r15.2.2) w).bind fun r30=>(cP (r14.1,r14.2.1,r14.2.2) w).bind fun r31=>if r30==r31 then ((bH (r16.1,r16.2.1,r16.2.2) w).bind fun r32=>(cP (r14.1,r14.2.1,r14.2.2) w).bind fun r33=>if r32==r33 then (if decide ((r16.2.1.length:Int)<=(r15.2.1.length:Int)) then ((gy (r16.1,r16.2.1,r16.2.2)).bind fun r34=>if r34 then ((dE (r14.1,r14.2.1,r14.2.2) (r16.1,r16.2.1,r16.2.2)).bind fun r35=>if r35 then ((dS (r14.1,r14.2.1,r14.2.2)).bind fun r36=>some (decide ((r36.length:Int)<=(r14.2.1.length:Int)))) else (some false)) else (some false)) else (some false)) else (some false)) else (some false)) else (if (r15.2.1.length:Int)==0 then (some ((r16.2.1.length:Int)==0)) else (some false))))=some true:=by
 obtain ⟨c,e1,sc⟩:=LR hl
 rw[e1];simp only[ae,mW]
 obtain ⟨t,t1,t2,st,b,v1,tf,tt⟩:=LI c sc
 obtain ⟨m,m1,m2,sm,b',v2,mf,mt⟩:=Ih sc
 rw[v1] at v2
 obtain rfl:=aa v2
 have nf: ∀p:Int,(p !=p)=false:=fun p=>by simp
 rw[t1,t2,m1,m2];simp only[ae]
 rw[v7 st,v7 sm];simp only[ae,if_true]
 obtain ⟨x,x1,x2⟩:=Ii sc (w:=w) (by omega)
 rw[x1,x2];simp only[ae]
 rw[nf,if_neg (by simp)];simp only[sY]
 rw[v1];simp only[ae]
 cases b with
 | false =>
  rw[tf rfl,mf rfl];rfl
 | true =>
  obtain ⟨h12,V,Vm,hle,hf⟩:=mt rfl
  have ht:=tt rfl
  have hlen:=LP V hf ht
  obtain ⟨bt,u1,u2,kt⟩:=mO t st
  obtain ⟨bm,w1,w2,km⟩:=mO m sm
  have htV:t.2.1.length<=12/\VA t t.2.1.length:=by
   rcases ht with ⟨-,rfl⟩ | ⟨-,N,H,hv,hN⟩
   ·exact ⟨by decide,pP⟩
   ·refine ⟨?_,hv⟩
    have:=H.E.1
    rw[H.accs,List.length_map];omega
  obtain rfl:bt=true:=kt.2 htV
  obtain rfl:bm=true:=km.2 ⟨by omega,Vm⟩
  have a1:=Fe (w:=w) htV.2 u2 (by omega)
  have a2:=Nu (w:=w) V v1 (by omega)
  have a3:=Fe (w:=w) Vm w2 (by omega)
  rw[A7 (fun w hw=>Ic V ht hw) w] at a1
  rw[A7 (fun w hw=>sS V hf hw) w] at a3
  obtain ⟨m',-,f2,sm',-,-,hf'⟩:=uz Vm (by omega)
  have hmm:m'=m:=Ie Vm V hf' hf fun w hw=>sS Vm hf' hw
  subst hmm
  have e5:gy m'=some true:=by
   unfold gy
   simp only[mW]
   rw[w2];simp only[ae,if_true]
   rw[f2];simp only[ae]
   rw[zJ m' m' sm,decide_eq_true rfl];rfl
  have e6:=LQ V Vm h12 (by omega) v1 w1 fun w hw=>(sS V hf hw).symm
  obtain ⟨U,e7,lU⟩:=OG V h12 sc
  rw[a1,a2,a3];simp only[if_true,ae,beq_self_eq_true]
  rw[if_pos (decide_eq_true (by omega)),e5];simp only[if_true,ae]
  rw[e6];simp only[if_true,ae]
  rw[e7];simp only[ae]
  rw[decide_eq_true (by omega)]
theorem qq (xs:List Int) (hx:Data.lim xs):fb xs=some true:=by
 unfold fb zg
 simp only[ae]
 by_cases c:(xs.length:Int)>1048576
 ·rw[if_pos (by simpa using c)]
 rw[if_neg (by simpa using c)]
 have hl:xs.length<=1048576:=by omega
 have nf: ∀p:Bool,(p !=p)=false:=fun p=>by cases p <;> rfl
 obtain ⟨p,e1,hp⟩:=NB hl
 rw[e1];simp only[ae,mW]
 obtain ⟨r,s1,i1,sr,kr⟩:=H4 hp
 rw[s1,i1];simp only[ae]
 rw[nf,if_neg (by simp),v7 sr];simp only[ae,if_true,sY]
 obtain ⟨⟨q,w⟩,e2,-,hw⟩:=Fp hl
 have hw:w.length<=5:=hw
 rw[e2];simp only[ae]
 cases hr:r.2 with
 | false=>rw[if_neg (by simp)];simp only[];exact Fw hl hw
 | true =>
  rw[if_pos rfl,A3 (by omega)];simp only[ae]
  cases hL:cV w with
  | false=>rw[if_neg (by simp)];simp only[];exact Fw hl hw
  | true =>
   obtain ⟨vp,hpl,h20,V,h12,N,H⟩:=kr hr
   obtain ⟨bv,u1,u2,k⟩:=mO r.1 sr
   obtain rfl:bv=true:=k.2 ⟨h12,V⟩
   have ea:bH r.1 w=some (gN p (AX p 1 (tq w))):=by
    rw[Fe V u2 (by omega)]
    unfold FE
    rw[hL,Lw H (sH hL)];rfl
   rw[if_pos rfl,ea,LH vp hpl h20 (by omega) hL];simp only[ae]
   rw[nf,if_neg (by simp)]
   simp only[]
   exact Fw hl hw
end D
open Go.ChangeShapes Go.WideShapes Go.ChangeAt Go.RowKit
namespace D
theorem op5:Opens Tryz.prog 5 rU8:=HJ Tryz.underlying5
theorem Pd:Opens Tryz.prog 22 (aq 5 rU8):=zp Tryz.underlying22 (by kernel_rfl) (by decide) op5
theorem OH {W:World} {base:Nat} {z:Value} {H:Type} {enc:TypeId×Value->H} {d:DataW H} {p:List MemPlace} (hv:Value.okWide Tryz.prog W .any base 22 z) (h:DataW.Trod enc Tryz.prog W 0 (fun _=>true) true 22 z d p) :
  ∃(x:List Int) (v0:Value),z=v0/\Data.lim x/\(aq 5 rU8).rd (hp W) [v0] x:=by
 obtain ⟨fuel,hf⟩:=h
 obtain ⟨a,l,c,rfl⟩:=okWide_slice Tryz.underlying22 hv
 obtain ⟨x,hx,hl⟩:=Pd.out enc W _ _ _ hf
 exact ⟨x,_,rfl,hl,hx⟩
end D
open D (Data)
theorem pT (W:World) (args:Array Value) (H:Type) (enc:TypeId×Value->H) (base:Nat) (ds gs:List (DataW H)) (before:List MemPlace)
  (hval: ∀(j:Nat) t v,Tryz.f3.params[j]? =some t->args[j]? =some v->Value.okWide Tryz.prog W .any base t v)
  (hW:DataW.Whole enc Tryz.prog Tryz.f3.params.toList Rows.fnDeterminismSpec.vars false W args.toList ds gs before) :
  Calls Tryz.prog 3 args W fun e W'=> ∃v,e= .returned v/\Rows.fnDeterminismSpec.post enc Tryz.prog Tryz.f3 false true false false W args v W':=by
 have hW':=hW
 obtain ⟨p,q,hA,hV,rfl,hfz,hnd⟩:=hW
 rw[Tryz.params3] at hA hval
 obtain ⟨z0,vs0,d0,ds0,p0,q0,hargs,rfl,rfl,h0,r0⟩:=trodAll_cons hA
 obtain ⟨rfl,rfl,rfl⟩:=trodAll_nil r0
 obtain rfl:args= #[z0]:=by cases args;simp_all
 obtain ⟨rfl,rfl⟩:=trodVars_none hV
 obtain ⟨x0,v0_0,rfl,l0,r0_0⟩:=D.OH (hval 0 _ _ rfl rfl) h0
 have hc:=D.pN x0 true (D.qq x0 l0) (I:=D.hp W) (w0:=W) z0 r0_0 D.Lay.all W [] (D.St.init W)
 refine hc.mono fun e W' ⟨v,he,hv,hs⟩=>?_
 subst he;subst hv
 exact ⟨_,rfl,If (f:=Tryz.f3) (s:=Rows.fnDeterminismSpec) 4 Tryz.underlying4 rfl (by kernel_rfl) rfl hW' rfl rfl rfl (D.St.below hs)⟩
theorem mX (os:Os) (started:os.Started) (H:Type) (enc:TypeId×Value->H) :
  ReturnsInHanded {} Tryz.checked os 3 .any (Rows.fnDeterminismSpec.pre6 enc Tryz.prog Tryz.f3 Rows.fnDeterminismRow.domain false) (Rows.fnDeterminismSpec.post enc Tryz.prog Tryz.f3 false true false false):=by
 refine returnsInHanded_of_change_sized (C:=Tryz.checked) own started (by kernel_rfl) Tryz.func3
  (ChangeSpec.witness6 (enc:=enc) (C:=Tryz.checked) false ⟨#[],#[.slice none 0 0],[]⟩ 8 (by kernel_rfl) (by kernel_rfl) (by kernel_rfl) (by kernel_rfl)) ?_
 intro W base args ds gs before hval hW hcnd hsz _
 exact pT W args H enc base ds gs before hval hW
set_option maxHeartbeats 4000000 in
theorem mY:joinedFacts Tryz.pinned.checked.prog 3 Tryz.f3 Rows.fnDeterminismSpec Rows.fnDeterminismRow=true:=by
 unfold joinedFacts
 repeat' (with_reducible refine Bool.and_eq_true_iff.2 ⟨?_,?_⟩)
 all_goals as_aux_lemma=>kernel_rfl
theorem holdsLFnDeterminism:Rows.FnDeterminismSaid:=
 OpenClaim.holds_of_wide 3 Tryz.f3 rfl rfl rfl rfl rfl rfl rfl ⟨rfl,rfl,rfl,rfl,rfl⟩ rfl rfl rfl rfl rfl (by kernel_rfl) Tryz.func3 mY
  (of_decide_eq_true (by kernel_rfl)) (by unfold Func.isWrapper;first | (rw[if_pos (by decide +kernel)];kernel_rfl) | (rw[if_neg (by decide +kernel)];exact ⟨rfl,rfl⟩))
  (fun os started H enc _=>mX os started H enc)
end Go.Proofs.YtobnepmpjgmpoaaGreat
