/- FnExactAuditMessages: for every input the law returns true and changes nothing that was there. Part 5 of 8. -/
import Derived.Test.YtakjhbbbjbebdaaGreatGC3
set_option linter.unusedVariables false
set_option linter.unusedSimpArgs false
set_option linter.unnecessarySimpa false
set_option linter.unusedSectionVars false
set_option maxRecDepth 1000000
namespace Go.Proofs.YtakjhbbbjbebdaaGreat
namespace R
open Go.RowKit Go.Shelf Go.Sort
open D
abbrev PT:Ty:=.prod (.int .i64) (.int .i64)
def xH (x:Int×Int):List Value:=[.int .i64 x.1,.int .i64 x.2]
theorem Jq (x:Int×Int):(xH x).length=2:=rfl
theorem QG (x:Int×Int): ∀v∈xH x,v.oneCell'=true:=by
 intro v hv
 simp only[xH,List.mem_cons,List.not_mem_nil,or_false] at hv
 rcases hv with rfl | rfl <;> rfl
def KD (cf:Int×Int→Int×Int→Int) (xs:List (Int×Int)):List (Int×Int):=xs.mergeSort fun x y=> !(ltOf cf) y x
def QH (cf:Int×Int→Int×Int→Int) (xs:List (Int×Int)):Option (List (Int×Int)):=(chk (xs.length<4611686018427387904)).bind fun _=>some (KD cf xs)
theorem Fp (cf:Int×Int→Int×Int→Int) (xs:List (Int×Int)):(KD cf xs).length=xs.length:=List.length_mergeSort _
theorem St.grown {I:Hp} {w0 w:World} {cs:List Ch} (h:St I w0 w cs) (os:Array Obj):St I w0 (grow w os) cs:=by
 refine St.step (w:=w) (c:=[]) (c':=[]) h rfl rfl rfl (by simp[grow]) ?_
 rintro F rfl - -
 exact ⟨fun b hb _=>heap_grow_old w os hb,[],rfl,List.nodup_nil,by simp⟩
theorem Nv (d:Array (Int×Int)) {i j:Nat} {z:Int×Int} (h:d.toList[i]? =some z) (hj:j<2):(flatK xH 2 d)[i*2+j]? =(xH z)[j]? :=by
 have hi:i<d.size:=by
  rcases Nat.lt_or_ge i d.size with c | c
  ·exact c
  ·rw[List.getElem?_eq_none (by simpa using c)] at h;cases h
 have hlt:i*2+j<d.size*2:=by omega
 have hb:=get_flatK xH 2 d (i*2+j) hlt
 have hs:i*2+j<(flatK xH 2 d).size:=by rw[size_flatK];exact hlt
 rw[getElem!_pos (flatK xH 2 d) _ hs] at hb
 rw[Array.getElem?_eq_getElem hs,hb,show (i*2+j) / 2=i from by omega,show (i*2+j) % 2=j from by omega]
 have hz:d[i]! =z:=by
  rw[getElem!_pos d _ hi]
  rw[List.getElem?_eq_getElem (by simpa using hi)] at h
  simpa using Option.some.inj h
 rw[hz,getElem!_pos (xH z) _ (by rw[Jq];exact hj),List.getElem?_eq_getElem]
theorem Up {I:Hp} {c:List Value} {x:Int×Int} (h:PT.rep.rd I c x):c=xH x:=by
 obtain ⟨c1,c2,rfl,h1,h2⟩:=h
 obtain rfl:c1= [_]:=h1
 obtain rfl:c2= [_]:=h2
 rfl
theorem Uq {I:Hp} (x:Int×Int):PT.rep.rd I (xH x) x:=⟨[_],[_],rfl,rfl,rfl⟩
theorem Nw {P:Program} {ρ:Ren} (L:SlLaysF0.n6 P ρ) (aE: ∀w,(isAgg (ρ.t 24)).run P w= .ok true w) (zE: ∀w,(Go.sizeOf (ρ.t 24)).run P w= .ok 2 w) {cf:Int×Int→Int×Int→Int} (hO:SWO (ltOf cf)) (hT: ∀x y,(ltOf cf) x y=false→(ltOf cf) y x=false→x=y) {g:FuncId} (eg:Enters P g) (hcmp: ∀blk off size w,CmpLays P g #[] xH 2 cf blk off size w) (en:Enters P (ρ.f 6)) (E:TypeId) :
  FOk P (ρ.f 6) ⟨[.ow (.sl E PT),.fk g],[],fun xs _=>QH cf xs,none⟩:=by
 refine ⟨fun q hq=>(by cases hq),fun _=>en,fun w0 J vs d r ha A7=>?_⟩
 obtain ⟨v,vs1,rfl,hd,v2,vs2,rfl,rfl,hnil⟩:=ha
 obtain rfl:vs2= []:=hnil
 obtain ⟨xs0,u1,un⟩:=d
 let xs:List (Int×Int):=xs0
 let zs:List (Int×Int):=r
 have A7:QH cf xs=some zs:=A7
 obtain ⟨u1,hc,hz⟩:=Option.bind_eq_some_iff.1 A7
 have hc:=bx hc
 have hz:=Option.some.inj hz
 intro w C hst
 have hst:St J w0 w (Ch.own (ae E PT.rep) [v] xs::C):=hst
 clear A7
 rename_i happ0
 clear happ0 hd
 clear_value xs
 have hfin: ∀ {e:Ending} {w':World},(∃W,e= .returned (.tuple #[])∧w'=W∧St J w0 W (Ch.own (ae E PT.rep) [v] zs::C))→ ∃v':Value,e= .returned v'∧(∃vs:Array Value,v'= .tuple vs∧vs.size=0∧ ∀(i:Nat) (t:Ty),([] :List Ty)[i]? =some t→mT (vs.getD i undef)=t.isProd)∧St J w0 w' (Ch.own (ae E PT.rep) [v] zs::C):=by
  rintro e w' ⟨W,rfl,rfl,h⟩
  exact ⟨_,rfl,⟨#[],rfl,rfl,fun i t h=>(by simp at h)⟩,h⟩
 have hcase:(v= .slice none 0 0∧xs= [])∨ ∃g' ofs n cap,v= .slice (some ⟨g',ofs,none⟩) n cap:=by
  obtain ⟨hb,hi,F,⟨G,K,rfl,⟨hl,e2⟩,e3⟩,h4,h5⟩:=hst
  rcases e2 with ⟨hv,h1,_⟩ | ⟨g',ofs',cap',cur,K1,hv,_⟩
  ·exact .inl ⟨List.cons.inj hv |>.1,h1⟩
  ·exact .inr ⟨_,_,_,_,List.cons.inj hv |>.1⟩
 rcases hcase with ⟨rfl,hx⟩ | ⟨g',ofs,n,cap,rfl⟩
 ·refine (AnyF.slices_SortFunc_none L none 0 (.func (.func g) #[] #[]) w).mono fun e w' ⟨he,hw⟩=>hfin ⟨_,he,hw,?_⟩
  rw[←hz,hx,show KD cf [] = [] from List.mergeSort_nil ..]
  rw[hx] at hst
  exact hst
 ·obtain ⟨hn,h1,h2,cur,hg,hroom,hat⟩:=xc (R:=PT.rep) (k:=2) (Ty.sh_ok (t:=PT) rfl) rfl hst
  obtain rfl:=hn
  have hH:HoldsK xH 2 w g' ofs xs.toArray:=by
   intro j hj
   rw[size_flatK] at hj
   have hj:j<xs.length*2:=by simpa using hj
   have hi:j / 2<xs.length:=by omega
   obtain ⟨c,e1,e2,e3⟩:=hat (j / 2) _ (List.getElem?_eq_getElem hi)
   have hcj:=e2 (j % 2) (Nat.mod_lt _ (by omega))
   rw[show j / 2*2+j % 2=j from by omega,Up e3] at hcj
   have hf:=Nv xs.toArray (i:=j / 2) (j:=j % 2) (z:=xs[j / 2]) (by simpa using List.getElem?_eq_getElem hi) (Nat.mod_lt _ (by omega))
   rw[show j / 2*2+j % 2=j from by omega] at hf
   have hs:j<(flatK xH 2 xs.toArray).size:=by rw[size_flatK];simpa using hj
   refine ⟨?_,?_⟩
   ·unfold World.cell?
    simp only[hg]
    rw[List.getElem?_drop] at hcj
    rw[getElem!_pos (flatK xH 2 xs.toArray) _ hs,←Array.getElem?_toList,hcj,←hf,Array.getElem?_eq_getElem hs]
    rfl
   ·unfold World.frozen?
    simp only[hg]
    simp
  have hblk:g'<w.heap.size:=by
   rcases Nat.lt_or_ge g' w.heap.size with c | c
   ·exact c
   ·rw[Array.getElem?_eq_none c] at hg;cases hg
  have key:=AnyQ.slices_SortFunc_total L 2 aE zE xH Jq QG cf hO g #[] g' ofs cap xs.toArray w eg (hcmp _ _ _ _) hH hblk (by simpa using hc) hT
  rw[show xs.toArray.size=xs.length from List.size_toArray] at key
  refine key.mono ?_
  rintro e w' ⟨he,m,os,rfl⟩
  refine hfin ⟨_,he,rfl,?_⟩
  show St J w0 (grow (putRow id (Sort.ahead w m) g' ofs (flatK xH 2 (KD cf xs).toArray)) os) _
  rw[hz]
  have hlen:zs.length=xs.length:=by rw[←hz];exact Fp _ _
  have hfl:(flatK xH 2 zs.toArray).toList.length=(flatK xH 2 xs.toArray).size:=by rw[Array.length_toList,size_flatK,size_flatK];simp[hlen]
  have hq:=Go.Lib.putRow_eq_setCells id w g' ofs (flatK xH 2 xs.toArray) (flatK xH 2 zs.toArray).toList m hH hfl
  rw[Array.toArray_toList] at hq
  rw[hq,List.map_id]
  refine St.grown ?_ os
  have hst2:St J w0 (w.drewN m) (Ch.own (ae E PT.rep) [.slice (some ⟨g',ofs,none⟩) xs.length cap] xs::C):=hst.drawn rfl rfl rfl rfl
  have hcapz:zs.length≤cap:=by rw[hlen];exact h1
  have hlimz:zs.length≤lim:=by
   have:lim=2 ^ 63 - 1:=rfl
   have:maxLen=2 ^ 63 - 1:=rfl
   omega
  have hlt: ∀(i:Nat) (z:Int×Int),zs[i]? =some z→i<xs.length:=fun i z hi=>by
   rcases Nat.lt_or_ge i zs.length with c | c
   ·omega
   ·rw[List.getElem?_eq_none c] at hi;cases hi
  have hnw: ∀(i:Nat) (z:Int×Int),zs[i]? =some z→ ∀j,j<2→(flatK xH 2 zs.toArray).toList[(i - 0)*2+j]? =(xH z)[j]? :=fun i z hi j hj=>by
   rw[Nat.sub_zero,Array.getElem?_toList]
   exact Nv zs.toArray (by simpa using hi) hj
  have h3:=yX (p:=0) (cnt:=xs.length) (zs:=zs) (news:=(flatK xH 2 zs.toArray).toList) (Ty.sh_ok (t:=PT) rfl) (Ty.cpy (t:=PT) rfl) (k:=2) rfl (by rw[hfl,size_flatK];simp) (by omega) hcapz hlimz (fun i z hi=>.inl ⟨Nat.zero_le _,(by have:=hlt i z hi;omega),xH z,rfl,hnw i z hi,Uq z⟩) hst2
  rw[Nat.zero_mul,Nat.add_zero,show @List.length PT.den zs=xs.length from hlen] at h3
  exact h3
def cmpI (a b:Int):Int:=if a<b then -1 else if b<a then 1 else 0
def KE (x y:Int×Int):Int:=if x.1=y.1 then cmpI x.2 y.2 else cmpI x.1 y.1
theorem Nx {a b:Int} :cmpI a b<0↔a<b:=by
 unfold cmpI
 split
 ·simp_all
 ·split <;> simp_all
theorem Ny {x y:Int×Int} :ltOf KE x y=true↔x.1<y.1∨x.1=y.1∧x.2<y.2:=by
 unfold ltOf KE
 rw[decide_eq_true_iff]
 split
 ·rw[Nx];omega
 ·rw[Nx];omega
theorem yn {x y:Int×Int} :ltOf KE x y=false↔ ¬(x.1<y.1∨x.1=y.1∧x.2<y.2):=by
 rw[←Ny,Bool.not_eq_true]
theorem QI:SWO (ltOf KE) where
 irrefl x:=by rw[yn];omega
 trans x y z h k:=by rw[Ny] at *;omega
 ntrans x y z h k:=by rw[yn] at *;omega
theorem QJ (x y:Int×Int) (h:ltOf KE x y=false) (k:ltOf KE y x=false):x=y:=by
 rw[yn] at h k
 exact Prod.ext (by omega) (by omega)
end R
namespace R
open Go.Shelf
def uQ:Go.Shelf.Ren:=⟨fun | 6=>222 | 15=>219 | 14=>256 | 28=>254 | 29=>255 | 20=>285 | 21=>286 | 22=>287 | 23=>288 | 24=>289 | 25=>290 | 26=>291 | 27=>292 | 46=>303 | 47=>280 | 48=>281 | 49=>304 | 50=>305 | 57=>312 | n=>n,fun | 22=>32 | 24=>103 | 25=>195 | 3=>3 | 39=>244 | 0=>0 | 53=>281 | 55=>283 | 4=>4 | 46=>273 | 45=>272 | 50=>278 | 5=>5 | 9=>9 | 66=>305 | 70=>309 | 76=>325 | 77=>326 | n=>n,fun | n=>n⟩
theorem A8:Go.Proofs.SlLaysF0.n6 Tryz.prog uQ:= {
 mixed:=by kernel_rfl
 f6:=⟨Tryz.f222.name,by decide,Tryz.func222.trans (congrArg some (by kernel_rfl))⟩
 f14:=⟨Tryz.f256.name,by decide,Tryz.func256.trans (congrArg some (by kernel_rfl))⟩
 f15:=Tryz.func219.trans (congrArg some (by kernel_rfl))
 f20:=⟨Tryz.f285.name,by decide,Tryz.func285.trans (congrArg some (by kernel_rfl))⟩
 f21:=⟨Tryz.f286.name,by decide,Tryz.func286.trans (congrArg some (by kernel_rfl))⟩
 f22:=⟨Tryz.f287.name,by decide,Tryz.func287.trans (congrArg some (by kernel_rfl))⟩
 f23:=⟨Tryz.f288.name,by decide,Tryz.func288.trans (congrArg some (by kernel_rfl))⟩
 f24:=⟨Tryz.f289.name,by decide,Tryz.func289.trans (congrArg some (by kernel_rfl))⟩
 f25:=⟨Tryz.f290.name,by decide,Tryz.func290.trans (congrArg some (by kernel_rfl))⟩
 f26:=⟨Tryz.f291.name,by decide,Tryz.func291.trans (congrArg some (by kernel_rfl))⟩
 f27:=⟨Tryz.f292.name,by decide,Tryz.func292.trans (congrArg some (by kernel_rfl))⟩
 f28:=Tryz.func254.trans (congrArg some (by kernel_rfl))
 f29:=Tryz.func255.trans (congrArg some (by kernel_rfl))
 f46:=⟨Tryz.f303.name,by decide,Tryz.func303.trans (congrArg some (by kernel_rfl))⟩
 f47:=Tryz.func280.trans (congrArg some (by kernel_rfl))
 f48:=Tryz.func281.trans (congrArg some (by kernel_rfl))
 f49:=⟨Tryz.f304.name,by decide,Tryz.func304.trans (congrArg some (by kernel_rfl))⟩
 f50:=⟨Tryz.f305.name,by decide,Tryz.func305.trans (congrArg some (by kernel_rfl))⟩
 f57:=⟨Tryz.f312.name,by decide,Tryz.func312.trans (congrArg some (by kernel_rfl))⟩
 t0:=Tryz.underlying0
 a0:=Tryz.isAgg0
 z0:=Tryz.sizeOf0
 v0:=Tryz.zeroValue0
 t3:=Tryz.underlying3
 a3:=Tryz.isAgg3
 z3:=Tryz.sizeOf3
 v3:=Tryz.zeroValue3
 t4:=Tryz.underlying4
 a4:=Tryz.isAgg4
 z4:=Tryz.sizeOf4
 v4:=Tryz.zeroValue4
 t5:=Tryz.underlying5
 a5:=Tryz.isAgg5
 z5:=Tryz.sizeOf5
 v5:=Tryz.zeroValue5
 t9:=Tryz.underlying9
 a9:=Tryz.isAgg9
 z9:=Tryz.sizeOf9
 v9:=Tryz.zeroValue9
 t22:=Tryz.underlying32
 a22:=Tryz.isAgg32
 z22:=Tryz.sizeOf32
 v22:=Tryz.zeroValue32
 t25:=Tryz.underlying195
 a25:=Tryz.isAgg195
 z25:=Tryz.sizeOf195
 v25:=Tryz.zeroValue195
 t39:=Tryz.underlying244
 a39:=Tryz.isAgg244
 z39:=Tryz.sizeOf244
 v39:=Tryz.zeroValue244
 t45:=Tryz.underlying272
 a45:=Tryz.isAgg272
 z45:=Tryz.sizeOf272
 v45:=Tryz.zeroValue272
 t46:=Tryz.underlying273
 a46:=Tryz.isAgg273
 z46:=Tryz.sizeOf273
 v46:=Tryz.zeroValue273
 t50:=Tryz.underlying278
 a50:=Tryz.isAgg278
 z50:=Tryz.sizeOf278
 v50:=Tryz.zeroValue278
 t53:=Tryz.underlying281
 a53:=Tryz.isAgg281
 z53:=Tryz.sizeOf281
 v53:=Tryz.zeroValue281
 t55:=Tryz.underlying283
 a55:=Tryz.isAgg283
 z55:=Tryz.sizeOf283
 v55:=Tryz.zeroValue283
 t66:=Tryz.underlying305
 a66:=Tryz.isAgg305
 z66:=Tryz.sizeOf305
 v66:=Tryz.zeroValue305
 t70:=Tryz.underlying309
 a70:=Tryz.isAgg309
 z70:=Tryz.sizeOf309
 v70:=Tryz.zeroValue309
 t76:=Tryz.underlying325
 a76:=Tryz.isAgg325
 z76:=Tryz.sizeOf325
 v76:=Tryz.zeroValue325
 t77:=Tryz.underlying326
 a77:=Tryz.isAgg326
 z77:=Tryz.sizeOf326
 v77:=Tryz.zeroValue326 }
end R
namespace R
open Go.RowKit Go.Shelf Go.Sort
open D
abbrev IT:Ty:=.int .i64
def QK (xs:List Int):Option (List Int):=(chk (xs.length<4611686018427387904)).bind fun _=>some (xs.mergeSort fun x y=>decide (x≤y))
theorem St.grownI {I:Hp} {w0 w:World} {cs:List Ch} (h:St I w0 w cs) (os:Array Obj):St I w0 (grow w os) cs:=by
 refine St.step (w:=w) (c:=[]) (c':=[]) h rfl rfl rfl (by simp[grow]) ?_
 rintro F rfl - -
 exact ⟨fun b hb _=>heap_grow_old w os hb,[],rfl,List.nodup_nil,by simp⟩
theorem Nz {P:Program} {ρ:Ren} (L:Lays.n189 P ρ) (en:Enters P (ρ.f 189)) (E:TypeId) :
  FOk P (ρ.f 189) ⟨[.ow (.sl E IT)],[],fun xs=>QK xs,none⟩:=by
 refine ⟨fun q hq=>(by cases hq),fun _=>en,fun w0 J vs d r ha A7=>?_⟩
 obtain ⟨v,vs1,rfl,hd,hnil⟩:=ha
 obtain rfl:vs1= []:=hnil
 obtain ⟨xs0,un⟩:=d
 let xs:List Int:=xs0
 let zs:List Int:=r
 have A7:QK xs=some zs:=A7
 obtain ⟨u1,hc,hz⟩:=Option.bind_eq_some_iff.1 A7
 have hc:=bx hc
 have hz:=Option.some.inj hz
 intro w C hst
 have hst:St J w0 w (Ch.own (ae E IT.rep) [v] xs::C):=hst
 clear A7
 rename_i happ0
 clear happ0 hd
 clear_value xs
 have hfin: ∀ {e:Ending} {w':World},(∃W,e= .returned (.tuple #[])∧w'=W∧St J w0 W (Ch.own (ae E IT.rep) [v] zs::C))→ ∃v':Value,e= .returned v'∧(∃vs:Array Value,v'= .tuple vs∧vs.size=0∧ ∀(i:Nat) (t:Ty),([] :List Ty)[i]? =some t→mT (vs.getD i undef)=t.isProd)∧St J w0 w' (Ch.own (ae E IT.rep) [v] zs::C):=by
  rintro e w' ⟨W,rfl,rfl,h⟩
  exact ⟨_,rfl,⟨#[],rfl,rfl,fun i t h=>(by simp at h)⟩,h⟩
 have hcase:(v= .slice none 0 0∧xs= [])∨ ∃g' ofs n cap,v= .slice (some ⟨g',ofs,none⟩) n cap:=by
  obtain ⟨hb,hi,F,⟨G,K,rfl,⟨hl,e2⟩,e3⟩,h4,h5⟩:=hst
  rcases e2 with ⟨hv,h1,_⟩ | ⟨g',ofs',cap',cur,K1,hv,_⟩
  ·exact .inl ⟨List.cons.inj hv |>.1,h1⟩
  ·exact .inr ⟨_,_,_,_,List.cons.inj hv |>.1⟩
 rcases hcase with ⟨rfl,hx⟩ | ⟨g',ofs,n,cap,rfl⟩
 ·refine (Any.slices_Sort_int_none L none 0 w).mono fun e w' ⟨he,hw⟩=>hfin ⟨_,he,hw,?_⟩
  rw[←hz,hx,List.mergeSort_nil]
  rw[hx] at hst
  exact hst
 ·obtain ⟨hn,h1,h2,cur,hg,hroom,hat⟩:=xc (R:=IT.rep) (k:=1) (Ty.sh_ok (t:=IT) rfl) rfl hst
  obtain rfl:=hn
  have hH:Holds (Value.int .i64) w g' ofs xs.toArray:=by
   intro j hj
   have hj:j<xs.length:=by simpa using hj
   obtain ⟨c,e1,e2,e3⟩:=hat j _ (List.getElem?_eq_getElem hj)
   have hcj:=e2 0 Nat.one_pos
   obtain rfl:c= [.int .i64 xs[j]]:=e3
   rw[Nat.mul_one,Nat.add_zero,List.getElem?_drop] at hcj
   refine ⟨?_,?_⟩
   ·unfold World.cell?
    simp only[hg]
    rw[←Array.getElem?_toList,hcj,getElem!_pos xs.toArray _ (by simpa using hj)]
    simp
   ·unfold World.frozen?
    simp only[hg]
    simp
  have hblk:g'<w.heap.size:=by
   rcases Nat.lt_or_ge g' w.heap.size with c | c
   ·exact c
   ·rw[Array.getElem?_eq_none c] at hg;cases hg
  refine (Any.slices_Sort_int L g' ofs cap xs w hH hblk hc).mono ?_
  rintro e w' ⟨he,m,os,rfl⟩
  refine hfin ⟨_,he,rfl,?_⟩
  have hlen:zs.length=xs.length:=by rw[←hz];exact List.length_mergeSort _
  rw[hz,Go.Lib.sorted_world (Value.int .i64) w g' ofs m xs.toArray zs os hH (by simpa using hlen)]
  refine St.grownI ?_ os
  have hst2:St J w0 (w.drewN m) (Ch.own (ae E IT.rep) [.slice (some ⟨g',ofs,none⟩) xs.length cap] xs::C):=hst.drawn rfl rfl rfl rfl
  have hcapz:zs.length≤cap:=by rw[hlen];exact h1
  have hlimz:zs.length≤lim:=by
   have:lim=2 ^ 63 - 1:=rfl
   have:maxLen=2 ^ 63 - 1:=rfl
   omega
  have h3:=yX (p:=0) (cnt:=xs.length) (zs:=zs) (news:=zs.map (Value.int .i64)) (Ty.sh_ok (t:=IT) rfl) (Ty.cpy (t:=IT) rfl) (k:=1) rfl (by simp[hlen]) (by omega) hcapz hlimz (fun i z hi=>.inl ⟨Nat.zero_le _,(by
   have:=(List.getElem?_eq_some_iff.1 hi).1
   have:i<zs.length:=this
   omega),[.int .i64 z],rfl,fun j hj=>by
    obtain rfl:j=0:=by omega
    rw[Nat.sub_zero,Nat.mul_one,Nat.add_zero,List.getElem?_map]
    have hi:zs[i]? =some z:=hi
    rw[hi];rfl,rfl⟩) hst2
  rw[Nat.zero_mul,Nat.add_zero,show @List.length IT.den zs=xs.length from hlen] at h3
  exact h3
end R
namespace R
open Go.Shelf
def zq:Go.Shelf.Ren:=⟨fun | 189=>187 | 125=>219 | 257=>218 | 128=>254 | 129=>255 | 294=>245 | 295=>246 | 296=>247 | 297=>248 | 298=>249 | 299=>250 | 216=>251 | 300=>252 | 301=>253 | 328=>279 | 329=>280 | 330=>281 | 331=>282 | 332=>283 | 215=>284 | 343=>302 | n=>n,fun | 28=>26 | 3=>3 | 46=>244 | 0=>0 | 51=>281 | 53=>283 | 4=>4 | 183=>273 | 182=>272 | 131=>278 | 5=>5 | 9=>9 | 218=>305 | 222=>309 | 228=>325 | 229=>326 | n=>n,fun | n=>n⟩
theorem Hr:Go.Proofs.Lays.n189 Tryz.prog zq:= {
 mixed:=by kernel_rfl
 f125:=Tryz.func219.trans (congrArg some (by kernel_rfl))
 f128:=Tryz.func254.trans (congrArg some (by kernel_rfl))
 f129:=Tryz.func255.trans (congrArg some (by kernel_rfl))
 f189:=Tryz.func187.trans (congrArg some (by kernel_rfl))
 f215:=Tryz.func284.trans (congrArg some (by kernel_rfl))
 f216:=Tryz.func251.trans (congrArg some (by kernel_rfl))
 f257:=Tryz.func218.trans (congrArg some (by kernel_rfl))
 f294:=Tryz.func245.trans (congrArg some (by kernel_rfl))
 f295:=Tryz.func246.trans (congrArg some (by kernel_rfl))
 f296:=Tryz.func247.trans (congrArg some (by kernel_rfl))
 f297:=Tryz.func248.trans (congrArg some (by kernel_rfl))
 f298:=Tryz.func249.trans (congrArg some (by kernel_rfl))
 f299:=Tryz.func250.trans (congrArg some (by kernel_rfl))
 f300:=Tryz.func252.trans (congrArg some (by kernel_rfl))
 f301:=Tryz.func253.trans (congrArg some (by kernel_rfl))
 f328:=Tryz.func279.trans (congrArg some (by kernel_rfl))
 f329:=Tryz.func280.trans (congrArg some (by kernel_rfl))
 f330:=Tryz.func281.trans (congrArg some (by kernel_rfl))
 f331:=Tryz.func282.trans (congrArg some (by kernel_rfl))
 f332:=Tryz.func283.trans (congrArg some (by kernel_rfl))
 f343:=Tryz.func302.trans (congrArg some (by kernel_rfl))
 t0:=Tryz.underlying0
 a0:=Tryz.isAgg0
 z0:=Tryz.sizeOf0
 v0:=Tryz.zeroValue0
 t3:=Tryz.underlying3
 a3:=Tryz.isAgg3
 z3:=Tryz.sizeOf3
 v3:=Tryz.zeroValue3
 t4:=Tryz.underlying4
 a4:=Tryz.isAgg4
 z4:=Tryz.sizeOf4
 v4:=Tryz.zeroValue4
 t5:=Tryz.underlying5
 a5:=Tryz.isAgg5
 z5:=Tryz.sizeOf5
 v5:=Tryz.zeroValue5
 t9:=Tryz.underlying9
 a9:=Tryz.isAgg9
 z9:=Tryz.sizeOf9
 v9:=Tryz.zeroValue9
 t28:=Tryz.underlying26
 a28:=Tryz.isAgg26
 z28:=Tryz.sizeOf26
 v28:=Tryz.zeroValue26
 t46:=Tryz.underlying244
 a46:=Tryz.isAgg244
 z46:=Tryz.sizeOf244
 v46:=Tryz.zeroValue244
 t51:=Tryz.underlying281
 a51:=Tryz.isAgg281
 z51:=Tryz.sizeOf281
 v51:=Tryz.zeroValue281
 t53:=Tryz.underlying283
 a53:=Tryz.isAgg283
 z53:=Tryz.sizeOf283
 v53:=Tryz.zeroValue283
 t131:=Tryz.underlying278
 a131:=Tryz.isAgg278
 z131:=Tryz.sizeOf278
 v131:=Tryz.zeroValue278
 t182:=Tryz.underlying272
 a182:=Tryz.isAgg272
 z182:=Tryz.sizeOf272
 v182:=Tryz.zeroValue272
 t183:=Tryz.underlying273
 a183:=Tryz.isAgg273
 z183:=Tryz.sizeOf273
 v183:=Tryz.zeroValue273
 t218:=Tryz.underlying305
 a218:=Tryz.isAgg305
 z218:=Tryz.sizeOf305
 v218:=Tryz.zeroValue305
 t222:=Tryz.underlying309
 a222:=Tryz.isAgg309
 z222:=Tryz.sizeOf309
 v222:=Tryz.zeroValue309
 t228:=Tryz.underlying325
 a228:=Tryz.isAgg325
 z228:=Tryz.sizeOf325
 v228:=Tryz.zeroValue325
 t229:=Tryz.underlying326
 a229:=Tryz.isAgg326
 z229:=Tryz.sizeOf326
 v229:=Tryz.zeroValue326 }
end R
namespace R
open Go.RowKit
open D
def FldAll (P:Program) (T:TypeId):Nat→List (Nat×Nat)→Prop
 | _,[] =>True
 | i,q::l=>TF P T i q.1 q.2∧FldAll P T (i+1) l
theorem FldAll.get {P:Program} {T:TypeId} : ∀ {l:List (Nat×Nat)} {i:Nat},FldAll P T i l→ ∀f q,l[f]? =some q→TF P T (i+f) q.1 q.2
 | [],_,_,f,q,h=>by simp at h
 | x::l,i,⟨h1,h2⟩,f,q,h=>by
  cases f with
  | zero=>simp at h;subst h;exact h1
  | succ f =>
   have:=FldAll.get h2 f q (by simpa using h)
   rwa [show i+1+f=i+(f+1) from by omega] at this
section
variable {P:Program} {T:TypeId}
theorem zr {n b:Nat} {ty:Ty} {z:Value} {boo:Bool} {ik:Option (Option IntKind)} (h1:TI P T false 1) (h2:ty.size=1) (h3:TZ P T z 1 b) (h4:z.cells=(zeroCells ty).toArray) (h5:1≤b) (h6:boo=true→P.underlying T=some .bool) (h7: ∀k,ik=some k→P.underlying T=some (ikD k)):TDok P T ⟨false,1,none,ty,[],some b,none,boo,none,none,ik,false,none⟩:=
 ⟨h1,rfl,h2,fun E h=>by simp at h,fun f q h=>by simp at h,fun b' h=>by obtain rfl:=Option.some.inj h;exact ⟨z,h3,h4,h5⟩,fun pl h=>by simp at h,h6,(fun ks h=>by cases h),(fun m h=>by cases h),h7,(fun h=>by cases h),fun e h=>by cases h⟩
theorem nL {E:TypeId} {t:Ty} (h1:TI P T false 1) (h2:P.underlying T=some (.slice E)) (h3:TZ P T (.slice none 0 0) 1 24):TDok P T ⟨false,1,some E,.sl E t,[],some 24,none,false,none,none,none,false,none⟩:=
 ⟨h1,rfl,rfl,fun E' h=>by obtain rfl:=Option.some.inj h;exact h2,fun f q h=>by simp at h,fun b' h=>by obtain rfl:=Option.some.inj h;exact ⟨_,h3,rfl,by decide⟩,fun pl h=>by simp at h,(fun h=>by cases h),(fun ks h=>by cases h),(fun m h=>by cases h),(fun k h=>by cases h),(fun h=>by cases h),fun e h=>by cases h⟩
theorem jL {n b:Nat} {ty:Ty} {fs pl:List (Nat×Nat)} {z:Value} {eq:Option (List (Option IntKind))} (h1:TI P T true n) (h2:ty.size=n) (h3:FldAll P T 0 fs) (h4:TZ P T z n b) (h5:z.cells=(zeroCells ty).toArray) (h6:1≤b) (h7:TB P T pl) (h8: ∀ks,eq=some ks→ ∀w,Curq ks fun xs ys r=>EqT P T (.agg xs.toArray) (.agg ys.toArray) r w):TDok P T ⟨true,n,none,ty,fs,some b,some pl,false,eq,none,none,false,none⟩:=
 ⟨h1,rfl,h2,fun E h=>by simp at h,fun f q h=>by have:=h3.get f q h;rwa [Nat.zero_add] at this,fun b' h=>by obtain rfl:=Option.some.inj h;exact ⟨z,h4,h5,h6⟩,fun pl' h=>by obtain rfl:=Option.some.inj h;exact h7,(fun h=>by cases h),h8,(fun m h=>by cases h),(fun k h=>by cases h),(fun h=>by cases h),fun e h=>by cases h⟩
theorem zt {ty:Ty} {b:Nat} (h1:TI P T false 1) (h2:ty.size=1) (h3:TZ P T .nilFunc 1 b):TDok P T ⟨false,1,none,ty,[],none,none,false,none,none,none,true,none⟩:=
 ⟨h1,rfl,h2,fun E h=>by simp at h,fun f q h=>by simp at h,(fun b' h=>by cases h),(fun pl h=>by cases h),(fun h=>by cases h),(fun ks h=>by cases h),(fun m' h=>by cases h),(fun k h=>by cases h),(fun _=>⟨b,h3⟩),fun e h=>by cases h⟩
theorem XG {m:MD} {ty:Ty} (h1:TI P T false 1) (h2:ty.size=1) (h3:MDok P T m):TDok P T ⟨false,1,none,ty,[],none,none,false,none,some m,none,false,none⟩:=
 ⟨h1,rfl,h2,fun E h=>by simp at h,fun f q h=>by simp at h,(fun b' h=>by cases h),(fun pl h=>by cases h),(fun h=>by cases h),(fun ks h=>by cases h),(fun m' h=>by obtain rfl:=Option.some.inj h;exact h3),(fun k h=>by cases h),(fun h=>by cases h),fun e h=>by cases h⟩
theorem XH {e E:TypeId} {u:Ty} (h1:TI P T false 1) (h2:P.underlying T=some (.pointer e)) (h3:TZ P T (.pointer none) 1 8):TDok P T ⟨false,1,none,.fro (.tree e E u),[],some 8,none,false,none,none,none,false,some e⟩:=
 ⟨h1,rfl,rfl,fun E' h=>by simp at h,fun f q h=>by simp at h,fun b' h=>by obtain rfl:=Option.some.inj h;exact ⟨_,h3,rfl,by decide⟩,fun pl h=>by simp at h,(fun h=>by cases h),(fun ks h=>by cases h),(fun m h=>by cases h),(fun k h=>by cases h),(fun h=>by cases h),fun e' h=>by obtain rfl:=Option.some.inj h;exact h2⟩
end
end R
namespace D
open Go.RowKit
def tJ (p0a:List Bool) (p1left:Int):Option Int:=
 if decide (IntKind.i64.wrap (p1left - (p0a.length:Int))<0) then (some (-1)) else (some (IntKind.i64.wrap (p1left - (p0a.length:Int))))
def sf (p0a:List Int) (p1left:Int):Option Int:=
 if decide (IntKind.i64.wrap (p1left - (p0a.length:Int))<0) then (some (-1)) else (some (IntKind.i64.wrap (p1left - (p0a.length:Int))))
def kS (p0a:List (List Int)) (s3:Int×Int):Option (Out Int (Int×Int)):=
 if decide (s3.2<(p0a.length:Int)) then ((az p0a s3.2).bind fun x3=>(sf x3 s3.1).bind fun r6=>if decide (r6<0) then (some (.ret (-1))) else (some (.nxt (r6,IntKind.i64.wrap (s3.2+1))))) else (some (.brk (s3.1,s3.2)))
def tK (p0a:List (List Int)) (p1left:Int):Option Int:=
 if decide (IntKind.i64.wrap (p1left - (p0a.length:Int))<0) then (some (-1)) else (ax (ai (kS p0a) aC (IntKind.i64.wrap (p1left - (p0a.length:Int)),0)) (fun r=>some r) (fun s4=>some s4.1))
def jM (p0a:Int×(List Bool)×(List (List Int))) (p1left:Int):Option Int:=
 (tJ p0a.2.1 p1left).bind fun r1=>if decide (r1<0) then (some (-1)) else ((tK p0a.2.2 r1).bind fun r2=>if decide (r2<0) then (some (-1)) else (some r2))
def fw (p0a:List (Int×(List Bool)×(List (List Int)))) (s3:Int×Int):Option (Out Int (Int×Int)):=
 if decide (s3.2<(p0a.length:Int)) then ((az p0a s3.2).bind fun x3=>(jM (x3.1,x3.2.1,x3.2.2) s3.1).bind fun r9=>if decide (r9<0) then (some (.ret (-1))) else (some (.nxt (r9,IntKind.i64.wrap (s3.2+1))))) else (some (.brk (s3.1,s3.2)))
def lY (p0a:List (Int×(List Bool)×(List (List Int)))) (p1left:Int):Option Int:=
 if decide (IntKind.i64.wrap (p1left - (p0a.length:Int))<0) then (some (-1)) else (ax (ai (fw p0a) aC (IntKind.i64.wrap (p1left - (p0a.length:Int)),0)) (fun r=>some r) (fun s4=>some s4.1))
def rb (p0a:List (Int×Int×Int×Int)) (p1left:Int):Option Int:=
 if decide (IntKind.i64.wrap (p1left - (p0a.length:Int))<0) then (some (-1)) else (some (IntKind.i64.wrap (p1left - (p0a.length:Int))))
def si (p0a:(List (Int×Int×Int×Int))) (p1left:Int):Option Int:=
 (rb p0a p1left).bind fun r1=>if decide (r1<0) then (some (-1)) else (some r1)
def iR (p0a:Int×((List (Int×Int×Int×Int)))×Int) (p1left:Int):Option Int:=
 (si p0a.2.1 p1left).bind fun r1=>if decide (r1<0) then (some (-1)) else (some r1)
def eN (p0a:List (Int×((List (Int×Int×Int×Int)))×Int)) (s3:Int×Int):Option (Out Int (Int×Int)):=
 if decide (s3.2<(p0a.length:Int)) then ((az p0a s3.2).bind fun x3=>(iR (x3.1,x3.2.1,x3.2.2) s3.1).bind fun r6=>if decide (r6<0) then (some (.ret (-1))) else (some (.nxt (r6,IntKind.i64.wrap (s3.2+1))))) else (some (.brk (s3.1,s3.2)))
def kA (p0a:List (Int×((List (Int×Int×Int×Int)))×Int)) (p1left:Int):Option Int:=
 if decide (IntKind.i64.wrap (p1left - (p0a.length:Int))<0) then (some (-1)) else (ax (ai (eN p0a) aC (IntKind.i64.wrap (p1left - (p0a.length:Int)),0)) (fun r=>some r) (fun s4=>some s4.1))
def kT (p0a:(List (Int×(List Bool)×(List (List Int))))×(List (Int×((List (Int×Int×Int×Int)))×Int))) (p1left:Int):Option Int:=
 (lY p0a.1 p1left).bind fun r1=>if decide (r1<0) then (some (-1)) else ((kA p0a.2 r1).bind fun r2=>if decide (r2<0) then (some (-1)) else (some r2))
def kU (p0a:List Bool) (s3:(List Bool)×Int):Option (Out (List Bool) ((List Bool)×Int)):=
 if decide (s3.2<(p0a.length:Int)) then ((az p0a s3.2).bind fun x6=>(az s3.1 s3.2).bind fun x7=>some (.nxt (s3.1.set s3.2.toNat x6,IntKind.i64.wrap (s3.2+1)))) else (some (.brk (s3.1,s3.2)))
def pM (p0a:List Bool):Option (List Bool):=
 (mkI 1 (p0a.length:Int) (false:Bool)).bind fun x1=>ax (ai (kU p0a) aC (x1,0)) (fun r=>some r) (fun s4=>some s4.1)
def mq (p0a:List Int) (s3:(List Int)×Int):Option (Out (List Int) ((List Int)×Int)):=
 if decide (s3.2<(p0a.length:Int)) then ((az p0a s3.2).bind fun x6=>(az s3.1 s3.2).bind fun x7=>some (.nxt (s3.1.set s3.2.toNat x6,IntKind.i64.wrap (s3.2+1)))) else (some (.brk (s3.1,s3.2)))
def oR (p0a:List Int):Option (List Int):=
 (mkI 8 (p0a.length:Int) (0:Int)).bind fun x1=>ax (ai (mq p0a) aC (x1,0)) (fun r=>some r) (fun s4=>some s4.1)
def kV (p0a:List (List Int)) (s3:(List (List Int))×Int):Option (Out (List (List Int)) ((List (List Int))×Int)):=
 if decide (s3.2<(p0a.length:Int)) then ((az p0a s3.2).bind fun x6=>(oR x6).bind fun r6=>(az s3.1 s3.2).bind fun x7=>some (.nxt (s3.1.set s3.2.toNat r6,IntKind.i64.wrap (s3.2+1)))) else (some (.brk (s3.1,s3.2)))
def pN (p0a:List (List Int)):Option (List (List Int)):=
 (mkI 24 (p0a.length:Int) ([] :List Int)).bind fun x1=>ax (ai (kV p0a) aC (x1,0)) (fun r=>some r) (fun s4=>some s4.1)
def jN (p0a:Int×(List Bool)×(List (List Int))):Option (Int×(List Bool)×(List (List Int))):=
 (pM p0a.2.1).bind fun r1=>(pN p0a.2.2).bind fun r2=>some (p0a.1,r1,r2)
def fx (p0a:List (Int×(List Bool)×(List (List Int)))) (s3:(List (Int×(List Bool)×(List (List Int))))×Int):Option (Out (List (Int×(List Bool)×(List (List Int)))) ((List (Int×(List Bool)×(List (List Int))))×Int)):=
 if decide (s3.2<(p0a.length:Int)) then ((az p0a s3.2).bind fun x6=>(jN (x6.1,x6.2.1,x6.2.2)).bind fun r9=>(az s3.1 s3.2).bind fun x7=>some (.nxt (s3.1.set s3.2.toNat (r9.1,r9.2.1,r9.2.2),IntKind.i64.wrap (s3.2+1)))) else (some (.brk (s3.1,s3.2)))
def iS (p0a:List (Int×(List Bool)×(List (List Int)))):Option (List (Int×(List Bool)×(List (List Int)))):=
 (mkI 56 (p0a.length:Int) ((0,[],[]):Int×(List Bool)×(List (List Int)))).bind fun x1=>ax (ai (fx p0a) aC (x1,0)) (fun r=>some r) (fun s4=>some s4.1)
def pO (p0a:Int×Int×Int×Int):Option (Int×Int×Int×Int):=
 some (p0a.1,p0a.2.1,p0a.2.2.1,p0a.2.2.2)
def jO (p0a:List (Int×Int×Int×Int)) (s3:(List (Int×Int×Int×Int))×Int):Option (Out (List (Int×Int×Int×Int)) ((List (Int×Int×Int×Int))×Int)):=
 if decide (s3.2<(p0a.length:Int)) then ((az p0a s3.2).bind fun x6=>(pO (x6.1,x6.2.1,x6.2.2.1,x6.2.2.2)).bind fun r3=>(az s3.1 s3.2).bind fun x7=>some (.nxt (s3.1.set s3.2.toNat (r3.1,r3.2.1,r3.2.2.1,r3.2.2.2),IntKind.i64.wrap (s3.2+1)))) else (some (.brk (s3.1,s3.2)))
def nR (p0a:List (Int×Int×Int×Int)):Option (List (Int×Int×Int×Int)):=
 (mkI 32 (p0a.length:Int) ((0,0,0,0):Int×Int×Int×Int)).bind fun x1=>ax (ai (jO p0a) aC (x1,0)) (fun r=>some r) (fun s4=>some s4.1)
def sj (p0a:(List (Int×Int×Int×Int))):Option (List (Int×Int×Int×Int)):=
 (nR p0a).bind fun r1=>some r1
def iT (p0a:Int×((List (Int×Int×Int×Int)))×Int):Option (Int×((List (Int×Int×Int×Int)))×Int):=
 (sj p0a.2.1).bind fun r1=>some (p0a.1,r1,p0a.2.2)
def eO (p0a:List (Int×((List (Int×Int×Int×Int)))×Int)) (s3:(List (Int×((List (Int×Int×Int×Int)))×Int))×Int):Option (Out (List (Int×((List (Int×Int×Int×Int)))×Int)) ((List (Int×((List (Int×Int×Int×Int)))×Int))×Int)):=
 if decide (s3.2<(p0a.length:Int)) then ((az p0a s3.2).bind fun x6=>(iT (x6.1,x6.2.1,x6.2.2)).bind fun r6=>(az s3.1 s3.2).bind fun x7=>some (.nxt (s3.1.set s3.2.toNat (r6.1,r6.2.1,r6.2.2),IntKind.i64.wrap (s3.2+1)))) else (some (.brk (s3.1,s3.2)))
def gV (p0a:List (Int×((List (Int×Int×Int×Int)))×Int)):Option (List (Int×((List (Int×Int×Int×Int)))×Int)):=
 (mkI 40 (p0a.length:Int) ((0,[],0):Int×((List (Int×Int×Int×Int)))×Int)).bind fun x1=>ax (ai (eO p0a) aC (x1,0)) (fun r=>some r) (fun s4=>some s4.1)
def fT (p0a:(List (Int×(List Bool)×(List (List Int))))×(List (Int×((List (Int×Int×Int×Int)))×Int))):Option ((List (Int×(List Bool)×(List (List Int))))×(List (Int×((List (Int×Int×Int×Int)))×Int))):=
 (iS p0a.1).bind fun r1=>(gV p0a.2).bind fun r2=>some (r1,r2)
def kW (p0a:List Bool) (p1b:List Bool) (s3:Int):Option (Out Bool Int):=
 if decide (s3<(p0a.length:Int)) then ((az p0a s3).bind fun x5=>(az p1b s3).bind fun x6=>if x5 !=x6 then (some (.ret false)) else (some (.nxt (IntKind.i64.wrap (s3+1))))) else (some (.brk s3))
def tL (p0a:List Bool) (p1b:List Bool):Option Bool:=
 if (p0a.length:Int) !=(p1b.length:Int) then (some false) else (ax (ai (kW p0a p1b) aC 0) (fun r=>some r) (fun s4=>some true))
def mr (p0a:List Int) (p1b:List Int) (s3:Int):Option (Out Bool Int):=
 if decide (s3<(p0a.length:Int)) then ((az p0a s3).bind fun x5=>(az p1b s3).bind fun x6=>if x5 !=x6 then (some (.ret false)) else (some (.nxt (IntKind.i64.wrap (s3+1))))) else (some (.brk s3))
def sk (p0a:List Int) (p1b:List Int):Option Bool:=
 if (p0a.length:Int) !=(p1b.length:Int) then (some false) else (ax (ai (mr p0a p1b) aC 0) (fun r=>some r) (fun s4=>some true))
def kX (p0a:List (List Int)) (p1b:List (List Int)) (s3:Int):Option (Out Bool Int):=
 if decide (s3<(p0a.length:Int)) then ((az p0a s3).bind fun x5=>(az p1b s3).bind fun x6=>(sk x5 x6).bind fun r9=>if r9 then (some (.nxt (IntKind.i64.wrap (s3+1)))) else (some (.ret false))) else (some (.brk s3))
def tM (p0a:List (List Int)) (p1b:List (List Int)):Option Bool:=
 if (p0a.length:Int) !=(p1b.length:Int) then (some false) else (ax (ai (kX p0a p1b) aC 0) (fun r=>some r) (fun s4=>some true))
def jP (p0a:Int×(List Bool)×(List (List Int))) (p1b:Int×(List Bool)×(List (List Int))):Option Bool:=
 if p0a.1 !=p1b.1 then (some false) else ((tL p0a.2.1 p1b.2.1).bind fun r1=>if r1 then ((tM p0a.2.2 p1b.2.2).bind fun r2=>if r2 then (some true) else (some false)) else (some false))
def fy (p0a:List (Int×(List Bool)×(List (List Int)))) (p1b:List (Int×(List Bool)×(List (List Int)))) (s3:Int):Option (Out Bool Int):=
 if decide (s3<(p0a.length:Int)) then ((az p0a s3).bind fun x5=>(az p1b s3).bind fun x6=>(jP (x5.1,x5.2.1,x5.2.2) (x6.1,x6.2.1,x6.2.2)).bind fun r15=>if r15 then (some (.nxt (IntKind.i64.wrap (s3+1)))) else (some (.ret false))) else (some (.brk s3))
def lZ (p0a:List (Int×(List Bool)×(List (List Int)))) (p1b:List (Int×(List Bool)×(List (List Int)))):Option Bool:=
 if (p0a.length:Int) !=(p1b.length:Int) then (some false) else (ax (ai (fy p0a p1b) aC 0) (fun r=>some r) (fun s4=>some true))
def pP (p0a:Int×Int×Int×Int) (p1b:Int×Int×Int×Int):Option Bool:=
 if p0a.1 !=p1b.1 then (some false) else (if p0a.2.1 !=p1b.2.1 then (some false) else (if p0a.2.2.1 !=p1b.2.2.1 then (some false) else (if p0a.2.2.2 !=p1b.2.2.2 then (some false) else (some true))))
def jQ (p0a:List (Int×Int×Int×Int)) (p1b:List (Int×Int×Int×Int)) (s3:Int):Option (Out Bool Int):=
 if decide (s3<(p0a.length:Int)) then ((az p0a s3).bind fun x5=>(az p1b s3).bind fun x6=>(pP (x5.1,x5.2.1,x5.2.2.1,x5.2.2.2) (x6.1,x6.2.1,x6.2.2.1,x6.2.2.2)).bind fun r3=>if r3 then (some (.nxt (IntKind.i64.wrap (s3+1)))) else (some (.ret false))) else (some (.brk s3))
def re (p0a:List (Int×Int×Int×Int)) (p1b:List (Int×Int×Int×Int)):Option Bool:=
 if (p0a.length:Int) !=(p1b.length:Int) then (some false) else (ax (ai (jQ p0a p1b) aC 0) (fun r=>some r) (fun s4=>some true))
def sn (p0a:(List (Int×Int×Int×Int))) (p1b:(List (Int×Int×Int×Int))):Option Bool:=
 (re p0a p1b).bind fun r1=>if r1 then (some true) else (some false)
def iU (p0a:Int×((List (Int×Int×Int×Int)))×Int) (p1b:Int×((List (Int×Int×Int×Int)))×Int):Option Bool:=
 if p0a.1 !=p1b.1 then (some false) else ((sn p0a.2.1 p1b.2.1).bind fun r1=>if r1 then (if p0a.2.2 !=p1b.2.2 then (some false) else (some true)) else (some false))
def eP (p0a:List (Int×((List (Int×Int×Int×Int)))×Int)) (p1b:List (Int×((List (Int×Int×Int×Int)))×Int)) (s3:Int):Option (Out Bool Int):=
 if decide (s3<(p0a.length:Int)) then ((az p0a s3).bind fun x5=>(az p1b s3).bind fun x6=>(iU (x5.1,x5.2.1,x5.2.2) (x6.1,x6.2.1,x6.2.2)).bind fun r9=>if r9 then (some (.nxt (IntKind.i64.wrap (s3+1)))) else (some (.ret false))) else (some (.brk s3))
def kB (p0a:List (Int×((List (Int×Int×Int×Int)))×Int)) (p1b:List (Int×((List (Int×Int×Int×Int)))×Int)):Option Bool:=
 if (p0a.length:Int) !=(p1b.length:Int) then (some false) else (ax (ai (eP p0a p1b) aC 0) (fun r=>some r) (fun s4=>some true))
def kY (p0a:(List (Int×(List Bool)×(List (List Int))))×(List (Int×((List (Int×Int×Int×Int)))×Int))) (p1b:(List (Int×(List Bool)×(List (List Int))))×(List (Int×((List (Int×Int×Int×Int)))×Int))):Option Bool:=
 (lZ p0a.1 p1b.1).bind fun r1=>if r1 then ((kB p0a.2 p1b.2).bind fun r2=>if r2 then (some true) else (some false)) else (some false)
def tN (p0a:List (Int×Int×Int×Int)) (p1left:Int):Option Int:=
 if decide (IntKind.i64.wrap (p1left - (p0a.length:Int))<0) then (some (-1)) else (some (IntKind.i64.wrap (p1left - (p0a.length:Int))))
def pQ (p0a:(List Int)×(List (Int×Int×Int×Int))) (p1left:Int):Option Int:=
 (sf p0a.1 p1left).bind fun r1=>if decide (r1<0) then (some (-1)) else ((tN p0a.2 r1).bind fun r2=>if decide (r2<0) then (some (-1)) else (some r2))
def jR (p0a:List ((List Int)×(List (Int×Int×Int×Int)))) (s3:Int×Int):Option (Out Int (Int×Int)):=
 if decide (s3.2<(p0a.length:Int)) then ((az p0a s3.2).bind fun x3=>(pQ (x3.1,x3.2) s3.1).bind fun r9=>if decide (r9<0) then (some (.ret (-1))) else (some (.nxt (r9,IntKind.i64.wrap (s3.2+1))))) else (some (.brk (s3.1,s3.2)))
def rf (p0a:List ((List Int)×(List (Int×Int×Int×Int)))) (p1left:Int):Option Int:=
 if decide (IntKind.i64.wrap (p1left - (p0a.length:Int))<0) then (some (-1)) else (ax (ai (jR p0a) aC (IntKind.i64.wrap (p1left - (p0a.length:Int)),0)) (fun r=>some r) (fun s4=>some s4.1))
def mu (p0a:Int×(List ((List Int)×(List (Int×Int×Int×Int))))) (p1left:Int):Option Int:=
 (rf p0a.2 p1left).bind fun r1=>if decide (r1<0) then (some (-1)) else (some r1)
def so (p0a:Int×Int×Int×Int):Option (Int×Int×Int×Int):=
 some (p0a.1,p0a.2.1,p0a.2.2.1,p0a.2.2.2)
def kZ (p0a:List (Int×Int×Int×Int)) (s3:(List (Int×Int×Int×Int))×Int):Option (Out (List (Int×Int×Int×Int)) ((List (Int×Int×Int×Int))×Int)):=
 if decide (s3.2<(p0a.length:Int)) then ((az p0a s3.2).bind fun x6=>(so (x6.1,x6.2.1,x6.2.2.1,x6.2.2.2)).bind fun r3=>(az s3.1 s3.2).bind fun x7=>some (.nxt (s3.1.set s3.2.toNat (r3.1,r3.2.1,r3.2.2.1,r3.2.2.2),IntKind.i64.wrap (s3.2+1)))) else (some (.brk (s3.1,s3.2)))
def pR (p0a:List (Int×Int×Int×Int)):Option (List (Int×Int×Int×Int)):=
 (mkI 32 (p0a.length:Int) ((0,0,0,0):Int×Int×Int×Int)).bind fun x1=>ax (ai (kZ p0a) aC (x1,0)) (fun r=>some r) (fun s4=>some s4.1)
def pS (p0a:(List Int)×(List (Int×Int×Int×Int))):Option ((List Int)×(List (Int×Int×Int×Int))):=
 (oR p0a.1).bind fun r1=>(pR p0a.2).bind fun r2=>some (r1,r2)
def jS (p0a:List ((List Int)×(List (Int×Int×Int×Int)))) (s3:(List ((List Int)×(List (Int×Int×Int×Int))))×Int):Option (Out (List ((List Int)×(List (Int×Int×Int×Int)))) ((List ((List Int)×(List (Int×Int×Int×Int))))×Int)):=
 if decide (s3.2<(p0a.length:Int)) then ((az p0a s3.2).bind fun x6=>(pS (x6.1,x6.2)).bind fun r9=>(az s3.1 s3.2).bind fun x7=>some (.nxt (s3.1.set s3.2.toNat (r9.1,r9.2),IntKind.i64.wrap (s3.2+1)))) else (some (.brk (s3.1,s3.2)))
def nS (p0a:List ((List Int)×(List (Int×Int×Int×Int)))):Option (List ((List Int)×(List (Int×Int×Int×Int)))):=
 (mkI 48 (p0a.length:Int) (([],[]):(List Int)×(List (Int×Int×Int×Int)))).bind fun x1=>ax (ai (jS p0a) aC (x1,0)) (fun r=>some r) (fun s4=>some s4.1)
def gW (p0a:Int×(List ((List Int)×(List (Int×Int×Int×Int))))):Option (Int×(List ((List Int)×(List (Int×Int×Int×Int))))):=
 (nS p0a.2).bind fun r1=>some (p0a.1,r1)
def sp (p0a:Int×Int×Int×Int) (p1b:Int×Int×Int×Int):Option Bool:=
 if p0a.1 !=p1b.1 then (some false) else (if p0a.2.1 !=p1b.2.1 then (some false) else (if p0a.2.2.1 !=p1b.2.2.1 then (some false) else (if p0a.2.2.2 !=p1b.2.2.2 then (some false) else (some true))))
def k7 (p0a:List (Int×Int×Int×Int)) (p1b:List (Int×Int×Int×Int)) (s3:Int):Option (Out Bool Int):=
 if decide (s3<(p0a.length:Int)) then ((az p0a s3).bind fun x5=>(az p1b s3).bind fun x6=>(sp (x5.1,x5.2.1,x5.2.2.1,x5.2.2.2) (x6.1,x6.2.1,x6.2.2.1,x6.2.2.2)).bind fun r3=>if r3 then (some (.nxt (IntKind.i64.wrap (s3+1)))) else (some (.ret false))) else (some (.brk s3))
def tO (p0a:List (Int×Int×Int×Int)) (p1b:List (Int×Int×Int×Int)):Option Bool:=
 if (p0a.length:Int) !=(p1b.length:Int) then (some false) else (ax (ai (k7 p0a p1b) aC 0) (fun r=>some r) (fun s4=>some true))
def pT (p0a:(List Int)×(List (Int×Int×Int×Int))) (p1b:(List Int)×(List (Int×Int×Int×Int))):Option Bool:=
 (sk p0a.1 p1b.1).bind fun r1=>if r1 then ((tO p0a.2 p1b.2).bind fun r2=>if r2 then (some true) else (some false)) else (some false)
def jT (p0a:List ((List Int)×(List (Int×Int×Int×Int)))) (p1b:List ((List Int)×(List (Int×Int×Int×Int)))) (s3:Int):Option (Out Bool Int):=
 if decide (s3<(p0a.length:Int)) then ((az p0a s3).bind fun x5=>(az p1b s3).bind fun x6=>(pT (x5.1,x5.2) (x6.1,x6.2)).bind fun r15=>if r15 then (some (.nxt (IntKind.i64.wrap (s3+1)))) else (some (.ret false))) else (some (.brk s3))
def rh (p0a:List ((List Int)×(List (Int×Int×Int×Int)))) (p1b:List ((List Int)×(List (Int×Int×Int×Int)))):Option Bool:=
 if (p0a.length:Int) !=(p1b.length:Int) then (some false) else (ax (ai (jT p0a p1b) aC 0) (fun r=>some r) (fun s4=>some true))
def mw (p0a:Int×(List ((List Int)×(List (Int×Int×Int×Int))))) (p1b:Int×(List ((List Int)×(List (Int×Int×Int×Int))))):Option Bool:=
 if p0a.1 !=p1b.1 then (some false) else ((rh p0a.2 p1b.2).bind fun r1=>if r1 then (some true) else (some false))
def pU (p0a:List (Int×Int)) (p1left:Int):Option Int:=
 if decide (IntKind.i64.wrap (p1left - (p0a.length:Int))<0) then (some (-1)) else (some (IntKind.i64.wrap (p1left - (p0a.length:Int))))
def pV (p0a:(List (Int×Int))×(List (Int×Int))) (p1left:Int):Option Int:=
 (pU p0a.1 p1left).bind fun r1=>if decide (r1<0) then (some (-1)) else ((pU p0a.2 r1).bind fun r2=>if decide (r2<0) then (some (-1)) else (some r2))
def my (p0a:Int×Bool×((List (Int×Int))×(List (Int×Int)))) (p1left:Int):Option Int:=
 (pV (p0a.2.2.1,p0a.2.2.2) p1left).bind fun r1=>if decide (r1<0) then (some (-1)) else (some r1)
def gX (p0a:List (Int×Bool×((List (Int×Int))×(List (Int×Int))))) (s3:Int×Int):Option (Out Int (Int×Int)):=
 if decide (s3.2<(p0a.length:Int)) then ((az p0a s3.2).bind fun x3=>(my (x3.1,x3.2.1,(x3.2.2.1,x3.2.2.2)) s3.1).bind fun r9=>if decide (r9<0) then (some (.ret (-1))) else (some (.nxt (r9,IntKind.i64.wrap (s3.2+1))))) else (some (.brk (s3.1,s3.2)))
def oA (p0a:List (Int×Bool×((List (Int×Int))×(List (Int×Int))))) (p1left:Int):Option Int:=
 if decide (IntKind.i64.wrap (p1left - (p0a.length:Int))<0) then (some (-1)) else (ax (ai (gX p0a) aC (IntKind.i64.wrap (p1left - (p0a.length:Int)),0)) (fun r=>some r) (fun s4=>some s4.1))
def dV (p0r:(List (Int×(List Bool)×(List (List Int))))×(List (Int×((List (Int×Int×Int×Int)))×Int))) (p1id:Int) (s3:Int):Option (Out Int Int):=
 if decide (s3<(p0r.2.length:Int)) then ((az p0r.2 s3).bind fun x3=>if x3.1==p1id then (some (.ret s3)) else (some (.nxt (IntKind.i64.wrap (s3+1))))) else (some (.brk s3))
def mz (p0r:(List (Int×(List Bool)×(List (List Int))))×(List (Int×((List (Int×Int×Int×Int)))×Int))) (p1id:Int):Option Int:=
 ax (ai (dV p0r p1id) aC 0) (fun r=>some r) (fun s4=>some (-1))
def ct (p0x:Int) (p1low:Int) (p2high:Int):Option Bool:=
 if decide (p0x≥p1low) then (some (decide (p0x≤p2high))) else (some false)
def nT (p0n:Int):Option Bool:=
 (ct p0n 0 8).bind fun r1=>some r1
def mZ (p0:Int×Int×Int×Int):Option Int:=
 Option.bind ((if p0.1==1 then (some (p0.1==1)) else (some (p0.1==2)):Option Bool)) (fun s1=>if s1 then (if p0.2.1 !=0 then (some (-1)) else (if p0.2.2.1 !=0 then (some (-1)) else (if p0.2.2.2 !=0 then (some (-1)) else (some 0)))) else (if p0.1==3 then ((nT p0.2.1).bind fun r3=>if r3 then (if p0.2.2.1 !=0 then (some (-1)) else (if p0.2.2.2 !=0 then (some (-1)) else (some 0))) else (some (-1))) else (Option.bind ((if p0.1==4 then (some (p0.1==4)) else (some (p0.1==5)):Option Bool)) (fun s2=>if s2 then (if p0.2.1 !=0 then (some (-1)) else (if p0.2.2.1 !=0 then (some (-1)) else (if p0.2.2.2 !=0 then (some (-1)) else (some 2)))) else (if p0.1==6 then (if p0.2.1 !=0 then (some (-1)) else (if p0.2.2.1 !=0 then (some (-1)) else (if p0.2.2.2 !=0 then (some (-1)) else (some 1)))) else (if p0.1==7 then (if p0.2.1 !=0 then (some (-1)) else ((ct p0.2.2.2 1 3).bind fun r1=>if r1 then ((ct p0.2.2.1 0 p0.2.2.2).bind fun r2=>if r2 then (some 1) else (some (-1))) else (some (-1)))) else (some (-1))))))))
def pW (p0e:(List (Int×Int×Int×Int))) (s3:Int×Int):Option (Out Bool (Int×Int)):=
 if decide (s3.2<(p0e.length:Int)) then ((az p0e s3.2).bind fun x3=>(mZ (x3.1,x3.2.1,x3.2.2.1,x3.2.2.2)).bind fun r3=>if decide (r3<0) then (some (.ret false)) else (if decide (r3>s3.1) then (some (.ret false)) else (some (.nxt (IntKind.i64.wrap ((IntKind.i64.wrap (s3.1 - r3))+1),IntKind.i64.wrap (s3.2+1)))))) else (some (.brk (s3.1,s3.2)))
def sq (p0e:(List (Int×Int×Int×Int))):Option Bool:=
 ax (ai (pW p0e) aC (0,0)) (fun r=>some r) (fun s4=>some (s4.1==1))
def jU (p0e:(List (Int×Int×Int×Int))):Option Bool:=
 if decide ((p0e.length:Int)≤24) then ((sq p0e).bind fun r1=>some r1) else (some false)
def k8 (p0l:List (Int×Int×Int×Int)) (s3:Int×Int):Option (Out Int (Int×Int)):=
 if decide (s3.1>0) then ((az p0l (IntKind.i64.wrap (s3.2 - 1))).bind fun x3=>(mZ (x3.1,x3.2.1,x3.2.2.1,x3.2.2.2)).bind fun r3=>some (.nxt (IntKind.i64.wrap ((IntKind.i64.wrap (s3.1 - 1))+r3),IntKind.i64.wrap (s3.2 - 1)))) else (some (.brk (s3.1,s3.2)))
def gr (p0l:List (Int×Int×Int×Int)):Option Int:=
 ax (ai (k8 p0l) aC (1,(p0l.length:Int))) (fun r=>some r) (fun s4=>some s4.2)
def dE:Nat→(List (Int×Int×Int×Int))→Option Int
 | 0,_=>none
 | n+1,p0l =>
  (az p0l (IntKind.i64.wrap ((p0l.length:Int) - 1))).bind fun x0=>Option.bind ((if x0.1==4 then (some (x0.1==4)) else (some (x0.1==5)):Option Bool)) (fun s1=>if s1 then ((chk (And (0≤(IntKind.i64.wrap ((p0l.length:Int) - 1))) ((IntKind.i64.wrap ((p0l.length:Int) - 1))≤(p0l.length:Int)))).bind fun _=>(gr (p0l.take ((IntKind.i64.wrap ((p0l.length:Int) - 1)).toNat))).bind fun r3=>(chk (And (0≤r3) (r3≤(p0l.length:Int)))).bind fun _=>((dE n) (p0l.take r3.toNat)).bind fun r9=>(chk (And (0≤r3) (And (r3≤(IntKind.i64.wrap ((p0l.length:Int) - 1))) ((IntKind.i64.wrap ((p0l.length:Int) - 1))≤(p0l.length:Int))))).bind fun _=>((dE n) ((p0l.take ((IntKind.i64.wrap ((p0l.length:Int) - 1)).toNat)).drop r3.toNat)).bind fun r11=>some (Min.min 100000 (IntKind.i64.wrap ((IntKind.i64.wrap (r9+r11))+1)))) else (if x0.1==6 then ((chk (And (0≤(IntKind.i64.wrap ((p0l.length:Int) - 1))) ((IntKind.i64.wrap ((p0l.length:Int) - 1))≤(p0l.length:Int)))).bind fun _=>((dE n) (p0l.take ((IntKind.i64.wrap ((p0l.length:Int) - 1)).toNat))).bind fun r13=>some (Min.min 100000 (IntKind.i64.wrap (r13+1)))) else (if x0.1==7 then ((chk (And (0≤(IntKind.i64.wrap ((p0l.length:Int) - 1))) ((IntKind.i64.wrap ((p0l.length:Int) - 1))≤(p0l.length:Int)))).bind fun _=>((dE n) (p0l.take ((IntKind.i64.wrap ((p0l.length:Int) - 1)).toNat))).bind fun r17=>some (Min.min 100000 (IntKind.i64.wrap ((IntKind.i64.wrap ((IntKind.i64.wrap (r17+3))*x0.2.2.2))+1)))) else (some 1))))
def kC (p0l:List (Int×Int×Int×Int)):Option (List (Int×Int×Int×Int)):=
 (cn 32 ([] :List (Int×Int×Int×Int)) p0l).bind fun z1=>some z1
def kD (p0a:(List (Int×Int×Int×Int))) (p1b:(List (Int×Int×Int×Int))) (p2t:Int×Int×Int×Int):Option (List (Int×Int×Int×Int)):=
 (kC p0a).bind fun r1=>(cn 32 r1 p1b).bind fun z1=>(cn 32 z1 ([(p2t.1,p2t.2.1,p2t.2.2.1,p2t.2.2.2)])).bind fun z2=>some z2
def oS (p0kind:Int):Option (List (Int×Int×Int×Int)):=
 some ([(p0kind,0,0,0)])
def jo:Nat→(List (Int×Int×Int×Int))→Int→Int→Option (List (Int×Int×Int×Int))
 | 0,_,_,_=>none
 | n+1,p0e,p1low,p2high =>
  if p2high==0 then ((oS 2).bind fun r0=>some r0) else (((jo n) p0e (Max.max 0 (IntKind.i64.wrap (p1low - 1))) (IntKind.i64.wrap (p2high - 1))).bind fun r3=>(kD p0e r3 (4,0,0,0)).bind fun r4=>if decide (p1low>0) then (some r4) else ((oS 2).bind fun r7=>(kD r4 r7 (5,0,0,0)).bind fun r8=>some r8))
def cv:Nat→(List (Int×Int×Int×Int))→Option (List (Int×Int×Int×Int))
 | 0,_=>none
 | n+1,p0l =>
  (az p0l (IntKind.i64.wrap ((p0l.length:Int) - 1))).bind fun x0=>Option.bind ((if x0.1==4 then (some (x0.1==4)) else (some (x0.1==5)):Option Bool)) (fun s1=>if s1 then ((chk (And (0≤(IntKind.i64.wrap ((p0l.length:Int) - 1))) ((IntKind.i64.wrap ((p0l.length:Int) - 1))≤(p0l.length:Int)))).bind fun _=>(gr (p0l.take ((IntKind.i64.wrap ((p0l.length:Int) - 1)).toNat))).bind fun r3=>(chk (And (0≤r3) (r3≤(p0l.length:Int)))).bind fun _=>((cv n) (p0l.take r3.toNat)).bind fun r10=>(chk (And (0≤r3) (And (r3≤(IntKind.i64.wrap ((p0l.length:Int) - 1))) ((IntKind.i64.wrap ((p0l.length:Int) - 1))≤(p0l.length:Int))))).bind fun _=>((cv n) ((p0l.take ((IntKind.i64.wrap ((p0l.length:Int) - 1)).toNat)).drop r3.toNat)).bind fun r12=>(kD r10 r12 (x0.1,x0.2.1,x0.2.2.1,x0.2.2.2)).bind fun r13=>some r13) else (if x0.1==6 then ((chk (And (0≤(IntKind.i64.wrap ((p0l.length:Int) - 1))) ((IntKind.i64.wrap ((p0l.length:Int) - 1))≤(p0l.length:Int)))).bind fun _=>((cv n) (p0l.take ((IntKind.i64.wrap ((p0l.length:Int) - 1)).toNat))).bind fun r18=>(kD r18 ([] :List (Int×Int×Int×Int)) (x0.1,x0.2.1,x0.2.2.1,x0.2.2.2)).bind fun r19=>some r19) else (if x0.1==7 then ((chk (And (0≤(IntKind.i64.wrap ((p0l.length:Int) - 1))) ((IntKind.i64.wrap ((p0l.length:Int) - 1))≤(p0l.length:Int)))).bind fun _=>((cv n) (p0l.take ((IntKind.i64.wrap ((p0l.length:Int) - 1)).toNat))).bind fun r24=>(jo fK r24 x0.2.2.1 x0.2.2.2).bind fun r25=>some r25) else (some ([(x0.1,x0.2.1,x0.2.2.1,x0.2.2.2)])))))
def k9 (p0e:(List (Int×Int×Int×Int))):Option (((List (Int×Int×Int×Int)))×Bool):=
 (jU p0e).bind fun r1=>if r1 then ((dE fK p0e).bind fun r2=>if decide (r2>5000) then (some ([],false)) else ((cv fK p0e).bind fun r3=>if decide ((r3.length:Int)>400) then (some ([],false)) else (some (r3,true)))) else (some ([],false))
def iD (p1from:Int) (p2to:Int) (s2:Int×List Int):Option (Out ((List Int)×Int×Int×(List Int)×Bool) (Int×List Int)):=
 if decide (s2.1<(s2.2.length:Int)) then (Option.bind (((chk (0≤s2.1)).bind fun _=>if (rQ (nJ p1from s2.1) 1)==1 then ((az s2.2 s2.1).bind fun x6=>(az s2.2 s2.1).bind fun x7=>some (s2.2.set s2.1.toNat (orI x6 p2to))) else (some s2.2):Option (List Int))) (fun s8=>some (.nxt (IntKind.i64.wrap (s2.1+1),s8)))) else (some (.brk (s2.1,s2.2)))
def na (p0p:(List Int)×Int×Int×(List Int)×Bool) (p1from:Int) (p2to:Int):Option ((List Int)×Int×Int×(List Int)×Bool):=
 ax (ai (iD p1from p2to) aC (0,p0p.2.2.2.1)) (fun r9=>some r9) (fun s10=>some (p0p.1,p0p.2.1,p0p.2.2.1,s10.2,p0p.2.2.2.2))
def cV:Nat→((List Int)×Int×Int×(List Int)×Bool)→(List (Int×Int×Int×Int))→Option ((Bool×Int×Int)×(List Int)×Int×Int×(List Int)×Bool)
 | 0,_,_=>none
 | n+1,p0,p1 =>
  (az p1 (IntKind.i64.wrap ((p1.length:Int) - 1))).bind fun x0=>if x0.1==2 then (some ((true,0,0),p0.1,p0.2.1,p0.2.2.1,p0.2.2.2.1,p0.2.2.2.2)) else (if x0.1==3 then ((cn 8 p0.1 ([x0.2.1])).bind fun z2=>(cn 8 p0.2.2.2.1 ([0])).bind fun z3=>some ((false,vR 1 (p0.1.length:Int),vR 1 (p0.1.length:Int)),z2,p0.2.1,p0.2.2.1,z3,p0.2.2.2.2)) else (if x0.1==4 then ((chk (And (0≤(IntKind.i64.wrap ((p1.length:Int) - 1))) ((IntKind.i64.wrap ((p1.length:Int) - 1))≤(p1.length:Int)))).bind fun _=>(gr (p1.take ((IntKind.i64.wrap ((p1.length:Int) - 1)).toNat))).bind fun r5=>(chk (And (0≤r5) (r5≤(p1.length:Int)))).bind fun _=>((cV n) (p0.1,p0.2.1,p0.2.2.1,p0.2.2.2.1,p0.2.2.2.2) (p1.take r5.toNat)).bind fun r7=>(chk (And (0≤r5) (And (r5≤(IntKind.i64.wrap ((p1.length:Int) - 1))) ((IntKind.i64.wrap ((p1.length:Int) - 1))≤(p1.length:Int))))).bind fun _=>((cV n) (r7.2.1,r7.2.2.1,r7.2.2.2.1,r7.2.2.2.2.1,r7.2.2.2.2.2) ((p1.take ((IntKind.i64.wrap ((p1.length:Int) - 1)).toNat)).drop r5.toNat)).bind fun r9=>(na (r9.2.1,r9.2.2.1,r9.2.2.2.1,r9.2.2.2.2.1,r9.2.2.2.2.2) r7.1.2.2 r9.1.2.1).bind fun r10=>if r7.1.1 then (Option.bind ((if r7.1.1 then (some (r9.1.1,orI r7.1.2.1 r9.1.2.1,r9.1.2.2)) else (some (r9.1.1,r7.1.2.1,r9.1.2.2)):Option (Bool×Int×Int))) (fun s11=>Option.bind ((if r9.1.1 then (some (s11.1,s11.2.1,orI r7.1.2.2 r9.1.2.2)) else (some (s11.1,s11.2.1,s11.2.2)):Option (Bool×Int×Int))) (fun s12=>some ((s12.1,s12.2.1,s12.2.2),r10.1,r10.2.1,r10.2.2.1,r10.2.2.2.1,r10.2.2.2.2)))) else (Option.bind ((if r7.1.1 then (some (false,orI r7.1.2.1 r9.1.2.1,r9.1.2.2)) else (some (false,r7.1.2.1,r9.1.2.2)):Option (Bool×Int×Int))) (fun s13=>Option.bind ((if r9.1.1 then (some (s13.1,s13.2.1,orI r7.1.2.2 r9.1.2.2)) else (some (s13.1,s13.2.1,s13.2.2)):Option (Bool×Int×Int))) (fun s14=>some ((s14.1,s14.2.1,s14.2.2),r10.1,r10.2.1,r10.2.2.1,r10.2.2.2.1,r10.2.2.2.2))))) else (if x0.1==5 then ((chk (And (0≤(IntKind.i64.wrap ((p1.length:Int) - 1))) ((IntKind.i64.wrap ((p1.length:Int) - 1))≤(p1.length:Int)))).bind fun _=>(gr (p1.take ((IntKind.i64.wrap ((p1.length:Int) - 1)).toNat))).bind fun r16=>(chk (And (0≤r16) (r16≤(p1.length:Int)))).bind fun _=>((cV n) (p0.1,p0.2.1,p0.2.2.1,p0.2.2.2.1,p0.2.2.2.2) (p1.take r16.toNat)).bind fun r18=>(chk (And (0≤r16) (And (r16≤(IntKind.i64.wrap ((p1.length:Int) - 1))) ((IntKind.i64.wrap ((p1.length:Int) - 1))≤(p1.length:Int))))).bind fun _=>((cV n) (r18.2.1,r18.2.2.1,r18.2.2.2.1,r18.2.2.2.2.1,r18.2.2.2.2.2) ((p1.take ((IntKind.i64.wrap ((p1.length:Int) - 1)).toNat)).drop r16.toNat)).bind fun r20=>if r18.1.1 then (some ((true,orI r18.1.2.1 r20.1.2.1,orI r18.1.2.2 r20.1.2.2),r20.2.1,r20.2.2.1,r20.2.2.2.1,r20.2.2.2.2.1,r20.2.2.2.2.2)) else (some ((r20.1.1,orI r18.1.2.1 r20.1.2.1,orI r18.1.2.2 r20.1.2.2),r20.2.1,r20.2.2.1,r20.2.2.2.1,r20.2.2.2.2.1,r20.2.2.2.2.2))) else (if x0.1==6 then ((chk (And (0≤(IntKind.i64.wrap ((p1.length:Int) - 1))) ((IntKind.i64.wrap ((p1.length:Int) - 1))≤(p1.length:Int)))).bind fun _=>((cV n) (p0.1,p0.2.1,p0.2.2.1,p0.2.2.2.1,p0.2.2.2.2) (p1.take ((IntKind.i64.wrap ((p1.length:Int) - 1)).toNat))).bind fun r22=>(na (r22.2.1,r22.2.2.1,r22.2.2.2.1,r22.2.2.2.2.1,r22.2.2.2.2.2) r22.1.2.2 r22.1.2.1).bind fun r23=>some ((true,r22.1.2.1,r22.1.2.2),r23.1,r23.2.1,r23.2.2.1,r23.2.2.2.1,r23.2.2.2.2)) else (some ((false,0,0),p0.1,p0.2.1,p0.2.2.1,p0.2.2.2.1,p0.2.2.2.2))))))
def cW (r0:(List (Int×Int×Int×Int))×Bool) (s2:Int×Int):Option (Out (((List Int)×Int×Int×(List Int)×Bool)×Bool) (Int×Int)):=
 if decide (s2.2<(r0.1.length:Int)) then (Option.bind (((az r0.1 s2.2).bind fun x3=>if x3.1==3 then (some (IntKind.i64.wrap (s2.1+1))) else (some s2.1):Option Int)) (fun s4=>some (.nxt (s4,IntKind.i64.wrap (s2.2+1))))) else (some (.brk (s2.1,s2.2)))
def ga (p0e:List (Int×Int×Int×Int)):Option (((List Int)×Int×Int×(List Int)×Bool)×Bool):=
 (k9 p0e).bind fun r0=>if r0.2 then (ax (ai (cW r0) aC (0,0)) (fun r5=>some r5) (fun s6=>if decide (s6.1>20) then (some ((([] :List Int),0,0,([] :List Int),false),false)) else ((cV fK (([] :List Int),0,0,([] :List Int),false) r0.1).bind fun r7=>some ((r7.2.1,r7.1.2.1,r7.1.2.2,r7.2.2.2.2.1,r7.1.1),true)))) else (some ((([] :List Int),0,0,([] :List Int),false),false))
def gu (p0p:(List Int)×Int×Int×(List Int)×Bool) (p1set:Int) (s6:Int×Int):Option (Out Int (Int×Int)):=
 if decide (s6.2<(p0p.1.length:Int)) then (Option.bind (((chk (0≤IntKind.i64.wrap (s6.2+1))).bind fun _=>if (rQ (nJ p1set (IntKind.i64.wrap (s6.2+1))) 1)==1 then ((az p0p.2.2.2.1 s6.2).bind fun x6=>some (orI s6.1 x6)) else (some s6.1):Option Int)) (fun s8=>some (.nxt (s8,IntKind.i64.wrap (s6.2+1))))) else (some (.brk (s6.1,s6.2)))
def gx (p0p:(List Int)×Int×Int×(List Int)×Bool) (p2letter:Int) (s7:Int×Int) (s13:Int×Int):Option (Out Int (Int×Int)):=
 if decide (s13.2<(p0p.1.length:Int)) then (Option.bind (((chk (0≤s13.2)).bind fun _=>if (rQ (nJ s7.1 s13.2) 1)==1 then ((az p0p.1 s13.2).bind fun x12=>if x12==p2letter then ((chk (0≤IntKind.i64.wrap (s13.2+1))).bind fun _=>some (orI s13.1 (vR 1 (IntKind.i64.wrap (s13.2+1))))) else (some s13.1)) else (some s13.1):Option Int)) (fun s15=>some (.nxt (s15,IntKind.i64.wrap (s13.2+1))))) else (some (.brk (s13.1,s13.2)))
def nU (p0p:(List Int)×Int×Int×(List Int)×Bool) (p1set:Int) (p2letter:Int):Option Int:=
 Option.bind ((if (rQ p1set 1)==1 then (some p0p.2.1) else (some 0):Option Int)) (fun s1=>ax (ai (gu p0p p1set) aC (s1,0)) (fun r=>some r) (fun s7=>ax (ai (gx p0p p2letter s7) aC (0,0)) (fun r=>some r) (fun s14=>some s14.1)))
def oB (p0l:List Int) (p1x:Int) (s3:Int):Option (Out Int Int):=
 if decide (s3<(p0l.length:Int)) then ((az p0l s3).bind fun x3=>if x3==p1x then (some (.ret s3)) else (some (.nxt (IntKind.i64.wrap (s3+1))))) else (some (.brk s3))
def nc (p0l:List Int) (p1x:Int):Option Int:=
 ax (ai (oB p0l p1x) aC 0) (fun r=>some r) (fun s4=>some (-1))
def lf (p0p:(List Int)×Int×Int×(List Int)×Bool) (p1set:Int):Option Bool:=
 if (rQ p1set 1)==1 then (if p0p.2.2.2.2 then (some true) else (some ((rQ (nJ p1set 1) p0p.2.2.1) !=0))) else (some ((rQ (nJ p1set 1) p0p.2.2.1) !=0))
def eW (p0:(List Int)×Int×Int×(List Int)×Bool) (s17:(List Int)×Int×Int×(List Bool)×(List (List Int))) (s23:(List Int)×(List Int)×Int):Option (Out ((Int×(List Bool)×(List (List Int)))×Bool) ((List Int)×(List Int)×Int)):=
 if decide (s23.2.2<9) then ((az s23.1 s17.2.1).bind fun x11=>(nU (p0.1,p0.2.1,p0.2.2.1,p0.2.2.2.1,p0.2.2.2.2) x11 s23.2.2).bind fun r27=>Option.bind ((if r27 !=0 then ((nc s23.1 r27).bind fun r29=>if decide (r29<0) then ((cn 8 s23.1 ([r27])).bind fun z30=>some (z30,(s23.1.length:Int))) else (some (s23.1,r29))) else (some (s23.1,-1)):Option ((List Int)×Int))) (fun s25=>(cn 8 s23.2.1 ([s25.2])).bind fun z31=>some (.nxt (s25.1,z31,IntKind.i64.wrap (s23.2.2+1))))) else (some (.brk (s23.1,s23.2.1,s23.2.2)))
def eX (p0:(List Int)×Int×Int×(List Int)×Bool) (p1:Int) (s17:(List Int)×Int×Int×(List Bool)×(List (List Int))):Option (Out ((Int×(List Bool)×(List (List Int)))×Bool) ((List Int)×Int×Int×(List Bool)×(List (List Int)))):=
 if decide (s17.2.1<(s17.1.length:Int)) then (ax (ai (eW p0 s17) aC (s17.1,([] :List Int),0)) (fun r=>some (.ret r)) (fun s24=>if decide ((s24.1.length:Int)>p1) then (some (.ret ((0,[],[]),false))) else ((az s24.1 s17.2.1).bind fun x12=>(lf (p0.1,p0.2.1,p0.2.2.1,p0.2.2.2.1,p0.2.2.2.2) x12).bind fun r30=>(cn 1 s17.2.2.2.1 ([r30])).bind fun z32=>(cn 24 s17.2.2.2.2 ([s24.2.1])).bind fun z33=>some (.nxt (s24.1,IntKind.i64.wrap (s17.2.1+1),s17.2.2.1,z32,z33))))) else (some (.brk (s17.1,s17.2.1,s17.2.2.1,s17.2.2.2.1,s17.2.2.2.2)))
def iE (p0:(List Int)×Int×Int×(List Int)×Bool) (p1:Int):Option ((Int×(List Bool)×(List (List Int)))×Bool):=
 ax (ai (eX p0 p1) aC ([1],0,0,[],[])) (fun r=>some r) (fun s18=>some ((s18.2.2.1,s18.2.2.2.1,s18.2.2.2.2),true))
def wm (s3:(List Int)×Int):Option (Out (Int×(List Bool)×(List (List Int))) ((List Int)×Int)):=
 if decide (s3.2<9) then ((cn 8 s3.1 ([-1])).bind fun z3=>some (.nxt (z3,IntKind.i64.wrap (s3.2+1)))) else (some (.brk (s3.1,s3.2)))
def oC:Option (Int×(List Bool)×(List (List Int))):=
 ax (ai (wm) aC (([] :List Int),0)) (fun r=>some r) (fun s4=>some (0,[false],[s4.1]))
def fM (p0:Int×(List Bool)×(List (List Int))) (p1:List Int) (p2:List Bool) (s17:(List Int)×(List Int)×Int×Int×(List Bool)×(List (List Int))) (s23:(List Int)×(List Int)×(List Int)×Int):Option (Out (Int×(List Bool)×(List (List Int))) ((List Int)×(List Int)×(List Int)×Int)):=
 if decide (s23.2.2.2<9) then ((az s23.2.1 s17.2.2.1).bind fun x79=>(az p0.2.2 x79).bind fun x80=>(az x80 s23.2.2.2).bind fun x81=>Option.bind ((if decide (x81≥0) then ((az p2 x81).bind fun x85=>if x85 then ((az p1 x81).bind fun x86=>(nc s23.1 x86).bind fun r28=>if decide (r28<0) then ((az p1 x81).bind fun x87=>(cn 8 s23.1 ([x87])).bind fun z47=>(cn 8 s23.2.1 ([x81])).bind fun z48=>some (z47,z48,(s23.1.length:Int))) else (some (s23.1,s23.2.1,r28))) else (some (s23.1,s23.2.1,-1))) else (some (s23.1,s23.2.1,-1)):Option ((List Int)×(List Int)×Int))) (fun s25=>(cn 8 s23.2.2.1 ([s25.2.2])).bind fun z49=>some (.nxt (s25.1,s25.2.1,z49,IntKind.i64.wrap (s23.2.2.2+1))))) else (some (.brk (s23.1,s23.2.1,s23.2.2.1,s23.2.2.2)))
def iV (p0:Int×(List Bool)×(List (List Int))) (p1:List Int) (p2:List Bool) (s17:(List Int)×(List Int)×Int×Int×(List Bool)×(List (List Int))):Option (Out (Int×(List Bool)×(List (List Int))) ((List Int)×(List Int)×Int×Int×(List Bool)×(List (List Int)))):=
 if decide (s17.2.2.1<(s17.1.length:Int)) then (ax (ai (fM p0 p1 p2 s17) aC (s17.1,s17.2.1,([] :List Int),0)) (fun r=>some (.ret r)) (fun s24=>(az s24.2.1 s17.2.2.1).bind fun x88=>(az p0.2.1 x88).bind fun x89=>(cn 1 s17.2.2.2.2.1 ([x89])).bind fun z50=>(cn 24 s17.2.2.2.2.2 ([s24.2.2.1])).bind fun z51=>some (.nxt (s24.1,s24.2.1,IntKind.i64.wrap (s17.2.2.1+1),s17.2.2.2.1,z50,z51)))) else (some (.brk (s17.1,s17.2.1,s17.2.2.1,s17.2.2.2.1,s17.2.2.2.2.1,s17.2.2.2.2.2)))
def gY (p0:Int×(List Bool)×(List (List Int))) (p1:List Int) (p2:List Bool):Option (Int×(List Bool)×(List (List Int))):=
 (az p2 p0.1).bind fun x1=>if x1 then ((az p1 p0.1).bind fun x2=>ax (ai (iV p0 p1 p2) aC ([x2],[p0.1],0,0,[],[])) (fun r=>some r) (fun s18=>some (s18.2.2.2.1,s18.2.2.2.2.1,s18.2.2.2.2.2))) else ((oC).bind fun r1=>some (r1.1,r1.2.1,r1.2.2))
def nV (p0a:List Int) (p1b:List Int) (s3:Int):Option (Out Int Int):=
 if decide (s3<(p0a.length:Int)) then (if decide (s3<(p1b.length:Int)) then ((az p0a s3).bind fun x9=>(az p1b s3).bind fun x10=>if decide (x9<x10) then (some (.ret (-1))) else ((az p0a s3).bind fun x11=>(az p1b s3).bind fun x12=>if decide (x11>x12) then (some (.ret 1)) else (some (.nxt (IntKind.i64.wrap (s3+1)))))) else (some (.brk s3))) else (some (.brk s3))
def nf (p0a:List Int) (p1b:List Int):Option Int:=
 ax (ai (nV p0a p1b) aC 0) (fun r=>some r) (fun s4=>if decide ((p0a.length:Int)<(p1b.length:Int)) then (some (-1)) else (if decide ((p0a.length:Int)>(p1b.length:Int)) then (some 1) else (some 0)))
def iF (p0a:Int×(List Bool)×(List (List Int))) (s71:(List Bool)×Int) (s77:(List Bool)×Int):Option (Out (List Bool) ((List Bool)×Int)):=
 if decide (s77.2<9) then (Option.bind (((az p0a.2.2 s71.2).bind fun x319=>(az x319 s77.2).bind fun x320=>if decide (x320≥0) then ((az p0a.2.2 s71.2).bind fun x321=>(az x321 s77.2).bind fun x322=>(az s77.1 x322).bind fun x323=>if x323 then ((az s77.1 s71.2).bind fun x324=>some (s77.1.set s71.2.toNat true)) else (some s77.1)) else (some s77.1):Option (List Bool))) (fun s79=>some (.nxt (s79,IntKind.i64.wrap (s77.2+1))))) else (some (.brk (s77.1,s77.2)))
def iG (p0a:Int×(List Bool)×(List (List Int))) (s71:(List Bool)×Int):Option (Out (List Bool) ((List Bool)×Int)):=
 if decide (s71.2<(p0a.2.1.length:Int)) then (ax (ai (iF p0a s71) aC (s71.1,0)) (fun r=>some (.ret r)) (fun s78=>some (.nxt (s78.1,IntKind.i64.wrap (s71.2+1))))) else (some (.brk (s71.1,s71.2)))
def lg (p0a:Int×(List Bool)×(List (List Int))) (s53:(List Bool)×Int):Option (Out (List Bool) ((List Bool)×Int)):=
 if decide (s53.2<(p0a.2.1.length:Int)) then (ax (ai (iG p0a) aC (s53.1,0)) (fun r=>some (.ret r)) (fun s72=>some (.nxt (s72.1,IntKind.i64.wrap (s53.2+1))))) else (some (.brk (s53.1,s53.2)))
def kE (p0a:Int×(List Bool)×(List (List Int))):Option (List Bool):=
 (cn 1 ([] :List Bool) p0a.2.1).bind fun z1=>ax (ai (lg p0a) aC (z1,0)) (fun r=>some r) (fun s54=>some s54.1)
def mA (p0a:Int×(List Bool)×(List (List Int))) (p1classes:List Int) (p2s:Int) (s5:(List Int)×Int):Option (Out (List Int) ((List Int)×Int)):=
 if decide (s5.2<9) then (Option.bind (((az p0a.2.2 p2s).bind fun x17=>(az x17 s5.2).bind fun x18=>if decide (x18<0) then ((cn 8 s5.1 ([-1])).bind fun z12=>some z12) else ((az p1classes x18).bind fun x19=>(cn 8 s5.1 ([x19])).bind fun z11=>some z11):Option (List Int))) (fun s7=>some (.nxt (s7,IntKind.i64.wrap (s5.2+1))))) else (some (.brk (s5.1,s5.2)))
def oT (p0a:Int×(List Bool)×(List (List Int))) (p1classes:List Int) (p2s:Int):Option (List Int):=
 (az p1classes p2s).bind fun x1=>ax (ai (mA p0a p1classes p2s) aC ([x1],0)) (fun r=>some r) (fun s6=>some s6.1)
def eY (p0:Int×(List Bool)×List (List Int)) (r0:List Bool) (s2:(List Int)×Int):Option (Out (List Int) ((List Int)×Int)):=
 if decide (s2.2<(p0.2.1.length:Int)) then ((az p0.2.1 s2.2).bind fun x3=>Option.bind ((if x3 then (some 1) else (some 0):Option Int)) (fun s4=>(az r0 s2.2).bind fun x5=>Option.bind ((if x5 then (some s4) else (some (-1)):Option Int)) (fun s6=>(cn 8 s2.1 ([s6])).bind fun z7=>some (.nxt (z7,IntKind.i64.wrap (s2.2+1)))))) else (some (.brk (s2.1,s2.2)))
def eZ (s13:(List (List Int))×(List Int)×Int) (r16:List Int) (s18:Int×Int):Option (Out (List Int) (Int×Int)):=
 if decide (s18.2<(s13.1.length:Int)) then (Option.bind (((az s13.1 s18.2).bind fun x19=>(nf x19 r16).bind fun r20=>if r20==0 then (some s18.2) else (some s18.1):Option Int)) (fun s21=>some (.nxt (s21,IntKind.i64.wrap (s18.2+1))))) else (some (.brk (s18.1,s18.2)))
def e7 (p0:Int×(List Bool)×List (List Int)) (s11:(List Int)×Int) (s13:(List (List Int))×(List Int)×Int):Option (Out (List Int) ((List (List Int))×(List Int)×Int)):=
 if decide (s13.2.2<(p0.2.1.length:Int)) then (Option.bind (((az s11.1 s13.2.2).bind fun x14=>if decide (x14<0) then ((cn 8 s13.2.1 ([(-1)])).bind fun z15=>some (s13.1,z15)) else ((oT (p0.1,p0.2.1,p0.2.2) s11.1 s13.2.2).bind fun r16=>ax (ai (eZ s13 r16) aC ((-1),0)) (fun r22=>none) (fun s23=>Option.bind ((if decide (s23.1<0) then ((cn 24 s13.1 ([r16])).bind fun z24=>some (z24,(s13.1.length:Int))) else (some (s13.1,s23.1)):Option ((List (List Int))×Int))) (fun s25=>(cn 8 s13.2.1 ([s25.2])).bind fun z26=>some (s25.1,z26)))):Option ((List (List Int))×List Int))) (fun s27=>some (.nxt (s27.1,s27.2,IntKind.i64.wrap (s13.2.2+1))))) else (some (.brk (s13.1,s13.2.1,s13.2.2)))
def kF (p0:Int×(List Bool)×List (List Int)) (s11:(List Int)×Int):Option (Out (List Int) ((List Int)×Int)):=
 if decide (s11.2≤(p0.2.1.length:Int)) then (ax (ai (e7 p0 s11) aC (([] :List (List Int)),([] :List Int),0)) (fun r28=>some (.ret r28)) (fun s29=>(nf s29.2.1 s11.1).bind fun r30=>if r30==0 then (some (.ret s11.1)) else (some (.nxt (s29.2.1,IntKind.i64.wrap (s11.2+1)))))) else (some (.brk (s11.1,s11.2)))
def iH (p0:Int×(List Bool)×List (List Int)):Option (List Int):=
 (kE (p0.1,p0.2.1,p0.2.2)).bind fun r0=>ax (ai (eY p0 r0) aC (([] :List Int),0)) (fun r8=>some r8) (fun s9=>ax (ai (kF p0) aC (s9.1,0)) (fun r31=>some r31) (fun s32=>some s32.1))
def jV (p0a:Int×(List Bool)×(List (List Int))):Option (Int×(List Bool)×(List (List Int))):=
 (iH (p0a.1,p0a.2.1,p0a.2.2)).bind fun r1=>(kE (p0a.1,p0a.2.1,p0a.2.2)).bind fun r2=>(gY (p0a.1,p0a.2.1,p0a.2.2) r1 r2).bind fun r3=>some (r3.1,r3.2.1,r3.2.2)
def gy (p0e:(List (Int×Int×Int×Int))):Option ((Int×(List Bool)×(List (List Int)))×Bool):=
 (ga p0e).bind fun r1=>if r1.2 then ((iE (r1.1.1,r1.1.2.1,r1.1.2.2.1,r1.1.2.2.2.1,r1.1.2.2.2.2) 200).bind fun r2=>if r2.2 then ((jV (r2.1.1,r2.1.2.1,r2.1.2.2)).bind fun r3=>if decide ((r3.2.1.length:Int)>12) then (some ((0,[],[]),false)) else (some ((r3.1,r3.2.1,r3.2.2),true))) else (some ((0,[],[]),false))) else (some ((0,[],[]),false))
def eQ (p0:Int×(List Bool)×(List (List Int))) (p1:Int×(List Bool)×(List (List Int))) (s3:Int):Option (Out Bool Int):=
 if decide (s3<(p0.2.1.length:Int)) then ((az p0.2.1 s3).bind fun x5=>(az p1.2.1 s3).bind fun x6=>if x5 !=x6 then (some (.ret false)) else (some (.nxt (IntKind.i64.wrap (s3+1))))) else (some (.brk s3))
def eR (p0:Int×(List Bool)×(List (List Int))) (p1:Int×(List Bool)×(List (List Int))) (s7:Int):Option (Out Bool Int):=
 if decide (s7<(p0.2.2.length:Int)) then ((az p0.2.2 s7).bind fun x11=>(az p1.2.2 s7).bind fun x12=>(nf x11 x12).bind fun r9=>if r9 !=0 then (some (.ret false)) else (some (.nxt (IntKind.i64.wrap (s7+1))))) else (some (.brk s7))
def fa (p0:Int×(List Bool)×(List (List Int))) (p1:Int×(List Bool)×(List (List Int))):Option Bool:=
 if p0.1 !=p1.1 then (some false) else (if (p0.2.1.length:Int) !=(p1.2.1.length:Int) then (some false) else (if (p0.2.2.length:Int) !=(p1.2.2.length:Int) then (some false) else (ax (ai (eQ p0 p1) aC 0) (fun r=>some r) (fun s4=>ax (ai (eR p0 p1) aC 0) (fun r=>some r) (fun s8=>some true)))))
def gz (p0l:List (Int×(List Bool)×(List (List Int)))) (p1a:Int×(List Bool)×(List (List Int))) (s3:Int):Option (Out Int Int):=
 if decide (s3<(p0l.length:Int)) then ((az p0l s3).bind fun x3=>(fa (x3.1,x3.2.1,x3.2.2) (p1a.1,p1a.2.1,p1a.2.2)).bind fun r9=>if r9 then (some (.ret s3)) else (some (.nxt (IntKind.i64.wrap (s3+1))))) else (some (.brk s3))
def lJ (p0l:List (Int×(List Bool)×(List (List Int)))) (p1a:Int×(List Bool)×(List (List Int))):Option Int:=
 ax (ai (gz p0l p1a) aC 0) (fun r=>some r) (fun s4=>some (-1))
def cX (p0:List (Int×((List (Int×Int×Int×Int)))×Int)) (s7:Int×(List (Int×(List Bool)×(List (List Int))))×(List (Int×((List (Int×Int×Int×Int)))×Int))):Option (Out (((List (Int×(List Bool)×(List (List Int))))×(List (Int×((List (Int×Int×Int×Int)))×Int)))×Bool) (Int×(List (Int×(List Bool)×(List (List Int))))×(List (Int×((List (Int×Int×Int×Int)))×Int)))):=
 if decide (s7.1<(p0.length:Int)) then ((az p0 s7.1).bind fun x17=>(gy x17.2.1).bind fun r20=>if r20.2 then ((az p0 s7.1).bind fun x18=>(ct x18.1 1 99).bind fun r21=>if r21 then (if decide (s7.1>0) then ((az p0 (IntKind.i64.wrap (s7.1 - 1))).bind fun x21=>(az p0 s7.1).bind fun x22=>if decide (x21.1≥x22.1) then (some (.ret (([],[]),false))) else ((lJ s7.2.1 (r20.1.1,r20.1.2.1,r20.1.2.2)).bind fun r25=>Option.bind ((if decide (r25<0) then ((cn 56 s7.2.1 ([(r20.1.1,r20.1.2.1,r20.1.2.2)])).bind fun z17=>some ((s7.2.1.length:Int),z17,s7.2.2)) else (some (r25,s7.2.1,s7.2.2)):Option (Int×(List (Int×(List Bool)×(List (List Int))))×(List (Int×((List (Int×Int×Int×Int)))×Int))))) (fun s10=>(az p0 s7.1).bind fun x23=>(az p0 s7.1).bind fun x24=>(kC x24.2.1).bind fun r27=>(cn 40 s10.2.2 ([(x23.1,r27,s10.1)])).bind fun z18=>some (.nxt (IntKind.i64.wrap (s7.1+1),s10.2.1,z18))))) else ((lJ s7.2.1 (r20.1.1,r20.1.2.1,r20.1.2.2)).bind fun r22=>Option.bind ((if decide (r22<0) then ((cn 56 s7.2.1 ([(r20.1.1,r20.1.2.1,r20.1.2.2)])).bind fun z14=>some ((s7.2.1.length:Int),z14,s7.2.2)) else (some (r22,s7.2.1,s7.2.2)):Option (Int×(List (Int×(List Bool)×(List (List Int))))×(List (Int×((List (Int×Int×Int×Int)))×Int))))) (fun s9=>(az p0 s7.1).bind fun x19=>(az p0 s7.1).bind fun x20=>(kC x20.2.1).bind fun r24=>(cn 40 s9.2.2 ([(x19.1,r24,s9.1)])).bind fun z15=>some (.nxt (IntKind.i64.wrap (s7.1+1),s9.2.1,z15))))) else (some (.ret (([],[]),false)))) else (some (.ret (([],[]),false)))) else (some (.brk (s7.1,s7.2.1,s7.2.2)))
def nW (p0:List (Int×((List (Int×Int×Int×Int)))×Int)):Option (((List (Int×(List Bool)×(List (List Int))))×(List (Int×((List (Int×Int×Int×Int)))×Int)))×Bool):=
 if decide ((p0.length:Int)>4) then (some (([],[]),false)) else (ax (ai (cX p0) aC (0,[],[])) (fun r=>some r) (fun s8=>some ((s8.2.1,s8.2.2),true)))
def gZ (p0a:(List (Int×Int×Int×Int))) (p1b:(List (Int×Int×Int×Int))) (s3:Int):Option (Out Bool Int):=
 if decide (s3<(p0a.length:Int)) then ((az p0a s3).bind fun x5=>(az p1b s3).bind fun x6=>if (x5.1==x6.1)&&((x5.2.1==x6.2.1)&&((x5.2.2.1==x6.2.2.1)&&((x5.2.2.2==x6.2.2.2)&&true))) then (some (.nxt (IntKind.i64.wrap (s3+1)))) else (some (.ret false))) else (some (.brk s3))
def lh (p0a:(List (Int×Int×Int×Int))) (p1b:(List (Int×Int×Int×Int))):Option Bool:=
 if (p0a.length:Int) !=(p1b.length:Int) then (some false) else (ax (ai (gZ p0a p1b) aC 0) (fun r=>some r) (fun s4=>some true))
def dN (p0:(List (Int×(List Bool)×(List (List Int))))×(List (Int×((List (Int×Int×Int×Int)))×Int))) (p1:(List (Int×(List Bool)×(List (List Int))))×(List (Int×((List (Int×Int×Int×Int)))×Int))) (s3:Int):Option (Out Bool Int):=
 if decide (s3<(p0.1.length:Int)) then ((az p0.1 s3).bind fun x5=>(az p1.1 s3).bind fun x6=>(fa (x5.1,x5.2.1,x5.2.2) (x6.1,x6.2.1,x6.2.2)).bind fun r15=>if r15 then (some (.nxt (IntKind.i64.wrap (s3+1)))) else (some (.ret false))) else (some (.brk s3))
def dO (p0:(List (Int×(List Bool)×(List (List Int))))×(List (Int×((List (Int×Int×Int×Int)))×Int))) (p1:(List (Int×(List Bool)×(List (List Int))))×(List (Int×((List (Int×Int×Int×Int)))×Int))) (s7:Int):Option (Out Bool Int):=
 if decide (s7<(p0.2.length:Int)) then ((az p0.2 s7).bind fun x19=>(az p1.2 s7).bind fun x20=>if x19.1 !=x20.1 then (some (.ret false)) else ((az p0.2 s7).bind fun x21=>(az p1.2 s7).bind fun x22=>(lh x21.2.1 x22.2.1).bind fun r24=>if r24 then ((az p0.2 s7).bind fun x23=>(az p1.2 s7).bind fun x24=>if x23.2.2 !=x24.2.2 then (some (.ret false)) else (some (.nxt (IntKind.i64.wrap (s7+1))))) else (some (.ret false)))) else (some (.brk s7))
def fA (p0:(List (Int×(List Bool)×(List (List Int))))×(List (Int×((List (Int×Int×Int×Int)))×Int))) (p1:(List (Int×(List Bool)×(List (List Int))))×(List (Int×((List (Int×Int×Int×Int)))×Int))):Option Bool:=
 if (p0.1.length:Int) !=(p1.1.length:Int) then (some false) else (if (p0.2.length:Int) !=(p1.2.length:Int) then (some false) else (ax (ai (dN p0 p1) aC 0) (fun r=>some r) (fun s4=>ax (ai (dO p0 p1) aC 0) (fun r=>some r) (fun s8=>some true))))
def fB (p0r:(List (Int×(List Bool)×(List (List Int))))×(List (Int×((List (Int×Int×Int×Int)))×Int))):Option Bool:=
 (nW p0r.2).bind fun r1=>if r1.2 then ((fA (r1.1.1,r1.1.2) (p0r.1,p0r.2)).bind fun r2=>some r2) else (some false)
def iI (p0a:Int×(List Bool)×(List (List Int))) (s3:Int×Int×(List Bool)×(List (List Int))):Option (Out (Int×(List Bool)×(List (List Int))) (Int×Int×(List Bool)×(List (List Int)))):=
 if decide (s3.1<(p0a.2.2.length:Int)) then ((az p0a.2.2 s3.1).bind fun x3=>(cn 8 ([] :List Int) x3).bind fun z6=>(cn 24 s3.2.2.2 ([z6])).bind fun z7=>some (.nxt (IntKind.i64.wrap (s3.1+1),s3.2.1,s3.2.2.1,z7))) else (some (.brk (s3.1,s3.2.1,s3.2.2.1,s3.2.2.2)))
def pX (p0a:Int×(List Bool)×(List (List Int))):Option (Int×(List Bool)×(List (List Int))):=
 (cn 1 ([] :List Bool) p0a.2.1).bind fun z1=>ax (ai (iI p0a) aC (0,p0a.1,z1,[])) (fun r=>some r) (fun s4=>some (s4.2.1,s4.2.2.1,s4.2.2.2))
def ed (p0r:(List (Int×(List Bool)×(List (List Int))))×(List (Int×((List (Int×Int×Int×Int)))×Int))) (p1id:Int):Option ((Int×(List Bool)×(List (List Int)))×Bool):=
 (mz (p0r.1,p0r.2) p1id).bind fun r1=>(fB (p0r.1,p0r.2)).bind fun r2=>if r2 then (if decide (r1<0) then (some ((0,[],[]),false)) else ((az p0r.2 r1).bind fun x1=>(az p0r.1 x1.2.2).bind fun x2=>(pX (x2.1,x2.2.1,x2.2.2)).bind fun r5=>some ((r5.1,r5.2.1,r5.2.2),true))) else (some ((0,[],[]),false))
def B5 (p0g:(List Int)×(List (Int×Int×Int×Int))) (p1e:Int×Int×Int×Int):Option Bool:=
 (ct p1e.1 1 99).bind fun r1=>if r1 then ((ct p1e.2.1 0 (IntKind.i64.wrap ((p0g.1.length:Int) - 1))).bind fun r2=>if r2 then ((ct p1e.2.2.1 0 (IntKind.i64.wrap ((p0g.1.length:Int) - 1))).bind fun r3=>if r3 then ((ct p1e.2.2.2 0 2).bind fun r4=>some r4) else (some false)) else (some false)) else (some false)
def ng (p0g:(List Int)×(List (Int×Int×Int×Int))) (s3:Int):Option (Out Bool Int):=
 if decide (s3<(p0g.1.length:Int)) then ((az p0g.1 s3).bind fun x3=>(ct x3 0 2).bind fun r3=>if r3 then (some (.nxt (IntKind.i64.wrap (s3+1)))) else (some (.ret false))) else (some (.brk s3))
def je (p0g:(List Int)×(List (Int×Int×Int×Int))) (s7:Int):Option (Out Bool Int):=
 if decide (s7<(p0g.2.length:Int)) then ((az p0g.2 s7).bind fun x10=>(B5 (p0g.1,p0g.2) (x10.1,x10.2.1,x10.2.2.1,x10.2.2.2)).bind fun r6=>if r6 then (if decide (s7>0) then ((az p0g.2 (IntKind.i64.wrap (s7 - 1))).bind fun x11=>(az p0g.2 s7).bind fun x12=>if decide (x11.1≥x12.1) then (some (.ret false)) else (some (.nxt (IntKind.i64.wrap (s7+1))))) else (some (.nxt (IntKind.i64.wrap (s7+1))))) else (some (.ret false))) else (some (.brk s7))
def bI (p0g:(List Int)×(List (Int×Int×Int×Int))):Option Bool:=
 ax (ai (ng p0g) aC 0) (fun r=>some r) (fun s4=>ax (ai (je p0g) aC 0) (fun r=>some r) (fun s8=>(ct (p0g.1.length:Int) 1 5).bind fun r7=>if r7 then (some (decide ((p0g.2.length:Int)≤12))) else (some false)))
def fU (p0a:Int×(List Bool)×(List (List Int))) (s11:Int) (s15:Int):Option (Out Bool Int):=
 if decide (s15<9) then ((az p0a.2.2 s11).bind fun x20=>(az x20 s15).bind fun x21=>(ct x21 (-1) (IntKind.i64.wrap ((p0a.2.1.length:Int) - 1))).bind fun r22=>if r22 then (some (.nxt (IntKind.i64.wrap (s15+1)))) else (some (.ret false))) else (some (.brk s15))
def lj (p0a:Int×(List Bool)×(List (List Int))) (s11:Int):Option (Out Bool Int):=
 if decide (s11<(p0a.2.1.length:Int)) then ((az p0a.2.2 s11).bind fun x15=>if (x15.length:Int) !=9 then (some (.ret false)) else (ax (ai (fU p0a s11) aC 0) (fun r=>some (.ret r)) (fun s16=>some (.nxt (IntKind.i64.wrap (s11+1)))))) else (some (.brk s11))
def nh (p0a:Int×(List Bool)×(List (List Int))):Option Bool:=
 (ct p0a.1 0 (IntKind.i64.wrap ((p0a.2.1.length:Int) - 1))).bind fun r1=>if r1 then (if (p0a.2.2.length:Int) !=(p0a.2.1.length:Int) then (some false) else (ax (ai (lj p0a) aC 0) (fun r=>some r) (fun s12=>some true))) else (some false)
def cy (p0a:Int×(List Bool)×(List (List Int))):Option Bool:=
 if decide ((p0a.2.1.length:Int)≤12) then ((nh (p0a.1,p0a.2.1,p0a.2.2)).bind fun r1=>some r1) else (some false)
def jf (p0g:(List Int)×(List (Int×Int×Int×Int))) (p1a:Int×(List Bool)×(List (List Int))) (p2node:Int) (p3s:Int):Option Bool:=
 (bI (p0g.1,p0g.2)).bind fun r1=>if r1 then ((cy (p1a.1,p1a.2.1,p1a.2.2)).bind fun r2=>if r2 then ((ct p2node 0 (IntKind.i64.wrap ((p0g.1.length:Int) - 1))).bind fun r3=>if r3 then ((ct p3s 0 (IntKind.i64.wrap ((p1a.2.1.length:Int) - 1))).bind fun r4=>some r4) else (some false)) else (some false)) else (some false)
def kG (p0a:Int×(List Bool)×(List (List Int))) (p2v:Int) (s3:Int×Int):Option (Out Int (Int×Int)):=
 if decide (s3.1≥0) then ((chk (0≤s3.1)).bind fun _=>if (rQ (nJ s3.2 s3.1) 1)==0 then ((chk (0≤s3.1)).bind fun _=>(az p0a.2.2 s3.1).bind fun x5=>(az x5 (IntKind.i64.wrap (6+p2v))).bind fun x6=>some (.nxt (x6,orI s3.2 (vR 1 s3.1)))) else (some (.brk (s3.1,s3.2)))) else (some (.brk (s3.1,s3.2)))
def eF (p0a:Int×(List Bool)×(List (List Int))) (p1s:Int) (p2v:Int):Option Int:=
 ax (ai (kG p0a p2v) aC (p1s,0)) (fun r=>some r) (fun s4=>some s4.2)
def jW (p0g:(List Int)×(List (Int×Int×Int×Int))) (p1node:Int) (s9:(List (Int×Bool))×Int):Option (Out (List (Int×Bool)) ((List (Int×Bool))×Int)):=
 if decide (s9.2<(p0g.2.length:Int)) then (Option.bind ((Option.bind (((az p0g.2 s9.2).bind fun x33=>if x33.2.1==p1node then ((az p0g.2 s9.2).bind fun x34=>(cn 16 s9.1 ([(x34.1,false)])).bind fun z17=>some z17) else (some s9.1):Option (List (Int×Bool)))) (fun s13=>(az p0g.2 s9.2).bind fun x35=>if x35.2.2.1==p1node then ((az p0g.2 s9.2).bind fun x36=>(cn 16 s13 ([(x36.1,true)])).bind fun z18=>some z18) else (some s13)):Option (List (Int×Bool)))) (fun s12=>some (.nxt (s12,IntKind.i64.wrap (s9.2+1))))) else (some (.brk (s9.1,s9.2)))
def oU (p0g:(List Int)×(List (Int×Int×Int×Int))) (p1node:Int):Option (List (Int×Bool)):=
 ax (ai (jW p0g p1node) aC (([] :List (Int×Bool)),0)) (fun r=>some r) (fun s10=>some s10.1)
def l5 (p0g:(List Int)×(List (Int×Int×Int×Int))) (p1id:Int) (s3:Int):Option (Out Int Int):=
 if decide (s3<(p0g.2.length:Int)) then ((az p0g.2 s3).bind fun x3=>if x3.1==p1id then (some (.ret s3)) else (some (.nxt (IntKind.i64.wrap (s3+1))))) else (some (.brk s3))
def hY (p0g:(List Int)×(List (Int×Int×Int×Int))) (p1id:Int):Option Int:=
 ax (ai (l5 p0g p1id) aC 0) (fun r=>some r) (fun s4=>some (-1))
def fC (p0e:Int×Int×Int×Int) (p1inverse:Bool):Option Int:=
 if p1inverse then (some (IntKind.i64.wrap ((IntKind.i64.wrap (2*p0e.2.2.2))+1))) else (some (IntKind.i64.wrap (2*p0e.2.2.2)))
def ni (p0e:Int×Int×Int×Int) (p1inverse:Bool):Option Int:=
 if p1inverse then (some p0e.2.1) else (some p0e.2.2.1)
def gA (p1:Int×(List Bool)×(List (List Int))) (r1:Int) (r2:List (Int×Bool)) (s31:(List ((Int×Bool)×Int×Int))×Int) (x67:Int×Int×Int×Int) (s37:Int×Int):Option (Out (List ((Int×Bool)×Int×Int)) (Int×Int)):=
 if decide (s37.2<(p1.2.1.length:Int)) then (Option.bind (((az p1.2.2 s37.2).bind fun x83=>(az r2 s31.2).bind fun x84=>(fC (x67.1,x67.2.1,x67.2.2.1,x67.2.2.2) x84.2).bind fun r53=>(az x83 r53).bind fun x85=>(chk (0≤s37.2)).bind fun _=>if (rQ (nJ r1 s37.2) 1)==1 then (if decide (x85≥0) then ((chk (0≤x85)).bind fun _=>some (orI s37.1 (vR 1 x85))) else (some s37.1)) else (some s37.1):Option Int)) (fun s39=>some (.nxt (s39,IntKind.i64.wrap (s37.2+1))))) else (some (.brk (s37.1,s37.2)))
def gB (p1:Int×(List Bool)×(List (List Int))) (r2:List (Int×Bool)) (s31:(List ((Int×Bool)×Int×Int))×Int) (x67:Int×Int×Int×Int) (s38:Int×Int) (s44:(List ((Int×Bool)×Int×Int))×Int):Option (Out (List ((Int×Bool)×Int×Int)) ((List ((Int×Bool)×Int×Int))×Int)):=
 if decide (s44.2<(p1.2.1.length:Int)) then (Option.bind (((chk (0≤s44.2)).bind fun _=>if (rQ (nJ s38.1 s44.2) 1)==1 then ((az r2 s31.2).bind fun x96=>(az r2 s31.2).bind fun x97=>(ni (x67.1,x67.2.1,x67.2.2.1,x67.2.2.2) x97.2).bind fun r59=>(cn 32 s44.1 ([((x96.1,x96.2),r59,s44.2)])).bind fun z18=>some z18) else (some s44.1):Option (List ((Int×Bool)×Int×Int)))) (fun s46=>some (.nxt (s46,IntKind.i64.wrap (s44.2+1))))) else (some (.brk (s44.1,s44.2)))
def gC (p0:(List Int)×(List (Int×Int×Int×Int))) (p1:Int×(List Bool)×(List (List Int))) (r1:Int) (r2:List (Int×Bool)) (s31:(List ((Int×Bool)×Int×Int))×Int):Option (Out (List ((Int×Bool)×Int×Int)) ((List ((Int×Bool)×Int×Int))×Int)):=
 if decide (s31.2<(r2.length:Int)) then ((az r2 s31.2).bind fun x66=>(hY (p0.1,p0.2) x66.1).bind fun r41=>(az p0.2 r41).bind fun x67=>ax (ai (gA p1 r1 r2 s31 x67) aC (0,0)) (fun r=>some (.ret r)) (fun s38=>ax (ai (gB p1 r2 s31 x67 s38) aC (s31.1,0)) (fun r=>some (.ret r)) (fun s45=>some (.nxt (s45.1,IntKind.i64.wrap (s31.2+1)))))) else (some (.brk (s31.1,s31.2)))
def jq (p0:(List Int)×(List (Int×Int×Int×Int))) (p1:Int×(List Bool)×(List (List Int))) (p2:Int) (p3:Int):Option (List ((Int×Bool)×Int×Int)):=
 (az p0.1 p2).bind fun x1=>(eF (p1.1,p1.2.1,p1.2.2) p3 x1).bind fun r1=>(oU (p0.1,p0.2) p2).bind fun r2=>ax (ai (gC p0 p1 r1 r2) aC (([] :List ((Int×Bool)×Int×Int)),0)) (fun r=>some r) (fun s32=>some s32.1)
def gD (p0:(List Int)×(List (Int×Int×Int×Int))) (p1:Int×(List Bool)×(List (List Int))) (s3:(List Int)×Int):Option (Out (List Int) ((List Int)×Int)):=
 if decide (s3.2<IntKind.i64.wrap ((p0.1.length:Int)*(p1.2.1.length:Int))) then ((cn 8 s3.1 ([-1])).bind fun z3=>some (.nxt (z3,IntKind.i64.wrap (s3.2+1)))) else (some (.brk (s3.1,s3.2)))
def gE (p1:Int×(List Bool)×(List (List Int))) (s21:(List Int)×(List Int)×Int) (r3:List ((Int×Bool)×Int×Int)) (s27:(List Int)×(List Int)×Int):Option (Out (List Int) ((List Int)×(List Int)×Int)):=
 if decide (s27.2.2<(r3.length:Int)) then (Option.bind (((az r3 s27.2.2).bind fun x111=>(az r3 s27.2.2).bind fun x112=>(az s27.1 (IntKind.i64.wrap ((IntKind.i64.wrap (x111.2.1*(p1.2.1.length:Int)))+x112.2.2))).bind fun x113=>if decide (x113<0) then ((az s27.2.1 s21.2.2).bind fun x114=>(az s27.1 x114).bind fun x115=>(az s27.1 (IntKind.i64.wrap ((IntKind.i64.wrap (x111.2.1*(p1.2.1.length:Int)))+x112.2.2))).bind fun x116=>(cn 8 s27.2.1 ([IntKind.i64.wrap ((IntKind.i64.wrap (x111.2.1*(p1.2.1.length:Int)))+x112.2.2)])).bind fun z21=>some (s27.1.set (IntKind.i64.wrap ((IntKind.i64.wrap (x111.2.1*(p1.2.1.length:Int)))+x112.2.2)).toNat (IntKind.i64.wrap (x115+1)),z21)) else (some (s27.1,s27.2.1)):Option ((List Int)×(List Int)))) (fun s29=>some (.nxt (s29.1,s29.2,IntKind.i64.wrap (s27.2.2+1))))) else (some (.brk (s27.1,s27.2.1,s27.2.2)))
def gF (p0:(List Int)×(List (Int×Int×Int×Int))) (p1:Int×(List Bool)×(List (List Int))) (s21:(List Int)×(List Int)×Int):Option (Out (List Int) ((List Int)×(List Int)×Int)):=
 if decide (s21.2.2<(s21.2.1.length:Int)) then ((az s21.2.1 s21.2.2).bind fun x79=>(chk ((p1.2.1.length:Int)≠0)).bind fun _=>(az s21.2.1 s21.2.2).bind fun x80=>(chk ((p1.2.1.length:Int)≠0)).bind fun _=>(jq (p0.1,p0.2) (p1.1,p1.2.1,p1.2.2) (Gy x79 (p1.2.1.length:Int)) (Int.tmod x80 (p1.2.1.length:Int))).bind fun r3=>ax (ai (gE p1 s21 r3) aC (s21.1,s21.2.1,0)) (fun r=>some (.ret r)) (fun s28=>some (.nxt (s28.1,s28.2.1,IntKind.i64.wrap (s21.2.2+1))))) else (some (.brk (s21.1,s21.2.1,s21.2.2)))
def lK (p0:(List Int)×(List (Int×Int×Int×Int))) (p1:Int×(List Bool)×(List (List Int))) (p2:Int):Option (List Int):=
 ax (ai (gD p0 p1) aC (([] :List Int),0)) (fun r=>some r) (fun s4=>(az ([IntKind.i64.wrap ((IntKind.i64.wrap (p2*(p1.2.1.length:Int)))+p1.1)]) 0).bind fun x1=>(az s4.1 x1).bind fun x2=>ax (ai (gF p0 p1) aC (s4.1.set x1.toNat 0,[IntKind.i64.wrap ((IntKind.i64.wrap (p2*(p1.2.1.length:Int)))+p1.1)],0)) (fun r=>some r) (fun s22=>some s22.1))
def fb (p1a:Int×(List Bool)×(List (List Int))) (r1:Int) (s3:Int):Option (Out Bool Int):=
 if decide (s3<(p1a.2.1.length:Int)) then ((chk (0≤s3)).bind fun _=>if (rQ (nJ r1 s3) 1)==1 then ((az p1a.2.1 s3).bind fun x4=>if x4 then (some (.ret true)) else (some (.nxt (IntKind.i64.wrap (s3+1))))) else (some (.nxt (IntKind.i64.wrap (s3+1))))) else (some (.brk s3))
def iJ (p0g:(List Int)×(List (Int×Int×Int×Int))) (p1a:Int×(List Bool)×(List (List Int))) (p2node:Int) (p3s:Int):Option Bool:=
 (az p0g.1 p2node).bind fun x1=>(eF (p1a.1,p1a.2.1,p1a.2.2) p3s x1).bind fun r1=>ax (ai (fb p1a r1) aC 0) (fun r=>some r) (fun s4=>some false)
def lL (p0m:Int) (s5:(List Int)×Int):Option (Out (List Int) ((List Int)×Int)):=
 if decide (s5.2<30) then (Option.bind (((chk (0≤s5.2)).bind fun _=>if (rQ (nJ p0m s5.2) 1)==1 then ((cn 8 s5.1 ([s5.2])).bind fun z6=>some z6) else (some s5.1):Option (List Int))) (fun s7=>some (.nxt (s7,IntKind.i64.wrap (s5.2+1))))) else (some (.brk (s5.1,s5.2)))
def uR (p0m:Int):Option (List Int):=
 ax (ai (lL p0m) aC (([] :List Int),0)) (fun r=>some r) (fun s6=>some s6.1)
def iK (p0g:(List Int)×(List (Int×Int×Int×Int))) (p1a:Int×(List Bool)×(List (List Int))) (r1:List Int) (s5:Int×Int):Option (Out (List Int) (Int×Int)):=
 if decide (s5.2<(r1.length:Int)) then (Option.bind (((az r1 s5.2).bind fun x6=>if decide (x6≥0) then ((chk ((p1a.2.1.length:Int)≠0)).bind fun _=>(chk ((p1a.2.1.length:Int)≠0)).bind fun _=>(iJ (p0g.1,p0g.2) (p1a.1,p1a.2.1,p1a.2.2) (Gy s5.2 (p1a.2.1.length:Int)) (Int.tmod s5.2 (p1a.2.1.length:Int))).bind fun r7=>if r7 then ((chk ((p1a.2.1.length:Int)≠0)).bind fun _=>(chk (0≤Gy s5.2 (p1a.2.1.length:Int))).bind fun _=>some (orI s5.1 (vR 1 (Gy s5.2 (p1a.2.1.length:Int))))) else (some s5.1)) else (some s5.1):Option Int)) (fun s7=>some (.nxt (s7,IntKind.i64.wrap (s5.2+1))))) else (some (.brk (s5.1,s5.2)))
def nj (p0g:(List Int)×(List (Int×Int×Int×Int))) (p1a:Int×(List Bool)×(List (List Int))) (p2source:Int):Option (List Int):=
 (lK (p0g.1,p0g.2) (p1a.1,p1a.2.1,p1a.2.2) p2source).bind fun r1=>ax (ai (iK p0g p1a r1) aC (0,0)) (fun r=>some r) (fun s6=>(uR s6.1).bind fun r8=>some r8)
def kH (s11:(List (Int×Int))×Int) (r6:List Int) (s15:(List (Int×Int))×Int):Option (Out (List (Int×Int)) ((List (Int×Int))×Int)):=
 if decide (s15.2<(r6.length:Int)) then ((az r6 s15.2).bind fun x9=>(cn 16 s15.1 ([(s11.2,x9)])).bind fun z9=>some (.nxt (z9,IntKind.i64.wrap (s15.2+1)))) else (some (.brk (s15.1,s15.2)))
def cJ (p0g:(List Int)×(List (Int×Int×Int×Int))) (p1a:Int×(List Bool)×(List (List Int))) (s11:(List (Int×Int))×Int):Option (Out (List (Int×Int)) ((List (Int×Int))×Int)):=
 if decide (s11.2<(p0g.1.length:Int)) then ((jf (p0g.1,p0g.2) (p1a.1,p1a.2.1,p1a.2.2) 0 0).bind fun r5=>if r5 then ((nj (p0g.1,p0g.2) (p1a.1,p1a.2.1,p1a.2.2) s11.2).bind fun r6=>ax (ai (kH s11 r6) aC (s11.1,0)) (fun r=>some (.ret r)) (fun s16=>some (.nxt (s16.1,IntKind.i64.wrap (s11.2+1))))) else (some (.brk (s11.1,s11.2)))) else (some (.brk (s11.1,s11.2)))
def iL (p0g:(List Int)×(List (Int×Int×Int×Int))) (p1a:Int×(List Bool)×(List (List Int))):Option (List (Int×Int)):=
 ax (ai (cJ p0g p1a) aC (([] :List (Int×Int)),0)) (fun r=>some r) (fun s12=>some s12.1)
def cC (p0r:(List (Int×(List Bool)×(List (List Int))))×(List (Int×((List (Int×Int×Int×Int)))×Int))) (p1g:(List Int)×(List (Int×Int×Int×Int))) (p2id:Int):Option ((List (Int×Int))×Bool):=
 (ed (p0r.1,p0r.2) p2id).bind fun r1=>if r1.2 then ((bI (p1g.1,p1g.2)).bind fun r2=>if r2 then ((iL (p1g.1,p1g.2) (r1.1.1,r1.1.2.1,r1.1.2.2)).bind fun r3=>some (r3,true)) else (some (([] :List (Int×Int)),false))) else (some (([] :List (Int×Int)),false))
def eh (p0h:Int×(List ((List Int)×(List (Int×Int×Int×Int))))) (s3:Int):Option (Out Bool Int):=
 if decide (s3<(p0h.2.length:Int)) then ((az p0h.2 s3).bind fun x7=>(bI (x7.1,x7.2)).bind fun r15=>if r15 then ((az p0h.2 s3).bind fun x8=>(az p0h.2 0).bind fun x9=>(nf x8.1 x9.1).bind fun r18=>if r18 !=0 then (some (.ret false)) else (some (.nxt (IntKind.i64.wrap (s3+1))))) else (some (.ret false))) else (some (.brk s3))
def bR (p0h:Int×(List ((List Int)×(List (Int×Int×Int×Int))))):Option Bool:=
 ax (ai (eh p0h) aC 0) (fun r=>some r) (fun s4=>(ct (p0h.2.length:Int) 1 8).bind fun r19=>if r19 then ((ct p0h.1 1 (IntKind.i64.wrap ((IntKind.i64.wrap (999 - (p0h.2.length:Int)))+1))).bind fun r20=>some r20) else (some false))
def fc (p0h:Int×(List ((List Int)×(List (Int×Int×Int×Int))))):Option Int:=
 (bR (p0h.1,p0h.2)).bind fun r1=>if r1 then (some (IntKind.i64.wrap ((IntKind.i64.wrap (p0h.1+(p0h.2.length:Int))) - 1))) else (some 0)
def oV (p0g:(List Int)×(List (Int×Int×Int×Int))):Option ((List Int)×(List (Int×Int×Int×Int))):=
 (cn 8 ([] :List Int) p0g.1).bind fun z1=>(cn 32 ([] :List (Int×Int×Int×Int)) p0g.2).bind fun z2=>some (z1,z2)
def jg (p0h:Int×(List ((List Int)×(List (Int×Int×Int×Int))))) (p1version:Int):Option (((List Int)×(List (Int×Int×Int×Int)))×Bool):=
 (bR (p0h.1,p0h.2)).bind fun r1=>if r1 then ((fc (p0h.1,p0h.2)).bind fun r2=>(ct p1version p0h.1 r2).bind fun r3=>if r3 then ((az p0h.2 (IntKind.i64.wrap (p1version - p0h.1))).bind fun x1=>(oV (x1.1,x1.2)).bind fun r6=>some ((r6.1,r6.2),true)) else (some (([],[]),false))) else (some (([],[]),false))
def kI (p0a:Int×Int) (p1b:Int×Int):Option Bool:=
 if decide (p0a.1<p1b.1) then (some true) else (if p0a.1==p1b.1 then (some (decide (p0a.2<p1b.2))) else (some false))
def nk (p0l:List (Int×Int)) (s3:Int):Option (Out Bool Int):=
 if decide (s3<(p0l.length:Int)) then ((az p0l s3).bind fun x9=>(ct x9.1 0 4).bind fun r7=>if r7 then ((az p0l s3).bind fun x10=>(ct x10.2 0 4).bind fun r8=>if r8 then (if decide (s3>0) then ((az p0l (IntKind.i64.wrap (s3 - 1))).bind fun x11=>(az p0l s3).bind fun x12=>(kI (x11.1,x11.2) (x12.1,x12.2)).bind fun r9=>if r9 then (some (.nxt (IntKind.i64.wrap (s3+1)))) else (some (.ret false))) else (some (.nxt (IntKind.i64.wrap (s3+1))))) else (some (.ret false))) else (some (.ret false))) else (some (.brk s3))
def gG (p0l:List (Int×Int)):Option Bool:=
 ax (ai (nk p0l) aC 0) (fun r=>some r) (fun s4=>some true)
def mB (p0l:List (Int×Int)) (p1p:Int×Int) (s3:Int):Option (Out Bool Int):=
 if decide (s3<(p0l.length:Int)) then ((az p0l s3).bind fun x3=>if ((x3.1==p1p.1)&&((x3.2==p1p.2)&&true)) then (some (.ret true)) else (some (.nxt (IntKind.i64.wrap (s3+1))))) else (some (.brk s3))
def kJ (p0l:List (Int×Int)) (p1p:Int×Int):Option Bool:=
 ax (ai (mB p0l p1p) aC 0) (fun r=>some r) (fun s4=>some false)
def mC (p0l:List (Int×Int)) (p1p:Int×Int) (s1:Int):Option (Out (List (Int×Int)) Int):=
 if decide (s1<(p0l.length:Int)) then ((az p0l s1).bind fun x4=>(kI (x4.1,x4.2) (p1p.1,p1p.2)).bind fun r5=>if r5 then (some (.nxt (IntKind.i64.wrap (s1+1)))) else (some (.brk s1))) else (some (.brk s1))
def mO (p0l:List (Int×Int)) (p1p:Int×Int):Option (List (Int×Int)):=
 ax (ai (mC p0l p1p) aC 0) (fun r6=>some r6) (fun s7=>if decide (s7<(p0l.length:Int)) then ((az p0l s7).bind fun x9=>if Bool.and.match_1 (fun (u10:Bool)=>Bool) (x9.1==p1p.1) (fun (u11:Unit)=>false) (fun (u12:Unit)=>Bool.and.match_1 (fun (u13:Bool)=>Bool) (x9.2==p1p.2) (fun (u14:Unit)=>false) (fun (u15:Unit)=>true)) then (some p0l) else ((chk (And (0≤s7) (s7≤(p0l.length:Int)))).bind fun _=>(cn 16 ([] :List (Int×Int)) ((p0l.take s7.toNat).drop 0)).bind fun z22=>(cn 16 z22 ([(p1p.1,p1p.2)])).bind fun z23=>(chk (And (0≤s7) (s7≤(p0l.length:Int)))).bind fun _=>(cn 16 z23 ((p0l.take p0l.length).drop s7.toNat)).bind fun z25=>some z25)) else ((chk (And (0≤s7) (s7≤(p0l.length:Int)))).bind fun _=>(cn 16 ([] :List (Int×Int)) ((p0l.take s7.toNat).drop 0)).bind fun z32=>(cn 16 z32 ([(p1p.1,p1p.2)])).bind fun z33=>(chk (And (0≤s7) (s7≤(p0l.length:Int)))).bind fun _=>(cn 16 z33 ((p0l.take p0l.length).drop s7.toNat)).bind fun z35=>some z35))
def eS (p0a:List (Int×Int)) (p1b:List (Int×Int)) (s5:(List (Int×Int))×Int):Option (Out (List (Int×Int)) ((List (Int×Int))×Int)):=
 if decide (s5.2<(p0a.length:Int)) then (Option.bind (((az p0a s5.2).bind fun x11=>(kJ p1b (x11.1,x11.2)).bind fun r11=>if r11 then (some s5.1) else ((az p0a s5.2).bind fun x12=>(mO s5.1 (x12.1,x12.2)).bind fun r12=>some r12):Option (List (Int×Int)))) (fun s7=>some (.nxt (s7,IntKind.i64.wrap (s5.2+1))))) else (some (.brk (s5.1,s5.2)))
def dw (p0a:List (Int×Int)) (p1b:List (Int×Int)):Option (List (Int×Int)):=
 ax (ai (eS p0a p1b) aC (([] :List (Int×Int)),0)) (fun r=>some r) (fun s6=>some s6.1)
def ln (p0d:(List (Int×Int))×(List (Int×Int))) (s3:Int):Option (Out Bool Int):=
 if decide (s3<(p0d.1.length:Int)) then ((az p0d.1 s3).bind fun x3=>(kJ p0d.2 (x3.1,x3.2)).bind fun r3=>if r3 then (some (.ret false)) else (some (.nxt (IntKind.i64.wrap (s3+1))))) else (some (.brk s3))
def pY (p0d:(List (Int×Int))×(List (Int×Int))):Option Bool:=
 ax (ai (ln p0d) aC 0) (fun r=>some r) (fun s4=>(gG p0d.1).bind fun r4=>if r4 then ((gG p0d.2).bind fun r5=>some r5) else (some false))
def hZ (p0a:List (Int×Int)) (s3:(List (Int×Int))×Int):Option (Out (List (Int×Int)) ((List (Int×Int))×Int)):=
 if decide (s3.2<(p0a.length:Int)) then ((az p0a s3.2).bind fun x3=>(mO s3.1 (x3.1,x3.2)).bind fun r3=>some (.nxt (r3,IntKind.i64.wrap (s3.2+1)))) else (some (.brk (s3.1,s3.2)))
def ic (p1b:List (Int×Int)) (s7:(List (Int×Int))×Int):Option (Out (List (Int×Int)) ((List (Int×Int))×Int)):=
 if decide (s7.2<(p1b.length:Int)) then ((az p1b s7.2).bind fun x6=>(mO s7.1 (x6.1,x6.2)).bind fun r6=>some (.nxt (r6,IntKind.i64.wrap (s7.2+1)))) else (some (.brk (s7.1,s7.2)))
def fV (p0a:List (Int×Int)) (p1b:List (Int×Int)):Option (List (Int×Int)):=
 ax (ai (hZ p0a) aC (([] :List (Int×Int)),0)) (fun r=>some r) (fun s4=>ax (ai (ic p1b) aC (s4.1,0)) (fun r=>some r) (fun s8=>some s8.1))
def dx (p0l:List (Int×Int)) (p1d:(List (Int×Int))×(List (Int×Int))) (s4:Bool×Int):Option (Out ((List (Int×Int))×Bool) (Bool×Int)):=
 if decide (s4.2<(p1d.1.length:Int)) then (if s4.1 then ((az p1d.1 s4.2).bind fun x3=>(kJ p0l (x3.1,x3.2)).bind fun r7=>some (.nxt (!r7,IntKind.i64.wrap (s4.2+1)))) else (some (.nxt (false,IntKind.i64.wrap (s4.2+1))))) else (some (.brk (s4.1,s4.2)))
def dy (p0l:List (Int×Int)) (p1d:(List (Int×Int))×(List (Int×Int))) (s8:Bool×Int):Option (Out ((List (Int×Int))×Bool) (Bool×Int)):=
 if decide (s8.2<(p1d.2.length:Int)) then (if s8.1 then ((az p1d.2 s8.2).bind fun x6=>(kJ p0l (x6.1,x6.2)).bind fun r10=>some (.nxt (r10,IntKind.i64.wrap (s8.2+1)))) else (some (.nxt (false,IntKind.i64.wrap (s8.2+1))))) else (some (.brk (s8.1,s8.2)))
def lp (p0l:List (Int×Int)) (p1d:(List (Int×Int))×(List (Int×Int))):Option ((List (Int×Int))×Bool):=
 Option.bind (((pY (p1d.1,p1d.2)).bind fun r3=>if r3 then ((gG p0l).bind fun r4=>some r4) else (some false):Option Bool)) (fun s1=>ax (ai (dx p0l p1d) aC (s1,0)) (fun r=>some r) (fun s5=>ax (ai (dy p0l p1d) aC (s5.1,0)) (fun r=>some r) (fun s9=>if s9.1 then ((dw p0l p1d.2).bind fun r11=>(fV r11 p1d.1).bind fun r12=>some (r12,true)) else ((cn 16 ([] :List (Int×Int)) p0l).bind fun z1=>some (z1,false)))))
def fN (p0l:List (Int×Int)) (p1m:Int×Bool×((List (Int×Int))×(List (Int×Int)))):Option ((List (Int×Int))×Bool):=
 if p1m.2.1 then ((gG p1m.2.2.1).bind fun r2=>if r2 then (if decide ((p1m.2.2.2.length:Int)>0) then ((cn 16 ([] :List (Int×Int)) p0l).bind fun z3=>some (z3,false)) else ((cn 16 ([] :List (Int×Int)) p1m.2.2.1).bind fun z2=>some (z2,true))) else ((cn 16 ([] :List (Int×Int)) p0l).bind fun z1=>some (z1,false))) else ((lp p0l (p1m.2.2.1,p1m.2.2.2)).bind fun r1=>some (r1.1,r1.2))
def ig (p0a:List (Int×Int)) (p1b:List (Int×Int)) (s3:Int):Option (Out Bool Int):=
 if decide (s3<(p0a.length:Int)) then ((az p0a s3).bind fun x5=>(az p1b s3).bind fun x6=>if (x5.1==x6.1)&&((x5.2==x6.2)&&true) then (some (.nxt (IntKind.i64.wrap (s3+1)))) else (some (.ret false))) else (some (.brk s3))
def iM (p0a:List (Int×Int)) (p1b:List (Int×Int)):Option Bool:=
 if (p0a.length:Int) !=(p1b.length:Int) then (some false) else (ax (ai (ig p0a p1b) aC 0) (fun r=>some r) (fun s4=>some true))
def cz (p0:Int×(List ((List Int)×(List (Int×Int×Int×Int))))) (p1:(List (Int×(List Bool)×(List (List Int))))×(List (Int×((List (Int×Int×Int×Int)))×Int))) (p2:Int) (p4:List (Int×Bool×((List (Int×Int))×(List (Int×Int))))) (s3:(List (Int×Int))×Int×Int):Option (Out Bool ((List (Int×Int))×Int×Int)):=
 if decide (s3.2.2<(p4.length:Int)) then ((az p4 s3.2.2).bind fun x9=>(fN s3.1 (x9.1,x9.2.1,(x9.2.2.1,x9.2.2.2))).bind fun r17=>(az p4 s3.2.2).bind fun x10=>(jg (p0.1,p0.2) x10.1).bind fun r18=>(cC (p1.1,p1.2) (r18.1.1,r18.1.2) p2).bind fun r19=>if r17.2 then (if r18.2 then ((az p4 s3.2.2).bind fun x11=>if decide (x11.1≤s3.2.1) then (some (.ret false)) else ((iM r17.1 r19.1).bind fun r20=>if r20 then ((az p4 s3.2.2).bind fun x12=>some (.nxt (r17.1,x12.1,IntKind.i64.wrap (s3.2.2+1)))) else (some (.ret false)))) else (some (.ret false))) else (some (.ret false))) else (some (.brk (s3.1,s3.2.1,s3.2.2)))
def ij (p0:Int×(List ((List Int)×(List (Int×Int×Int×Int))))) (p1:(List (Int×(List Bool)×(List (List Int))))×(List (Int×((List (Int×Int×Int×Int)))×Int))) (p2:Int) (p3:Int) (p4:List (Int×Bool×((List (Int×Int))×(List (Int×Int))))):Option Bool:=
 (jg (p0.1,p0.2) p3).bind fun r1=>(cC (p1.1,p1.2) (r1.1.1,r1.1.2) p2).bind fun r2=>if r1.2 then (if r2.2 then (ax (ai (cz p0 p1 p2 p4) aC (r2.1,p3,0)) (fun r=>some r) (fun s4=>some true)) else (some false)) else (some false)
def sr (p0a:Int×Int):Option (Int×Int):=
 some (p0a.1,p0a.2)
def lq (p0a:List (Int×Int)) (s3:(List (Int×Int))×Int):Option (Out (List (Int×Int)) ((List (Int×Int))×Int)):=
 if decide (s3.2<(p0a.length:Int)) then ((az p0a s3.2).bind fun x6=>(sr (x6.1,x6.2)).bind fun r3=>(az s3.1 s3.2).bind fun x7=>some (.nxt (s3.1.set s3.2.toNat (r3.1,r3.2),IntKind.i64.wrap (s3.2+1)))) else (some (.brk (s3.1,s3.2)))
def nl (p0a:List (Int×Int)):Option (List (Int×Int)):=
 (mkI 16 (p0a.length:Int) ((0,0):Int×Int)).bind fun x1=>ax (ai (lq p0a) aC (x1,0)) (fun r=>some r) (fun s4=>some s4.1)
def pZ (p0a:(List (Int×Int))×(List (Int×Int))):Option ((List (Int×Int))×(List (Int×Int))):=
 (nl p0a.1).bind fun r1=>(nl p0a.2).bind fun r2=>some (r1,r2)
def mD (p0a:Int×Bool×((List (Int×Int))×(List (Int×Int)))):Option (Int×Bool×((List (Int×Int))×(List (Int×Int)))):=
 (pZ (p0a.2.2.1,p0a.2.2.2)).bind fun r1=>some (p0a.1,p0a.2.1,(r1.1,r1.2))
def il (p0a:List (Int×Bool×((List (Int×Int))×(List (Int×Int))))) (s3:(List (Int×Bool×((List (Int×Int))×(List (Int×Int)))))×Int):Option (Out (List (Int×Bool×((List (Int×Int))×(List (Int×Int))))) ((List (Int×Bool×((List (Int×Int))×(List (Int×Int)))))×Int)):=
 if decide (s3.2<(p0a.length:Int)) then ((az p0a s3.2).bind fun x6=>(mD (x6.1,x6.2.1,(x6.2.2.1,x6.2.2.2))).bind fun r9=>(az s3.1 s3.2).bind fun x7=>some (.nxt (s3.1.set s3.2.toNat (r9.1,r9.2.1,(r9.2.2.1,r9.2.2.2)),IntKind.i64.wrap (s3.2+1)))) else (some (.brk (s3.1,s3.2)))
def fW (p0a:List (Int×Bool×((List (Int×Int))×(List (Int×Int))))):Option (List (Int×Bool×((List (Int×Int))×(List (Int×Int))))):=
 (mkI 64 (p0a.length:Int) ((0,false,([],[])):Int×Bool×((List (Int×Int))×(List (Int×Int))))).bind fun x1=>ax (ai (il p0a) aC (x1,0)) (fun r=>some r) (fun s4=>some s4.1)
def aP (p0s:List (Int×((List (Int×Int×Int×Int)))×Int)) (p1f:(Int×((List (Int×Int×Int×Int)))×Int)→Option Bool) (s3:Int):Option (Out Int Int):=
 if decide (s3<(p0s.length:Int)) then ((az p0s s3).bind fun x3=>(p1f (x3.1,x3.2.1,x3.2.2)).bind fun r6=>if r6 then (some (.ret s3)) else (some (.nxt (IntKind.i64.wrap (s3+1))))) else (some (.brk s3))
def bu (p0s:List (Int×((List (Int×Int×Int×Int)))×Int)) (p1f:(Int×((List (Int×Int×Int×Int)))×Int)→Option Bool):Option Int:=
 ax (ai (aP p0s p1f) aC 0) (fun r=>some r) (fun s4=>some (-1))
def jX (p0q:Int×((List (Int×Int×Int×Int)))×Int) (q0:Int):Option Bool:=
 some (p0q.1==q0)
def mE (p0r:(List (Int×(List Bool)×(List (List Int))))×(List (Int×((List (Int×Int×Int×Int)))×Int))) (p1id:Int):Option Int:=
 (bu p0r.2 (fun a0=>jX a0 p1id)).bind fun r1=>some r1
def bg (p0n:Int) (p1a:Int) (p2b:Int):Option Bool:=
 if decide (p0n≥p1a) then (some (decide (p0n≤p2b))) else (some false)
def jr (p0n:Int):Option Bool:=
 (bg p0n 0 8).bind fun r1=>some r1
def p7 (p0t:Int×Int×Int×Int):Option Bool:=
 if p0t.1==3 then ((jr p0t.2.1).bind fun r3=>if r3 then (if p0t.2.2.1==0 then (some (p0t.2.2.2==0)) else (some false)) else (some false)) else (if p0t.1==7 then (if p0t.2.1==0 then ((bg p0t.2.2.1 0 p0t.2.2.2).bind fun r1=>if r1 then ((bg p0t.2.2.2 1 3).bind fun r2=>some r2) else (some false)) else (some false)) else (Option.bind ((if p0t.1==1 then (some (p0t.1==1)) else (if p0t.1==2 then (some (p0t.1==2)) else (if p0t.1==4 then (some (p0t.1==4)) else (if p0t.1==5 then (some (p0t.1==5)) else (some (p0t.1==6))))):Option Bool)) (fun s1=>if s1 then (some ((p0t.1==p0t.1)&&((p0t.2.1==0)&&((p0t.2.2.1==0)&&((p0t.2.2.2==0)&&true))))) else (some false))))
def p8 (p0e:List (Int×Int×Int×Int)) (s1:(List (Tr (Int×Int×Int×Int)))×Int):Option (Out (Tr (Int×Int×Int×Int)) ((List (Tr (Int×Int×Int×Int)))×Int)):=
 if decide (s1.2<(p0e.length:Int)) then ((az p0e s1.2).bind fun x2=>Option.bind ((Option.bind ((if x2.1==4 then (some (x2.1==4)) else (some (x2.1==5)):Option Bool)) (fun s3=>if s3 then (some 2) else (Option.bind ((if x2.1==6 then (some (x2.1==6)) else (some (x2.1==7)):Option Bool)) (fun s4=>if s4 then (some 1) else (some 0)))):Option Int)) (fun s5=>(p7 (x2.1,x2.2.1,x2.2.2.1,x2.2.2.2)).bind fun r6=>if r6 then (if decide ((IntKind.i64.wrap ((s1.1.length:Int) - s5))<0) then (some (.ret Tr.nil)) else ((chk (And (0≤(IntKind.i64.wrap ((s1.1.length:Int) - s5))) ((IntKind.i64.wrap ((s1.1.length:Int) - s5))≤(s1.1.length:Int)))).bind fun _=>(cn 8 ([] :List (Tr (Int×Int×Int×Int))) (s1.1.drop ((IntKind.i64.wrap ((s1.1.length:Int) - s5)).toNat))).bind fun z10=>(chk (And (0≤(IntKind.i64.wrap ((s1.1.length:Int) - s5))) ((IntKind.i64.wrap ((s1.1.length:Int) - s5))≤(s1.1.length:Int)))).bind fun _=>(cn 8 (s1.1.take ((IntKind.i64.wrap ((s1.1.length:Int) - s5)).toNat)) ([Tr.node (x2.1,x2.2.1,x2.2.2.1,x2.2.2.2) z10])).bind fun z12=>some (.nxt (z12,IntKind.i64.wrap (s1.2+1))))) else (some (.ret Tr.nil)))) else (some (.brk (s1.1,s1.2)))
def mP (p0e:List (Int×Int×Int×Int)):Option (Tr (Int×Int×Int×Int)):=
 ax (ai (p8 p0e) aC (([] :List (Tr (Int×Int×Int×Int))),0)) (fun r13=>some r13) (fun s14=>if (s14.1.length:Int) !=1 then (some Tr.nil) else ((az s14.1 0).bind fun x15=>some x15))
def ss (p0e:List (Int×Int×Int×Int)):Option Bool:=
 (mP p0e).bind fun r0=>some (cond.match_1 (fun (u4:Bool)=>Bool) (Tr.isNil r0) (fun (u5:Unit)=>false) (fun (u6:Unit)=>true))
def jY (p0e:(List (Int×Int×Int×Int))):Option Bool:=
 if decide ((p0e.length:Int)≤24) then ((ss p0e).bind fun r1=>some r1) else (some false)
def a8 (mrec:(Tr (Int×Int×Int×Int))→Option Int) (p0x:Tr (Int×Int×Int×Int)) (z1:(Int×Int×Int×Int)×List (Tr (Int×Int×Int×Int))) (s3:Int×Int):Option (Out Int (Int×Int)):=
 if decide (s3.2<(z1.2.length:Int)) then (Option.bind (((az z1.2 s3.2).bind fun x4=>(Tr.get p0x).bind fun z5=>(Tr.get p0x).bind fun z6=>if z6.1.1==7 then ((mrec x4).bind fun r10=>(Tr.get p0x).bind fun z11=>(Tr.get p0x).bind fun z12=>some (IntKind.i64.wrap (s3.1+(IntKind.i64.wrap ((IntKind.i64.wrap (r10+3))*z12.1.2.2.2))))) else ((mrec x4).bind fun r13=>some (IntKind.i64.wrap (s3.1+r13))):Option Int)) (fun s14=>some (.nxt (s14,IntKind.i64.wrap (s3.2+1))))) else (some (.brk (s3.1,s3.2)))
def bs:Nat→(Tr (Int×Int×Int×Int))→Option Int
 | 0,_=>none
 | n+1,p0x =>
  (Tr.get p0x).bind fun z0=>(Tr.get p0x).bind fun z1=>ax (ai (a8 (bs n) p0x z1) aC (1,0)) (fun r15=>some r15) (fun s16=>some (Min.min s16.1 100000))
def Dh (p0kind:Int):Option (Tr (Int×Int×Int×Int)):=
 some (Tr.node (p0kind,0,0,0) ([] :List (Tr (Int×Int×Int×Int))))
def jt:Nat→(Tr (Int×Int×Int×Int))→Int→Int→Option (Tr (Int×Int×Int×Int))
 | 0,_,_,_=>none
 | n+1,p0x,p1low,p2high =>
  if p2high==0 then ((Dh 2).bind fun r0=>some r0) else (((jt n) p0x (Max.max 0 (IntKind.i64.wrap (p1low - 1))) (IntKind.i64.wrap (p2high - 1))).bind fun r1=>if decide (p1low>0) then (some (Tr.node (4,0,0,0) ([p0x,r1]))) else ((Dh 2).bind fun r2=>some (Tr.node (5,0,0,0) ([Tr.node (4,0,0,0) ([p0x,r1]),r2]))))
def aQ (mrec:(Tr (Int×Int×Int×Int))→Option (Tr (Int×Int×Int×Int))) (z23:(Int×Int×Int×Int)×List (Tr (Int×Int×Int×Int))) (s26:Int×Int×Int×Int×Int×List (Tr (Int×Int×Int×Int))):Option (Out (Tr (Int×Int×Int×Int)) (Int×Int×Int×Int×Int×List (Tr (Int×Int×Int×Int)))):=
 if decide (s26.1<(z23.2.length:Int)) then ((az z23.2 s26.1).bind fun x27=>(mrec x27).bind fun r30=>(cn 8 s26.2.2.2.2.2 ([r30])).bind fun z31=>some (.nxt (IntKind.i64.wrap (s26.1+1),s26.2.1,s26.2.2.1,s26.2.2.2.1,s26.2.2.2.2.1,z31))) else (some (.brk (s26.1,s26.2.1,s26.2.2.1,s26.2.2.2.1,s26.2.2.2.2.1,s26.2.2.2.2.2)))
def aY:Nat→(Tr (Int×Int×Int×Int))→Option (Tr (Int×Int×Int×Int))
 | 0,_=>none
 | n+1,p0x =>
  (Tr.get p0x).bind fun z0=>(Tr.get p0x).bind fun z1=>if z1.1.1==7 then ((Tr.get p0x).bind fun z11=>(Tr.get p0x).bind fun z12=>(az z12.2 0).bind fun x13=>((aY n) x13).bind fun r14=>(Tr.get p0x).bind fun z15=>(Tr.get p0x).bind fun z16=>(Tr.get p0x).bind fun z17=>(Tr.get p0x).bind fun z18=>(jt fK r14 z16.1.2.2.1 z18.1.2.2.2).bind fun r19=>some r19) else ((Tr.get p0x).bind fun z20=>(Tr.get p0x).bind fun z21=>(Tr.get p0x).bind fun z22=>(Tr.get p0x).bind fun z23=>ax (ai (aQ (aY n) z23) aC (0,z21.1.1,z21.1.2.1,z21.1.2.2.1,z21.1.2.2.2,([] :List (Tr (Int×Int×Int×Int))))) (fun r32=>some r32) (fun s33=>some (Tr.node (s33.2.1,s33.2.2.1,s33.2.2.2.1,s33.2.2.2.2.1) s33.2.2.2.2.2)))
def aN (mrec:(Tr (Int×Int×Int×Int))→(List (Int×Int×Int×Int))→Option (List (Int×Int×Int×Int))) (z1:(Int×Int×Int×Int)×List (Tr (Int×Int×Int×Int))) (s4:Int×List (Int×Int×Int×Int)):Option (Out (List (Int×Int×Int×Int)) (Int×List (Int×Int×Int×Int))):=
 if decide (s4.1<(z1.2.length:Int)) then ((az z1.2 s4.1).bind fun x5=>(mrec x5 s4.2).bind fun r6=>some (.nxt (IntKind.i64.wrap (s4.1+1),r6))) else (some (.brk (s4.1,s4.2)))
def aV:Nat→(Tr (Int×Int×Int×Int))→(List (Int×Int×Int×Int))→Option (List (Int×Int×Int×Int))
 | 0,_,_=>none
 | n+1,p0x,p1out =>
  (Tr.get p0x).bind fun z0=>(Tr.get p0x).bind fun z1=>ax (ai (aN (aV n) z1) aC (0,p1out)) (fun r7=>some r7) (fun s8=>(Tr.get p0x).bind fun z12=>(Tr.get p0x).bind fun z13=>(cn 32 s8.2 ([(z13.1.1,z13.1.2.1,z13.1.2.2.1,z13.1.2.2.2)])).bind fun z14=>some z14)
def p9 (p0x:Tr (Int×Int×Int×Int)):Option (List (Int×Int×Int×Int)):=
 (aV fK p0x ([] :List (Int×Int×Int×Int))).bind fun r0=>some r0
def lr (p0e:List (Int×Int×Int×Int)):Option ((List (Int×Int×Int×Int))×Bool):=
 (jY p0e).bind fun r0=>if r0 then ((mP p0e).bind fun r1=>(bs fK r1).bind fun r2=>if decide (r2>5000) then (some (([] :List (Int×Int×Int×Int)),false)) else ((aY fK r1).bind fun r3=>(p9 r3).bind fun r4=>if decide ((r4.length:Int)>400) then (some (([] :List (Int×Int×Int×Int)),false)) else (some (r4,true)))) else (some (([] :List (Int×Int×Int×Int)),false))
def cw (p0p:(List Int)×Int×Int×(List Int)×Bool) (p1last:Int) (p2first:Int) (s2:Int×List Int):Option (Out ((List Int)×Int×Int×(List Int)×Bool) (Int×List Int)):=
 if decide (s2.1<(p0p.2.2.2.1.length:Int)) then (Option.bind (((chk (0≤s2.1)).bind fun _=>if (rQ (nJ p1last s2.1) 1)==1 then ((az s2.2 s2.1).bind fun x4=>(az s2.2 s2.1).bind fun x5=>some (s2.2.set s2.1.toNat (orI x4 p2first))) else (some s2.2):Option (List Int))) (fun s6=>some (.nxt (IntKind.i64.wrap (s2.1+1),s6)))) else (some (.brk (s2.1,s2.2)))
def dj (p0p:(List Int)×Int×Int×(List Int)×Bool) (p1last:Int) (p2first:Int):Option ((List Int)×Int×Int×(List Int)×Bool):=
 ax (ai (cw p0p p1last p2first) aC (0,p0p.2.2.2.1)) (fun r7=>some r7) (fun s8=>some (p0p.1,p0p.2.1,p0p.2.2.1,s8.2,p0p.2.2.2.2))
def aZ:Nat→((List Int)×Int×Int×(List Int)×Bool)→(Tr (Int×Int×Int×Int))→Option ((Int×Int×Bool)×(List Int)×Int×Int×(List Int)×Bool)
 | 0,_,_=>none
 | n+1,p0,p1 =>
  (Tr.get p1).bind fun z0=>(Tr.get p1).bind fun z1=>if z1.1.1==2 then (some ((0,0,true),p0.1,p0.2.1,p0.2.2.1,p0.2.2.2.1,p0.2.2.2.2)) else (if z1.1.1==3 then ((Tr.get p1).bind fun z5=>(Tr.get p1).bind fun z6=>(cn 8 p0.1 ([z6.1.2.1])).bind fun z7=>(cn 8 p0.2.2.2.1 ([0])).bind fun z8=>some ((vR 1 (p0.1.length:Int),vR 1 (p0.1.length:Int),false),z7,p0.2.1,p0.2.2.1,z8,p0.2.2.2.2)) else (if z1.1.1==5 then ((Tr.get p1).bind fun z17=>(Tr.get p1).bind fun z18=>(az z18.2 0).bind fun x19=>((aZ n) (p0.1,p0.2.1,p0.2.2.1,p0.2.2.2.1,p0.2.2.2.2) x19).bind fun r20=>(Tr.get p1).bind fun z21=>(Tr.get p1).bind fun z22=>(az z22.2 1).bind fun x23=>((aZ n) r20.2 x23).bind fun r24=>if r20.1.2.2 then (some ((orI r20.1.1 r24.1.1,orI r20.1.2.1 r24.1.2.1,true),r24.2.1,r24.2.2.1,r24.2.2.2.1,r24.2.2.2.2.1,r24.2.2.2.2.2)) else (some ((orI r20.1.1 r24.1.1,orI r20.1.2.1 r24.1.2.1,r24.1.2.2),r24.2.1,r24.2.2.1,r24.2.2.2.1,r24.2.2.2.2.1,r24.2.2.2.2.2))) else (if z1.1.1==4 then ((Tr.get p1).bind fun z33=>(Tr.get p1).bind fun z34=>(az z34.2 0).bind fun x35=>((aZ n) (p0.1,p0.2.1,p0.2.2.1,p0.2.2.2.1,p0.2.2.2.2) x35).bind fun r36=>(Tr.get p1).bind fun z37=>(Tr.get p1).bind fun z38=>(az z38.2 1).bind fun x39=>((aZ n) r36.2 x39).bind fun r40=>(dj (r40.2.1,r40.2.2.1,r40.2.2.2.1,r40.2.2.2.2.1,r40.2.2.2.2.2) r36.1.2.1 r40.1.1).bind fun r41=>if r36.1.2.2 then (Option.bind ((if r36.1.2.2 then (some (orI r36.1.1 r40.1.1,r40.1.2.1,r40.1.2.2)) else (some (r36.1.1,r40.1.2.1,r40.1.2.2)):Option (Int×Int×Bool))) (fun s42=>Option.bind ((if r40.1.2.2 then (some (s42.1,orI s42.2.1 r36.1.2.1,s42.2.2)) else (some (s42.1,s42.2.1,s42.2.2)):Option (Int×Int×Bool))) (fun s43=>some ((s43.1,s43.2.1,s43.2.2),r41.1,r41.2.1,r41.2.2.1,r41.2.2.2.1,r41.2.2.2.2)))) else (Option.bind ((if r36.1.2.2 then (some (orI r36.1.1 r40.1.1,r40.1.2.1,false)) else (some (r36.1.1,r40.1.2.1,false)):Option (Int×Int×Bool))) (fun s44=>Option.bind ((if r40.1.2.2 then (some (s44.1,orI s44.2.1 r36.1.2.1,s44.2.2)) else (some (s44.1,s44.2.1,s44.2.2)):Option (Int×Int×Bool))) (fun s45=>some ((s45.1,s45.2.1,s45.2.2),r41.1,r41.2.1,r41.2.2.1,r41.2.2.2.1,r41.2.2.2.2))))) else (if z1.1.1==6 then ((Tr.get p1).bind fun z46=>(Tr.get p1).bind fun z47=>(az z47.2 0).bind fun x48=>((aZ n) (p0.1,p0.2.1,p0.2.2.1,p0.2.2.2.1,p0.2.2.2.2) x48).bind fun r49=>(dj (r49.2.1,r49.2.2.1,r49.2.2.2.1,r49.2.2.2.2.1,r49.2.2.2.2.2) r49.1.2.1 r49.1.1).bind fun r50=>some ((r49.1.1,r49.1.2.1,true),r50.1,r50.2.1,r50.2.2.1,r50.2.2.2.1,r50.2.2.2.2)) else (some ((0,0,false),p0.1,p0.2.1,p0.2.2.1,p0.2.2.2.1,p0.2.2.2.2))))))
def cY (r0:(List (Int×Int×Int×Int))×Bool) (s2:Int×Int):Option (Out (((List Int)×Int×Int×(List Int)×Bool)×Bool) (Int×Int)):=
 if decide (s2.2<(r0.1.length:Int)) then (Option.bind (((az r0.1 s2.2).bind fun x3=>if x3.1==3 then (some (IntKind.i64.wrap (s2.1+1))) else (some s2.1):Option Int)) (fun s4=>some (.nxt (s4,IntKind.i64.wrap (s2.2+1))))) else (some (.brk (s2.1,s2.2)))
def gb (p0e:List (Int×Int×Int×Int)):Option (((List Int)×Int×Int×(List Int)×Bool)×Bool):=
 (lr p0e).bind fun r0=>if r0.2 then (ax (ai (cY r0) aC (0,0)) (fun r5=>some r5) (fun s6=>if decide (s6.1>20) then (some ((([] :List Int),0,0,([] :List Int),false),false)) else ((mP r0.1).bind fun r7=>(aZ fK (([] :List Int),0,0,([] :List Int),false) r7).bind fun r8=>some ((r8.2.1,r8.1.1,r8.1.2.1,r8.2.2.2.2.1,r8.1.2.2),true)))) else (some ((([] :List Int),0,0,([] :List Int),false),false))
def dF (p3:Int→Int→Option (Int×Bool)) (s29:(List Int)×(List (Int×Int))×Int×Int×(List Bool)×(List (List Int))) (s39:(List Int)×(List (Int×Int))×(List Int)×Int):Option (Out ((Int×(List Bool)×(List (List Int)))×Bool) ((List Int)×(List (Int×Int))×(List Int)×Int)):=
 if decide (s39.2.2.2<9) then (Option.bind (((az s39.1 s29.2.2.1).bind fun x20=>(p3 x20 s39.2.2.2).bind fun r20=>if r20.2 then ((chk (iOk r20.1=true)).bind fun _=>Option.bind ((if (lkM s39.2.1 r20.1).isSome then (some (s39.1,s39.2.1,(lkM s39.2.1 r20.1).getD 0)) else ((LK s39.2.1 iOk iOk r20.1 (s39.1.length:Int)).bind fun m37=>(cn 8 s39.1 ([r20.1])).bind fun z75=>some (z75,m37,(s39.1.length:Int))):Option ((List Int)×(List (Int×Int))×Int))) (fun s43=>(cn 8 s39.2.2.1 ([s43.2.2])).bind fun z76=>some (s43.1,s43.2.1,z76))) else ((cn 8 s39.2.2.1 ([-1])).bind fun z73=>some (s39.1,s39.2.1,z73)):Option ((List Int)×(List (Int×Int))×(List Int)))) (fun s42=>some (.nxt (s42.1,s42.2.1,s42.2.2,IntKind.i64.wrap (s39.2.2.2+1))))) else (some (.brk (s39.1,s39.2.1,s39.2.2.1,s39.2.2.2)))
def bE (p1:Int) (p2:Int→Option Bool) (p3:Int→Int→Option (Int×Bool)) (s29:(List Int)×(List (Int×Int))×Int×Int×(List Bool)×(List (List Int))):Option (Out ((Int×(List Bool)×(List (List Int)))×Bool) ((List Int)×(List (Int×Int))×Int×Int×(List Bool)×(List (List Int)))):=
 if decide (s29.2.2.1<(s29.1.length:Int)) then (ax (ai (dF p3 s29) aC (s29.1,s29.2.1,([] :List Int),0)) (fun r=>some (.ret r)) (fun s40=>if decide ((s40.1.length:Int)>p1) then (some (.ret ((0,[],[]),false))) else ((az s40.1 s29.2.2.1).bind fun x21=>(p2 x21).bind fun r21=>(cn 1 s29.2.2.2.2.1 ([r21])).bind fun z77=>(cn 24 s29.2.2.2.2.2 ([s40.2.2.1])).bind fun z78=>some (.nxt (s40.1,s40.2.1,IntKind.i64.wrap (s29.2.2.1+1),s29.2.2.2.1,z77,z78))))) else (some (.brk (s29.1,s29.2.1,s29.2.2.1,s29.2.2.2.1,s29.2.2.2.2.1,s29.2.2.2.2.2)))
def dW (p0:Int) (p1:Int) (p2:Int→Option Bool) (p3:Int→Int→Option (Int×Bool)):Option ((Int×(List Bool)×(List (List Int)))×Bool):=
 (LK ([] :List (Int×Int)) iOk iOk p0 0).bind fun m1=>ax (ai (bE p1 p2 p3) aC ([p0],m1,0,0,[],[])) (fun r=>some r) (fun s30=>some ((s30.2.2.2.1,s30.2.2.2.2.1,s30.2.2.2.2.2),true))
def cZ (p0p:(List Int)×Int×Int×(List Int)×Bool) (p1set:Int):Option Bool:=
 if (rQ p1set 1)==1 then (if p0p.2.2.2.2 then (some true) else (some ((rQ (nJ p1set 1) p0p.2.2.1) !=0))) else (some ((rQ (nJ p1set 1) p0p.2.2.1) !=0))
def cG (p0p:(List Int)×Int×Int×(List Int)×Bool) (p1set:Int) (s6:Int×Int):Option (Out Int (Int×Int)):=
 if decide (s6.2<(p0p.2.2.2.1.length:Int)) then (Option.bind (((az p0p.2.2.2.1 s6.2).bind fun x6=>(chk (0≤IntKind.i64.wrap (s6.2+1))).bind fun _=>if (rQ (nJ p1set (IntKind.i64.wrap (s6.2+1))) 1)==1 then (some (orI s6.1 x6)) else (some s6.1):Option Int)) (fun s8=>some (.nxt (s8,IntKind.i64.wrap (s6.2+1))))) else (some (.brk (s6.1,s6.2)))
def cH (p0p:(List Int)×Int×Int×(List Int)×Bool) (p2letter:Int) (s7:Int×Int) (s13:Int×Int):Option (Out Int (Int×Int)):=
 if decide (s13.2<(p0p.1.length:Int)) then (Option.bind (((az p0p.1 s13.2).bind fun x12=>if x12==p2letter then ((chk (0≤s13.2)).bind fun _=>if (rQ (nJ s7.1 s13.2) 1)==1 then ((chk (0≤IntKind.i64.wrap (s13.2+1))).bind fun _=>some (orI s13.1 (vR 1 (IntKind.i64.wrap (s13.2+1))))) else (some s13.1)) else (some s13.1):Option Int)) (fun s15=>some (.nxt (s15,IntKind.i64.wrap (s13.2+1))))) else (some (.brk (s13.1,s13.2)))
def fD (p0p:(List Int)×Int×Int×(List Int)×Bool) (p1set:Int) (p2letter:Int):Option Int:=
 Option.bind ((if (rQ p1set 1)==1 then (some p0p.2.1) else (some 0):Option Int)) (fun s1=>ax (ai (cG p0p p1set) aC (s1,0)) (fun r=>some r) (fun s7=>ax (ai (cH p0p p2letter s7) aC (0,0)) (fun r=>some r) (fun s14=>some s14.1)))
def cK (p0set:Int) (p1letter:Int) (q0:(List Int)×Int×Int×(List Int)×Bool):Option (Int×Bool):=
 (fD (q0.1,q0.2.1,q0.2.2.1,q0.2.2.2.1,q0.2.2.2.2) p0set p1letter).bind fun r1=>some (r1,r1 !=0)
def gH (p0p:(List Int)×Int×Int×(List Int)×Bool) (p1most:Int):Option ((Int×(List Bool)×(List (List Int)))×Bool):=
 (dW 1 p1most (fun a0=>cZ (p0p.1,p0p.2.1,p0p.2.2.1,p0p.2.2.2.1,p0p.2.2.2.2) a0) (fun a0 a1=>cK a0 a1 (p0p.1,p0p.2.1,p0p.2.2.1,p0p.2.2.2.1,p0p.2.2.2.2))).bind fun r1=>some ((r1.1.1,r1.1.2.1,r1.1.2.2),r1.2)
def c7 (s5:Bool×Int×List Bool) (x6:List Int) (s8:Bool×Int×List Bool):Option (Out (List Bool) (Bool×Int×List Bool)):=
 if decide (s8.2.1<(x6.length:Int)) then (Option.bind (((az x6 s8.2.1).bind fun x9=>if decide (x9≥0) then ((az s8.2.2 x9).bind fun x10=>if x10 then ((az s8.2.2 s5.2.1).bind fun x11=>if x11 then (some (s8.1,s8.2.2)) else ((az s8.2.2 s5.2.1).bind fun x12=>some (true,s8.2.2.set s5.2.1.toNat true))) else (some (s8.1,s8.2.2))) else (some (s8.1,s8.2.2)):Option (Bool×List Bool))) (fun s13=>some (.nxt (s13.1,IntKind.i64.wrap (s8.2.1+1),s13.2)))) else (some (.brk (s8.1,s8.2.1,s8.2.2)))
def c8 (p0a:Int×(List Bool)×List (List Int)) (s5:Bool×Int×List Bool):Option (Out (List Bool) (Bool×Int×List Bool)):=
 if decide (s5.2.1<(p0a.2.2.length:Int)) then ((az p0a.2.2 s5.2.1).bind fun x6=>ax (ai (c7 s5 x6) aC (s5.1,0,s5.2.2)) (fun r14=>some (.ret r14)) (fun s15=>some (.nxt (s15.1,IntKind.i64.wrap (s5.2.1+1),s15.2.2)))) else (some (.brk (s5.1,s5.2.1,s5.2.2)))
def gI (p0a:Int×(List Bool)×List (List Int)) (s3:Bool×List Bool):Option (Out (List Bool) (Bool×List Bool)):=
 if s3.1 then (ax (ai (c8 p0a) aC (false,0,s3.2)) (fun r16=>some (.ret r16)) (fun s17=>some (.nxt (s17.1,s17.2.2)))) else (some (.brk (s3.1,s3.2)))
def ep (p0a:Int×(List Bool)×List (List Int)):Option (List Bool):=
 (cn 1 ([] :List Bool) p0a.2.1).bind fun z0=>ax (ai (gI p0a) aC (true,z0)) (fun r18=>some r18) (fun s19=>some s19.2)
def bP (p0s:List (List Int)) (p1f:(List Int)→Option Bool) (s3:Int):Option (Out Int Int):=
 if decide (s3<(p0s.length:Int)) then ((az p0s s3).bind fun x3=>(p1f x3).bind fun r6=>if r6 then (some (.ret s3)) else (some (.nxt (IntKind.i64.wrap (s3+1))))) else (some (.brk s3))
def bz (p0s:List (List Int)) (p1f:(List Int)→Option Bool):Option Int:=
 ax (ai (bP p0s p1f) aC 0) (fun r=>some r) (fun s4=>some (-1))
def bV (p0s1:List Int) (p1s2:List Int) (s3:Int):Option (Out Bool Int):=
 if decide (s3<(p0s1.length:Int)) then ((az p0s1 s3).bind fun x5=>(az p1s2 s3).bind fun x6=>if x5 !=x6 then (some (.ret false)) else (some (.nxt (IntKind.i64.wrap (s3+1))))) else (some (.brk s3))
def bO (p0s1:List Int) (p1s2:List Int):Option Bool:=
 if (p0s1.length:Int) !=(p1s2.length:Int) then (some false) else (ax (ai (bV p0s1 p1s2) aC 0) (fun r=>some r) (fun s4=>some true))
def fY (p0x:List Int) (q0:List Int):Option Bool:=
 (bO p0x q0).bind fun r1=>some r1
def cx (p1:List Int) (x57:List Int) (s52:Int×(List Int)):Option (Out ((List Int)×Int) (Int×(List Int))):=
 if decide (s52.1<(x57.length:Int)) then ((az x57 s52.1).bind fun x64=>Option.bind ((if decide (x64≥0) then ((az p1 x64).bind fun x66=>some x66) else (some x64):Option Int)) (fun s54=>(cn 8 s52.2 ([s54])).bind fun z38=>some (.nxt (IntKind.i64.wrap (s52.1+1),z38)))) else (some (.brk (s52.1,s52.2)))
def dq (p0:Int×(List Bool)×(List (List Int))) (p1:List Int) (s37:(List (List Int))×(List Int)×Int):Option (Out ((List Int)×Int) ((List (List Int))×(List Int)×Int)):=
 if decide (s37.2.2<(p1.length:Int)) then (Option.bind (((az p1 s37.2.2).bind fun x56=>if decide (x56<0) then ((cn 8 s37.2.1 ([-1])).bind fun z42=>some (s37.1,z42)) else ((az p0.2.2 s37.2.2).bind fun x57=>ax (ai (cx p1 x57) aC (0,[x56])) (fun _=>none) (fun s53=>(bz s37.1 (fun a0=>fY a0 s53.2)).bind fun r12=>Option.bind ((if decide (r12<0) then ((cn 24 s37.1 ([s53.2])).bind fun z40=>some (z40,(s37.1.length:Int))) else (some (s37.1,r12)):Option ((List (List Int))×Int))) (fun s55=>(cn 8 s37.2.1 ([s55.2])).bind fun z41=>some (s55.1,z41)))):Option ((List (List Int))×(List Int)))) (fun s47=>some (.nxt (s47.1,s47.2,IntKind.i64.wrap (s37.2.2+1))))) else (some (.brk (s37.1,s37.2.1,s37.2.2)))
def dk (p0:Int×(List Bool)×(List (List Int))) (p1:List Int):Option ((List Int)×Int):=
 ax (ai (dq p0 p1) aC (([] :List (List Int)),([] :List Int),0)) (fun r=>some r) (fun s38=>some (s38.2.1,(s38.1.length:Int)))
def bZ (p0a:Int×(List Bool)×(List (List Int))) (r1:List Bool) (s5:(List Int)×Int):Option (Out (List Int) ((List Int)×Int)):=
 if decide (s5.2<(r1.length:Int)) then (Option.bind (((az r1 s5.2).bind fun x11=>if x11 then ((az p0a.2.1 s5.2).bind fun x12=>if x12 then ((cn 8 s5.1 ([1])).bind fun z18=>some z18) else ((cn 8 s5.1 ([0])).bind fun z17=>some z17)) else ((cn 8 s5.1 ([-1])).bind fun z16=>some z16):Option (List Int))) (fun s7=>some (.nxt (s7,IntKind.i64.wrap (s5.2+1))))) else (some (.brk (s5.1,s5.2)))
def fe (p0a:Int×(List Bool)×(List (List Int))) (s10:(List Int)×Int):Option (Out (List Int) ((List Int)×Int)):=
 (dk (p0a.1,p0a.2.1,p0a.2.2) s10.1).bind fun r4=>if r4.2==s10.2 then (some (.ret r4.1)) else (some (.nxt (r4.1,r4.2)))
def c9 (p0a:Int×(List Bool)×(List (List Int))):Option (List Int):=
 (ep (p0a.1,p0a.2.1,p0a.2.2)).bind fun r1=>ax (ai (bZ p0a r1) aC (([] :List Int),0)) (fun r=>some r) (fun s6=>ax (ai (fe p0a) aC (s6.1,-1)) (fun r=>some r) (fun s11=>none))
def tP (p0x:Int) (p1y:Int):Option (Int×Int):=
 some (IntKind.u32.wrap (nJ (IntKind.u64.wrap ((IntKind.u64.wrap p0x)*(IntKind.u64.wrap p1y))) 32),IntKind.u32.wrap (IntKind.u64.wrap ((IntKind.u64.wrap p0x)*(IntKind.u64.wrap p1y))))
def nm (p0x:Int) (p1y:Int):Option (Int×Int):=
 some (IntKind.u64.wrap ((IntKind.u64.wrap ((IntKind.u64.wrap ((nJ p0x 32)*(nJ p1y 32)))+(nJ (IntKind.u64.wrap ((IntKind.u64.wrap ((nJ p0x 32)*(OU p1y 4294967295)))+(nJ (IntKind.u64.wrap ((OU p0x 4294967295)*(OU p1y 4294967295))) 32))) 32)))+(nJ (IntKind.u64.wrap ((OU (IntKind.u64.wrap ((IntKind.u64.wrap ((nJ p0x 32)*(OU p1y 4294967295)))+(nJ (IntKind.u64.wrap ((OU p0x 4294967295)*(OU p1y 4294967295))) 32))) 4294967295)+(IntKind.u64.wrap ((OU p0x 4294967295)*(nJ p1y 32))))) 32)),IntKind.u64.wrap (p0x*p1y))
def oW (p0x:Int) (p1y:Int):Option (Int×Int):=
 (nm p0x p1y).bind fun r1=>some (r1.1,r1.2)
def lM (s4:Int×List Int):Option (Out (List Int) (Int×List Int)):=
 if decide (s4.1<(s4.2.length:Int)) then ((chk (And (0≤s4.1) (s4.1≤(s4.2.length:Int)))).bind fun _=>(chk (And (0≤s4.1) (s4.1≤(s4.2.length:Int)))).bind fun _=>(chk (And (0≤s4.1) (s4.1≤(s4.2.length:Int)))).bind fun _=>(chk (And (0≤s4.1) (s4.1≤(s4.2.length:Int)))).bind fun _=>some (.nxt (IntKind.i64.wrap (s4.1+((Min.min ((s4.2.take s4.1.toNat).length) (s4.2.length - s4.1.toNat):Nat):Int)),A1 s4.2 s4.1.toNat (s4.2.take s4.1.toNat)))) else (some (.brk (s4.1,s4.2)))
def bF (p0x:List Int) (p1count:Int):Option (List Int):=
 if decide (p1count<0) then (none) else ((oW (IntKind.u64.wrap (p0x.length:Int)) (IntKind.u64.wrap p1count)).bind fun r0=>if decide (r0.1>0) then (none) else (if decide (r0.2>9223372036854775807) then (none) else ((mkI 8 (IntKind.i64.wrap r0.2) 0).bind fun z1=>ax (ai (lM) aC (((Min.min p0x.length (z1.length - 0):Nat):Int),A1 z1 0 p0x)) (fun r13=>some r13) (fun s14=>some s14.2))))
def tQ:Option (Int×(List Bool)×(List (List Int))):=
 (bF ([-1]) 9).bind fun r1=>some (0,[false],[r1])
def dg (p0s:List Int) (p1v:Int) (s3:Int):Option (Out Int Int):=
 if decide (s3<(p0s.length:Int)) then ((az p0s s3).bind fun x3=>if p1v==x3 then (some (.ret s3)) else (some (.nxt (IntKind.i64.wrap (s3+1))))) else (some (.brk s3))
def dS (p0s:List Int) (p1v:Int):Option Int:=
 ax (ai (dg p0s p1v) aC 0) (fun r=>some r) (fun s4=>some (-1))
def aL (p0class:Int) (q0:List Int):Option Int:=
 (dS q0 p0class).bind fun r1=>some r1
def b7 (p0c:Int) (q0:Int×(List Bool)×(List (List Int))) (q1:Int→Option Int):Option Bool:=
 (q1 p0c).bind fun r1=>(az q0.2.1 r1).bind fun x1=>some x1
def bc (p0a:Int×(List Bool)×(List (List Int))) (p1s:Int) (p2letter:Int):Option Int:=
 if decide (p1s<0) then (some (-1)) else ((jr p2letter).bind fun r1=>if r1 then ((az p0a.2.2 p1s).bind fun x1=>(az x1 p2letter).bind fun x2=>some x2) else (some (-1)))
def b8 (p0c:Int) (p1letter:Int) (q0:Int×(List Bool)×(List (List Int))) (q1:Int→Option Int) (q2:List Int):Option (Int×Bool):=
 (q1 p0c).bind fun r1=>(bc (q0.1,q0.2.1,q0.2.2) r1 p1letter).bind fun r2=>if decide (r2<0) then (some (0,false)) else ((az q2 r2).bind fun x1=>if decide (x1<0) then (some (0,false)) else ((az q2 r2).bind fun x2=>some (x2,true)))
def dP (p0a:Int×(List Bool)×(List (List Int))):Option (Int×(List Bool)×(List (List Int))):=
 (c9 (p0a.1,p0a.2.1,p0a.2.2)).bind fun r1=>(az r1 p0a.1).bind fun x1=>if decide (x1<0) then ((tQ).bind fun r3=>some (r3.1,r3.2.1,r3.2.2)) else ((az r1 p0a.1).bind fun x2=>(dW x2 (r1.length:Int) (fun a0=>b7 a0 (p0a.1,p0a.2.1,p0a.2.2) (fun a0=>aL a0 r1)) (fun a0 a1=>b8 a0 a1 (p0a.1,p0a.2.1,p0a.2.2) (fun a0=>aL a0 r1) r1)).bind fun r2=>some (r2.1.1,r2.1.2.1,r2.1.2.2))
def zu (p0a:Int×(List Bool)×(List (List Int))):Option ((Int×(List Bool)×(List (List Int)))×Bool):=
 (dP (p0a.1,p0a.2.1,p0a.2.2)).bind fun r1=>if decide ((r1.2.1.length:Int)>12) then (some ((0,[],[]),false)) else (some ((r1.1,r1.2.1,r1.2.2),true))
def gJ (p0e:(List (Int×Int×Int×Int))):Option ((Int×(List Bool)×(List (List Int)))×Bool):=
 (gb p0e).bind fun r1=>if r1.2 then ((gH (r1.1.1,r1.1.2.1,r1.1.2.2.1,r1.1.2.2.2.1,r1.1.2.2.2.2) 200).bind fun r2=>if r2.2 then ((zu (r2.1.1,r2.1.2.1,r2.1.2.2)).bind fun r3=>some ((r3.1.1,r3.1.2.1,r3.1.2.2),r3.2)) else (some ((0,[],[]),false))) else (some ((0,[],[]),false))
def bm (p0s:List (Int×(List Bool)×(List (List Int)))) (p1f:(Int×(List Bool)×(List (List Int)))→Option Bool) (s3:Int):Option (Out Int Int):=
 if decide (s3<(p0s.length:Int)) then ((az p0s s3).bind fun x3=>(p1f (x3.1,x3.2.1,x3.2.2)).bind fun r9=>if r9 then (some (.ret s3)) else (some (.nxt (IntKind.i64.wrap (s3+1))))) else (some (.brk s3))
def aK (p0s:List (Int×(List Bool)×(List (List Int)))) (p1f:(Int×(List Bool)×(List (List Int)))→Option Bool):Option Int:=
 ax (ai (bm p0s p1f) aC 0) (fun r=>some r) (fun s4=>some (-1))
def bJ (p0s1:List Bool) (p1s2:List Bool) (s3:Int):Option (Out Bool Int):=
 if decide (s3<(p0s1.length:Int)) then ((az p0s1 s3).bind fun x5=>(az p1s2 s3).bind fun x6=>if x5 !=x6 then (some (.ret false)) else (some (.nxt (IntKind.i64.wrap (s3+1))))) else (some (.brk s3))
def dt (p0s1:List Bool) (p1s2:List Bool):Option Bool:=
 if (p0s1.length:Int) !=(p1s2.length:Int) then (some false) else (ax (ai (bJ p0s1 p1s2) aC 0) (fun r=>some r) (fun s4=>some true))
def aJ (p0s1:List (List Int)) (p1s2:List (List Int)) (p2eq:(List Int)→(List Int)→Option Bool) (s3:Int):Option (Out Bool Int):=
 if decide (s3<(p0s1.length:Int)) then ((az p0s1 s3).bind fun x5=>(az p1s2 s3).bind fun x6=>(p2eq x5 x6).bind fun r9=>if r9 then (some (.nxt (IntKind.i64.wrap (s3+1)))) else (some (.ret false))) else (some (.brk s3))
def bd (p0s1:List (List Int)) (p1s2:List (List Int)) (p2eq:(List Int)→(List Int)→Option Bool):Option Bool:=
 if (p0s1.length:Int) !=(p1s2.length:Int) then (some false) else (ax (ai (aJ p0s1 p1s2 p2eq) aC 0) (fun r=>some r) (fun s4=>some true))
def fE (p0x:List Int) (p1y:List Int):Option Bool:=
 (bO p0x p1y).bind fun r1=>some r1
def dz (p0a:Int×(List Bool)×(List (List Int))) (p1b:Int×(List Bool)×(List (List Int))):Option Bool:=
 if p0a.1==p1b.1 then ((dt p0a.2.1 p1b.2.1).bind fun r1=>if r1 then ((bd p0a.2.2 p1b.2.2 (fun a0 a1=>fE a0 a1)).bind fun r2=>some r2) else (some false)) else (some false)
def lN (p0b:Int×(List Bool)×(List (List Int))) (q0:Int×(List Bool)×(List (List Int))):Option Bool:=
 (dz (q0.1,q0.2.1,q0.2.2) (p0b.1,p0b.2.1,p0b.2.2)).bind fun r1=>some r1
def lO (p0e:(List (Int×Int×Int×Int))):Option (List (Int×Int×Int×Int)):=
 (cn 32 ([] :List (Int×Int×Int×Int)) p0e).bind fun z1=>some z1
def jZ (p0:List (Int×((List (Int×Int×Int×Int)))×Int)) (s7:Int×(List (Int×(List Bool)×(List (List Int))))×(List (Int×((List (Int×Int×Int×Int)))×Int))):Option (Out (((List (Int×(List Bool)×(List (List Int))))×(List (Int×((List (Int×Int×Int×Int)))×Int)))×Bool) (Int×(List (Int×(List Bool)×(List (List Int))))×(List (Int×((List (Int×Int×Int×Int)))×Int)))):=
 if decide (s7.1<(p0.length:Int)) then ((az p0 s7.1).bind fun x5=>(gJ x5.2.1).bind fun r16=>if r16.2 then ((bg x5.1 1 99).bind fun r17=>if r17 then (if decide (s7.1>0) then ((az p0 (IntKind.i64.wrap (s7.1 - 1))).bind fun x6=>if decide (x6.1≥x5.1) then (some (.ret (([],[]),false))) else ((aK s7.2.1 (fun a0=>lN a0 (r16.1.1,r16.1.2.1,r16.1.2.2))).bind fun r20=>Option.bind ((if decide (r20<0) then ((cn 56 s7.2.1 ([(r16.1.1,r16.1.2.1,r16.1.2.2)])).bind fun z17=>some ((s7.2.1.length:Int),z17,s7.2.2)) else (some (r20,s7.2.1,s7.2.2)):Option (Int×(List (Int×(List Bool)×(List (List Int))))×(List (Int×((List (Int×Int×Int×Int)))×Int))))) (fun s10=>(lO x5.2.1).bind fun r21=>(cn 40 s10.2.2 ([(x5.1,r21,s10.1)])).bind fun z18=>some (.nxt (IntKind.i64.wrap (s7.1+1),s10.2.1,z18))))) else ((aK s7.2.1 (fun a0=>lN a0 (r16.1.1,r16.1.2.1,r16.1.2.2))).bind fun r18=>Option.bind ((if decide (r18<0) then ((cn 56 s7.2.1 ([(r16.1.1,r16.1.2.1,r16.1.2.2)])).bind fun z14=>some ((s7.2.1.length:Int),z14,s7.2.2)) else (some (r18,s7.2.1,s7.2.2)):Option (Int×(List (Int×(List Bool)×(List (List Int))))×(List (Int×((List (Int×Int×Int×Int)))×Int))))) (fun s9=>(lO x5.2.1).bind fun r19=>(cn 40 s9.2.2 ([(x5.1,r19,s9.1)])).bind fun z15=>some (.nxt (IntKind.i64.wrap (s7.1+1),s9.2.1,z15))))) else (some (.ret (([],[]),false)))) else (some (.ret (([],[]),false)))) else (some (.brk (s7.1,s7.2.1,s7.2.2)))
def su (p0:List (Int×((List (Int×Int×Int×Int)))×Int)):Option (((List (Int×(List Bool)×(List (List Int))))×(List (Int×((List (Int×Int×Int×Int)))×Int)))×Bool):=
 ax (ai (jZ p0) aC (0,[],[])) (fun r=>some r) (fun s8=>some ((s8.2.1,s8.2.2),decide ((p0.length:Int)≤4)))
def aB (p0s1:List (Int×(List Bool)×(List (List Int)))) (p1s2:List (Int×(List Bool)×(List (List Int)))) (p2eq:(Int×(List Bool)×(List (List Int)))→(Int×(List Bool)×(List (List Int)))→Option Bool) (s3:Int):Option (Out Bool Int):=
 if decide (s3<(p0s1.length:Int)) then ((az p0s1 s3).bind fun x5=>(az p1s2 s3).bind fun x6=>(p2eq (x5.1,x5.2.1,x5.2.2) (x6.1,x6.2.1,x6.2.2)).bind fun r15=>if r15 then (some (.nxt (IntKind.i64.wrap (s3+1)))) else (some (.ret false))) else (some (.brk s3))
def aI (p0s1:List (Int×(List Bool)×(List (List Int)))) (p1s2:List (Int×(List Bool)×(List (List Int)))) (p2eq:(Int×(List Bool)×(List (List Int)))→(Int×(List Bool)×(List (List Int)))→Option Bool):Option Bool:=
 if (p0s1.length:Int) !=(p1s2.length:Int) then (some false) else (ax (ai (aB p0s1 p1s2 p2eq) aC 0) (fun r=>some r) (fun s4=>some true))
def ay (p0s1:List (Int×((List (Int×Int×Int×Int)))×Int)) (p1s2:List (Int×((List (Int×Int×Int×Int)))×Int)) (p2eq:(Int×((List (Int×Int×Int×Int)))×Int)→(Int×((List (Int×Int×Int×Int)))×Int)→Option Bool) (s3:Int):Option (Out Bool Int):=
 if decide (s3<(p0s1.length:Int)) then ((az p0s1 s3).bind fun x5=>(az p1s2 s3).bind fun x6=>(p2eq (x5.1,x5.2.1,x5.2.2) (x6.1,x6.2.1,x6.2.2)).bind fun r9=>if r9 then (some (.nxt (IntKind.i64.wrap (s3+1)))) else (some (.ret false))) else (some (.brk s3))
def aH (p0s1:List (Int×((List (Int×Int×Int×Int)))×Int)) (p1s2:List (Int×((List (Int×Int×Int×Int)))×Int)) (p2eq:(Int×((List (Int×Int×Int×Int)))×Int)→(Int×((List (Int×Int×Int×Int)))×Int)→Option Bool):Option Bool:=
 if (p0s1.length:Int) !=(p1s2.length:Int) then (some false) else (ax (ai (ay p0s1 p1s2 p2eq) aC 0) (fun r=>some r) (fun s4=>some true))
def bA (p0s1:List (Int×Int×Int×Int)) (p1s2:List (Int×Int×Int×Int)) (s3:Int):Option (Out Bool Int):=
 if decide (s3<(p0s1.length:Int)) then ((az p0s1 s3).bind fun x5=>(az p1s2 s3).bind fun x6=>if (x5.1==x6.1)&&((x5.2.1==x6.2.1)&&((x5.2.2.1==x6.2.2.1)&&((x5.2.2.2==x6.2.2.2)&&true))) then (some (.nxt (IntKind.i64.wrap (s3+1)))) else (some (.ret false))) else (some (.brk s3))
def bS (p0s1:List (Int×Int×Int×Int)) (p1s2:List (Int×Int×Int×Int)):Option Bool:=
 if (p0s1.length:Int) !=(p1s2.length:Int) then (some false) else (ax (ai (bA p0s1 p1s2) aC 0) (fun r=>some r) (fun s4=>some true))
def lu (p0a:(List (Int×Int×Int×Int))) (p1b:(List (Int×Int×Int×Int))):Option Bool:=
 (bS p0a p1b).bind fun r1=>some r1
def fO (p0a:Int×((List (Int×Int×Int×Int)))×Int) (p1b:Int×((List (Int×Int×Int×Int)))×Int):Option Bool:=
 if p0a.1==p1b.1 then ((lu p0a.2.1 p1b.2.1).bind fun r1=>if r1 then (some (p0a.2.2==p1b.2.2)) else (some false)) else (some false)
def fF (p0a:(List (Int×(List Bool)×(List (List Int))))×(List (Int×((List (Int×Int×Int×Int)))×Int))) (p1b:(List (Int×(List Bool)×(List (List Int))))×(List (Int×((List (Int×Int×Int×Int)))×Int))):Option Bool:=
 (aI p0a.1 p1b.1 (fun a0 a1=>dz a0 a1)).bind fun r1=>if r1 then ((aH p0a.2 p1b.2 (fun a0 a1=>fO a0 a1)).bind fun r2=>some r2) else (some false)
def fG (p0r:(List (Int×(List Bool)×(List (List Int))))×(List (Int×((List (Int×Int×Int×Int)))×Int))):Option Bool:=
 (su p0r.2).bind fun r1=>if r1.2 then ((fF (r1.1.1,r1.1.2) (p0r.1,p0r.2)).bind fun r2=>some r2) else (some false)
def gK (p0l:List Int):Option (List Int):=
 (cn 8 ([] :List Int) p0l).bind fun z1=>some z1
def dm (p0a:Int×(List Bool)×(List (List Int))) (s3:Int×Int×(List Bool)×(List (List Int))):Option (Out (Int×(List Bool)×(List (List Int))) (Int×Int×(List Bool)×(List (List Int)))):=
 if decide (s3.1<(p0a.2.2.length:Int)) then ((az p0a.2.2 s3.1).bind fun x3=>(gK x3).bind fun r6=>(cn 24 s3.2.2.2 ([r6])).bind fun z4=>some (.nxt (IntKind.i64.wrap (s3.1+1),s3.2.1,s3.2.2.1,z4))) else (some (.brk (s3.1,s3.2.1,s3.2.2.1,s3.2.2.2)))
def im (p0a:Int×(List Bool)×(List (List Int))):Option (Int×(List Bool)×(List (List Int))):=
 (cn 1 ([] :List Bool) p0a.2.1).bind fun z1=>ax (ai (dm p0a) aC (0,p0a.1,z1,[])) (fun r=>some r) (fun s4=>some (s4.2.1,s4.2.2.1,s4.2.2.2))
def eu (p0r:(List (Int×(List Bool)×(List (List Int))))×(List (Int×((List (Int×Int×Int×Int)))×Int))) (p1id:Int):Option ((Int×(List Bool)×(List (List Int)))×Bool):=
 (mE (p0r.1,p0r.2) p1id).bind fun r1=>if decide (r1<0) then (some ((0,[],[]),false)) else ((fG (p0r.1,p0r.2)).bind fun r2=>if r2 then ((az p0r.2 r1).bind fun x1=>(az p0r.1 x1.2.2).bind fun x2=>(im (x2.1,x2.2.1,x2.2.2)).bind fun r5=>some ((r5.1,r5.2.1,r5.2.2),true)) else (some ((0,[],[]),false)))
def oX (p0e:Int×Int×Int×Int) (p1nodes:Int):Option Bool:=
 (bg p0e.1 1 99).bind fun r1=>if r1 then ((bg p0e.2.1 0 (IntKind.i64.wrap (p1nodes - 1))).bind fun r2=>if r2 then ((bg p0e.2.2.1 0 (IntKind.i64.wrap (p1nodes - 1))).bind fun r3=>if r3 then ((bg p0e.2.2.2 0 2).bind fun r4=>some r4) else (some false)) else (some false)) else (some false)
def dG (p0g:(List Int)×(List (Int×Int×Int×Int))) (s3:Int):Option (Out Bool Int):=
 if decide (s3<(p0g.1.length:Int)) then ((az p0g.1 s3).bind fun x3=>(bg x3 0 2).bind fun r3=>if r3 then (some (.nxt (IntKind.i64.wrap (s3+1)))) else (some (.ret false))) else (some (.brk s3))
def cL (p0g:(List Int)×(List (Int×Int×Int×Int))) (s7:Int):Option (Out Bool Int):=
 if decide (s7<(p0g.2.length:Int)) then ((az p0g.2 s7).bind fun x8=>(oX (x8.1,x8.2.1,x8.2.2.1,x8.2.2.2) (p0g.1.length:Int)).bind fun r6=>if r6 then (if decide (s7>0) then ((az p0g.2 (IntKind.i64.wrap (s7 - 1))).bind fun x9=>if decide (x9.1≥x8.1) then (some (.ret false)) else (some (.nxt (IntKind.i64.wrap (s7+1))))) else (some (.nxt (IntKind.i64.wrap (s7+1))))) else (some (.ret false))) else (some (.brk s7))
def aF (p0g:(List Int)×(List (Int×Int×Int×Int))):Option Bool:=
 ax (ai (dG p0g) aC 0) (fun r=>some r) (fun s4=>ax (ai (cL p0g) aC 0) (fun r=>some r) (fun s8=>(bg (p0g.1.length:Int) 1 5).bind fun r7=>if r7 then (some (decide ((p0g.2.length:Int)≤12))) else (some false)))
def bK (p0a:Int×(List Bool)×(List (List Int))) (x9:List Int) (s15:Int):Option (Out Bool Int):=
 if decide (s15<(x9.length:Int)) then ((az x9 s15).bind fun x12=>(bg x12 (-1) (IntKind.i64.wrap ((p0a.2.1.length:Int) - 1))).bind fun r14=>if r14 then (some (.nxt (IntKind.i64.wrap (s15+1)))) else (some (.ret false))) else (some (.brk s15))
def du (p0a:Int×(List Bool)×(List (List Int))) (s11:Int):Option (Out Bool Int):=
 if decide (s11<(p0a.2.2.length:Int)) then ((az p0a.2.2 s11).bind fun x9=>ax (ai (bK p0a x9) aC 0) (fun r=>some (.ret r)) (fun s16=>if (x9.length:Int) !=9 then (some (.ret false)) else (some (.nxt (IntKind.i64.wrap (s11+1)))))) else (some (.brk s11))
def bQ (p0a:Int×(List Bool)×(List (List Int))):Option Bool:=
 (bg (p0a.2.1.length:Int) 1 12).bind fun r1=>if r1 then ((bg p0a.1 0 (IntKind.i64.wrap ((p0a.2.1.length:Int) - 1))).bind fun r2=>if r2 then (if (p0a.2.2.length:Int) !=(p0a.2.1.length:Int) then (some false) else (ax (ai (du p0a) aC 0) (fun r=>some r) (fun s12=>some true))) else (some false)) else (some false)
def cQ (p0g:(List Int)×(List (Int×Int×Int×Int))) (p2nodes:List Int) (s3:Int):Option (Out Bool Int):=
 if decide (s3<(p2nodes.length:Int)) then ((az p2nodes s3).bind fun x3=>(bg x3 0 (IntKind.i64.wrap ((p0g.1.length:Int) - 1))).bind fun r3=>if r3 then (some (.nxt (IntKind.i64.wrap (s3+1)))) else (some (.ret false))) else (some (.brk s3))
def cA (p0g:(List Int)×(List (Int×Int×Int×Int))) (p1a:Int×(List Bool)×(List (List Int))) (p2nodes:List Int):Option Bool:=
 ax (ai (cQ p0g p2nodes) aC 0) (fun r=>some r) (fun s4=>(aF (p0g.1,p0g.2)).bind fun r4=>if r4 then ((bQ (p1a.1,p1a.2.1,p1a.2.2)).bind fun r5=>some r5) else (some false))
def j4 (p1:List Int) (s3:(List Int)×Int×List Int):Option (Out (List Int) ((List Int)×Int×List Int)):=
 if decide (s3.2.1<(p1.length:Int)) then ((az p1 s3.2.1).bind fun x4=>(az s3.2.2 x4).bind fun x5=>(cn 8 s3.1 ([x4])).bind fun z6=>some (.nxt (z6,IntKind.i64.wrap (s3.2.1+1),s3.2.2.set x4.toNat 0))) else (some (.brk (s3.1,s3.2.1,s3.2.2)))
def j5 (x13:List Int) (s15:(List Int)×Int×List Int):Option (Out (List Int) ((List Int)×Int×List Int)):=
 if decide (s15.2.1<(x13.length:Int)) then (Option.bind (((az x13 s15.2.1).bind fun x16=>(az s15.2.2 x16).bind fun x17=>if decide (x17<0) then ((az s15.1 0).bind fun x18=>(az s15.2.2 x18).bind fun x19=>(az s15.2.2 x16).bind fun x20=>(cn 8 s15.1 ([x16])).bind fun z21=>some (z21,s15.2.2.set x16.toNat (IntKind.i64.wrap (x19+1)))) else (some (s15.1,s15.2.2)):Option ((List Int)×List Int))) (fun s22=>some (.nxt (s22.1,IntKind.i64.wrap (s15.2.1+1),s22.2)))) else (some (.brk (s15.1,s15.2.1,s15.2.2)))
def j6 (p0:List (List Int)) (s11:(List Int)×List Int):Option (Out (List Int) ((List Int)×List Int)):=
 if decide ((s11.1.length:Int)>0) then ((az s11.1 0).bind fun x12=>(az p0 x12).bind fun x13=>ax (ai (j5 x13) aC (s11.1,0,s11.2)) (fun r23=>some (.ret r23)) (fun s24=>(chk (And ((0:Int)≤1) (1≤(s24.1.length:Int)))).bind fun _=>some (.nxt (s24.1.drop 1,s24.2.2)))) else (some (.brk (s11.1,s11.2)))
def sv (p0:List (List Int)) (p1:List Int):Option (List Int):=
 (bF ([(-1)]) (p0.length:Int)).bind fun r0=>ax (ai (j4 p1) aC (([] :List Int),0,r0)) (fun r7=>some r7) (fun s8=>ax (ai (j6 p0) aC (s8.1,s8.2.2)) (fun r26=>some r26) (fun s27=>some s27.2))
def oD (p0set:Int) (s5:(List Int)×Int):Option (Out (List Int) ((List Int)×Int)):=
 (chk (0≤s5.2)).bind fun _=>if (nJ p0set s5.2) !=0 then (Option.bind (((chk (0≤s5.2)).bind fun _=>if (rQ (nJ p0set s5.2) 1)==1 then ((cn 8 s5.1 ([s5.2])).bind fun z6=>some z6) else (some s5.1):Option (List Int))) (fun s7=>some (.nxt (s7,IntKind.i64.wrap (s5.2+1))))) else (some (.brk (s5.1,s5.2)))
def gL (p0set:Int):Option (List Int):=
 ax (ai (oD p0set) aC (([] :List Int),0)) (fun r=>some r) (fun s6=>some s6.1)
def ri (p0e:Int×Int×Int×Int) (p1inverse:Bool):Option Int:=
 if p1inverse then (some (IntKind.i64.wrap ((IntKind.i64.wrap (2*p0e.2.2.2))+1))) else (some (IntKind.i64.wrap (2*p0e.2.2.2)))
def np (p0g:(List Int)×List (Int×Int×Int×Int)) (s3:Int×List (List ((Int×Bool)×Int×Int))):Option (Out (List (List ((Int×Bool)×Int×Int))) (Int×List (List ((Int×Bool)×Int×Int)))):=
 if decide (s3.1<(p0g.2.length:Int)) then ((az p0g.2 s3.1).bind fun x4=>(az s3.2 x4.2.1).bind fun x11=>(ri (x4.1,x4.2.1,x4.2.2.1,x4.2.2.2) false).bind fun r12=>(cn 32 x11 ([((x4.1,false),r12,x4.2.2.1)])).bind fun z13=>(az s3.2 x4.2.1).bind fun x14=>(chk (x4.2.1<((s3.2.set x4.2.1.toNat ([] :List ((Int×Bool)×Int×Int))).length:Int))).bind fun _=>(chk (x4.2.1=x4.2.1)).bind fun _=>(az (s3.2.set x4.2.1.toNat z13) x4.2.2.1).bind fun x23=>(ri (x4.1,x4.2.1,x4.2.2.1,x4.2.2.2) true).bind fun r24=>(cn 32 x23 ([((x4.1,true),r24,x4.2.1)])).bind fun z25=>(az (s3.2.set x4.2.1.toNat z13) x4.2.2.1).bind fun x26=>(chk (x4.2.2.1<(((s3.2.set x4.2.1.toNat z13).set x4.2.2.1.toNat ([] :List ((Int×Bool)×Int×Int))).length:Int))).bind fun _=>(chk (x4.2.2.1=x4.2.2.1)).bind fun _=>some (.nxt (IntKind.i64.wrap (s3.1+1),(s3.2.set x4.2.1.toNat z13).set x4.2.2.1.toNat z25))) else (some (.brk (s3.1,s3.2)))
def uS (p0g:(List Int)×List (Int×Int×Int×Int)):Option (List (List ((Int×Bool)×Int×Int))):=
 (mkI 24 (p0g.1.length:Int) ([] :List ((Int×Bool)×Int×Int))).bind fun z0=>ax (ai (np p0g) aC (0,z0)) (fun r29=>some r29) (fun s30=>some s30.2)
def cR (p0a:Int×(List Bool)×(List (List Int))) (p2value:Int) (s3:Int×Int):Option (Out Int (Int×Int)):=
 if decide (s3.2≥0) then ((chk (0≤s3.2)).bind fun _=>if (rQ (nJ s3.1 s3.2) 1)==0 then ((chk (0≤s3.2)).bind fun _=>(bc (p0a.1,p0a.2.1,p0a.2.2) s3.2 (IntKind.i64.wrap (6+p2value))).bind fun r3=>some (.nxt (orI s3.1 (vR 1 s3.2),r3))) else (some (.brk (s3.1,s3.2)))) else (some (.brk (s3.1,s3.2)))
def eG (p0a:Int×(List Bool)×(List (List Int))) (p1state:Int) (p2value:Int):Option Int:=
 ax (ai (cR p0a p2value) aC (0,p1state)) (fun r=>some r) (fun s4=>some s4.1)
def lP (p0a:Int×(List Bool)×(List (List Int))) (p3letter:Int) (r19:List Int) (s23:Int×Int):Option (Out Int (Int×Int)):=
 if decide (s23.2<(r19.length:Int)) then (Option.bind (((az r19 s23.2).bind fun x21=>(bc (p0a.1,p0a.2.1,p0a.2.2) x21 p3letter).bind fun r25=>if decide (r25≥0) then ((chk (0≤r25)).bind fun _=>some (orI s23.1 (vR 1 r25))) else (some s23.1):Option Int)) (fun s25=>some (.nxt (s25,IntKind.i64.wrap (s23.2+1))))) else (some (.brk (s23.1,s23.2)))
def gM (p0a:Int×(List Bool)×(List (List Int))) (p2value:Int) (p3letter:Int) (r1:List Int) (s17:Int×Int):Option (Out Int (Int×Int)):=
 if decide (s17.2<(r1.length:Int)) then ((az r1 s17.2).bind fun x15=>(eG (p0a.1,p0a.2.1,p0a.2.2) x15 p2value).bind fun r18=>(gL r18).bind fun r19=>ax (ai (lP p0a p3letter r19) aC (s17.1,0)) (fun r=>some (.ret r)) (fun s24=>some (.nxt (s24.1,IntKind.i64.wrap (s17.2+1))))) else (some (.brk (s17.1,s17.2)))
def rj (p0a:Int×(List Bool)×(List (List Int))) (p1set:Int) (p2value:Int) (p3letter:Int):Option Int:=
 (gL p1set).bind fun r1=>ax (ai (gM p0a p2value p3letter r1) aC (0,0)) (fun r=>some r) (fun s18=>some s18.1)
def cM (p1:Int×(List Bool)×List (List Int)) (s4:Int×List (List Int)) (s7:Int×List (List Int)) (x10:(Int×Bool)×Int×Int) (r18:List Int) (s20:Int×List (List Int)):Option (Out (List (List Int)) (Int×List (List Int))):=
 if decide (s20.1<(r18.length:Int)) then ((az r18 s20.1).bind fun x21=>(az s20.2 (IntKind.i64.wrap ((IntKind.i64.wrap (s4.1*(p1.2.1.length:Int)))+s7.1))).bind fun x27=>(cn 8 x27 ([IntKind.i64.wrap ((IntKind.i64.wrap (x10.2.2*(p1.2.1.length:Int)))+x21)])).bind fun z28=>(az s20.2 (IntKind.i64.wrap ((IntKind.i64.wrap (s4.1*(p1.2.1.length:Int)))+s7.1))).bind fun x29=>(chk ((IntKind.i64.wrap ((IntKind.i64.wrap (s4.1*(p1.2.1.length:Int)))+s7.1))<((s20.2.set ((IntKind.i64.wrap ((IntKind.i64.wrap (s4.1*(p1.2.1.length:Int)))+s7.1)).toNat) ([] :List Int)).length:Int))).bind fun _=>(chk ((IntKind.i64.wrap ((IntKind.i64.wrap (s4.1*(p1.2.1.length:Int)))+s7.1))=(IntKind.i64.wrap ((IntKind.i64.wrap (s4.1*(p1.2.1.length:Int)))+s7.1)))).bind fun _=>some (.nxt (IntKind.i64.wrap (s20.1+1),s20.2.set ((IntKind.i64.wrap ((IntKind.i64.wrap (s4.1*(p1.2.1.length:Int)))+s7.1)).toNat) z28))) else (some (.brk (s20.1,s20.2)))
def dH (p0:(List Int)×List (Int×Int×Int×Int)) (p1:Int×(List Bool)×List (List Int)) (s4:Int×List (List Int)) (x5:List ((Int×Bool)×Int×Int)) (s7:Int×List (List Int)) (s9:Int×List (List Int)):Option (Out (List (List Int)) (Int×List (List Int))):=
 if decide (s9.1<(x5.length:Int)) then ((az x5 s9.1).bind fun x10=>(chk (0≤s7.1)).bind fun _=>(az p0.1 s4.1).bind fun x16=>(rj (p1.1,p1.2.1,p1.2.2) (vR 1 s7.1) x16 x10.2.1).bind fun r17=>(gL r17).bind fun r18=>ax (ai (cM p1 s4 s7 x10 r18) aC (0,s9.2)) (fun r32=>some (.ret r32)) (fun s33=>some (.nxt (IntKind.i64.wrap (s9.1+1),s33.2)))) else (some (.brk (s9.1,s9.2)))
def dI (p0:(List Int)×List (Int×Int×Int×Int)) (p1:Int×(List Bool)×List (List Int)) (s4:Int×List (List Int)) (x5:List ((Int×Bool)×Int×Int)) (s7:Int×List (List Int)):Option (Out (List (List Int)) (Int×List (List Int))):=
 if decide (s7.1<(p1.2.1.length:Int)) then (ax (ai (dH p0 p1 s4 x5 s7) aC (0,s7.2)) (fun r34=>some (.ret r34)) (fun s35=>some (.nxt (IntKind.i64.wrap (s7.1+1),s35.2)))) else (some (.brk (s7.1,s7.2)))
def fH (p0:(List Int)×List (Int×Int×Int×Int)) (p1:Int×(List Bool)×List (List Int)) (r1:List (List ((Int×Bool)×Int×Int))) (s4:Int×List (List Int)):Option (Out (List (List Int)) (Int×List (List Int))):=
 if decide (s4.1<(r1.length:Int)) then ((az r1 s4.1).bind fun x5=>ax (ai (dI p0 p1 s4 x5) aC (0,s4.2)) (fun r36=>some (.ret r36)) (fun s37=>some (.nxt (IntKind.i64.wrap (s4.1+1),s37.2)))) else (some (.brk (s4.1,s4.2)))
def dX (p0:(List Int)×List (Int×Int×Int×Int)) (p1:Int×(List Bool)×List (List Int)):Option (List (List Int)):=
 (mkI 24 (IntKind.i64.wrap ((p1.2.1.length:Int)*(p0.1.length:Int))) ([] :List Int)).bind fun z0=>(uS (p0.1,p0.2)).bind fun r1=>ax (ai (fH p0 p1 r1) aC (0,z0)) (fun r38=>some r38) (fun s39=>some s39.2)
def ff (p0g:(List Int)×List (Int×Int×Int×Int)) (p1a:Int×(List Bool)×List (List Int)) (p2source:Int):Option (List Int):=
 (cA (p0g.1,p0g.2) (p1a.1,p1a.2.1,p1a.2.2) ([p2source])).bind fun r0=>if r0 then ((dX (p0g.1,p0g.2) (p1a.1,p1a.2.1,p1a.2.2)).bind fun r3=>(sv r3 ([IntKind.i64.wrap ((IntKind.i64.wrap (p2source*(p1a.2.1.length:Int)))+p1a.1)])).bind fun r4=>((chk (0<(r4.length:Int))).bind fun _=>some r4).bind fun r6=>some r6) else (some ([] :List Int))
def iW (p0a:Int×(List Bool)×(List (List Int))) (r7:List Int) (s15:Int):Option (Out Bool Int):=
 if decide (s15<(r7.length:Int)) then ((az r7 s15).bind fun x20=>(az p0a.2.1 x20).bind fun x21=>if x21 then (some (.ret true)) else (some (.nxt (IntKind.i64.wrap (s15+1))))) else (some (.brk s15))
def dY (p0a:Int×(List Bool)×(List (List Int))) (p2value:Int) (r1:List Int) (s11:Int):Option (Out Bool Int):=
 if decide (s11<(r1.length:Int)) then ((az r1 s11).bind fun x15=>(eG (p0a.1,p0a.2.1,p0a.2.2) x15 p2value).bind fun r6=>(gL r6).bind fun r7=>ax (ai (iW p0a r7) aC 0) (fun r=>some (.ret r)) (fun s16=>some (.nxt (IntKind.i64.wrap (s11+1))))) else (some (.brk s11))
def j7 (p0a:Int×(List Bool)×(List (List Int))) (p1set:Int) (p2value:Int):Option Bool:=
 (gL p1set).bind fun r1=>ax (ai (dY p0a p2value r1) aC 0) (fun r=>some r) (fun s12=>some false)
def eH (p0:List Int):Option (List Int):=R.QK p0
def bL (p0s:List Int) (s1:Int) (s8:Int×Int×List Int):Option (Out (List Int) (Int×Int×List Int)):=
 if decide (s8.2.1<((0+((p0s.length:Int) - 0)) - (0+s1))) then (Option.bind (((chk (And (0≤s8.2.1) (s8.2.1<((0+((p0s.length:Int) - 0)) - (0+s1))))).bind fun _=>(az s8.2.2 ((0+s1)+s8.2.1)).bind fun x14=>(chk (And (0≤(IntKind.i64.wrap (s8.2.1 - 1))) ((IntKind.i64.wrap (s8.2.1 - 1))<((0+((p0s.length:Int) - 0)) - (0+s1))))).bind fun _=>(az s8.2.2 ((0+s1)+(IntKind.i64.wrap (s8.2.1 - 1)))).bind fun x16=>if x14 !=x16 then ((chk (And (0≤s8.2.1) (s8.2.1<((0+((p0s.length:Int) - 0)) - (0+s1))))).bind fun _=>(az s8.2.2 ((0+s1)+s8.2.1)).bind fun x18=>(az s8.2.2 s8.1).bind fun x19=>some (IntKind.i64.wrap (s8.1+1),s8.2.2.set s8.1.toNat x18)) else (some (s8.1,s8.2.2)):Option (Int×List Int))) (fun s20=>some (.nxt (s20.1,IntKind.i64.wrap (s8.2.1+1),s20.2)))) else (some (.brk (s8.1,s8.2.1,s8.2.2)))
def bp (p0s:List Int) (s1:Int):Option (Out (List Int) Int):=
 if decide (s1<(p0s.length:Int)) then ((az p0s s1).bind fun x4=>(az p0s (IntKind.i64.wrap (s1 - 1))).bind fun x5=>if x4==x5 then ((chk (And (0≤s1) (And (s1≤((p0s.length:Int) - 0)) ((0+((p0s.length:Int) - 0))≤(p0s.length:Int))))).bind fun _=>ax (ai (bL p0s s1) aC (s1,1,p0s)) (fun r21=>some (.ret r21)) (fun s22=>(chk (And (0≤s22.1) (And (s22.1≤((s22.2.2.length:Int) - 0)) ((0+((s22.2.2.length:Int) - 0))≤(s22.2.2.length:Int))))).bind fun _=>(chk (And ((0+s22.1)≤(0+((s22.2.2.length:Int) - 0))) ((0+((s22.2.2.length:Int) - 0))≤(s22.2.2.length:Int)))).bind fun _=>(chk (And ((0:Int)≤0) (And (0≤s22.1) ((0+s22.1)≤((oP s22.2.2 ((0+s22.1).toNat) ((0+((s22.2.2.length:Int) - 0)).toNat) 0).length:Int))))).bind fun _=>some (.ret (((oP s22.2.2 ((0+s22.1).toNat) ((0+((s22.2.2.length:Int) - 0)).toNat) 0).take ((0+s22.1).toNat)).drop 0)))) else (some (.nxt (IntKind.i64.wrap (s1+1))))) else (some (.brk s1))
def cd (p0s:List Int):Option (List Int):=
 if decide ((p0s.length:Int)<2) then (some p0s) else (ax (ai (bp p0s) aC 1) (fun r26=>some r26) (fun s27=>some p0s))
def j8 (p0l:List Int):Option (List Int):=
 (gK p0l).bind fun r0=>(eH r0).bind fun r1=>(cd r1).bind fun r2=>some r2
def uT (s2:(List Int)×Int):Option (Out (List Int) ((List Int)×Int)):=
 if decide (s2.2<((0:Nat):Int)) then (none) else (some (.brk (s2.1,s2.2)))
def ez (p0g:(List Int)×List (Int×Int×Int×Int)) (p1a:Int×(List Bool)×List (List Int)) (r0:List Int) (s7:(List Int)×Int):Option (Out (List Int) ((List Int)×Int)):=
 if decide (s7.2<(r0.length:Int)) then (Option.bind (((az r0 s7.2).bind fun x8=>if decide (x8≥0) then ((chk ((p1a.2.1.length:Int)≠0)).bind fun _=>(chk (0≤(Int.tmod s7.2 (p1a.2.1.length:Int)))).bind fun _=>(chk ((p1a.2.1.length:Int)≠0)).bind fun _=>(az p0g.1 (Gy s7.2 (p1a.2.1.length:Int))).bind fun x17=>(j7 (p1a.1,p1a.2.1,p1a.2.2) (vR 1 (Int.tmod s7.2 (p1a.2.1.length:Int))) x17).bind fun r18=>if r18 then ((chk ((p1a.2.1.length:Int)≠0)).bind fun _=>(cn 8 s7.1 ([Gy s7.2 (p1a.2.1.length:Int)])).bind fun z20=>some z20) else (some s7.1)) else (some s7.1):Option (List Int))) (fun s21=>some (.nxt (s21,IntKind.i64.wrap (s7.2+1))))) else (some (.brk (s7.1,s7.2)))
def gN (p0g:(List Int)×List (Int×Int×Int×Int)) (p1a:Int×(List Bool)×List (List Int)) (p2source:Int):Option (List Int):=
 (ff (p0g.1,p0g.2) (p1a.1,p1a.2.1,p1a.2.2) p2source).bind fun r0=>if decide ((r0.length:Int)=0) then (ax (ai (uT) aC (([] :List Int),0)) (fun r3=>some r3) (fun s4=>(j8 s4.1).bind fun r5=>some r5)) else (ax (ai (ez p0g p1a r0) aC (([] :List Int),0)) (fun r22=>some r22) (fun s23=>(j8 s23.1).bind fun r24=>some r24))
def kK (s11:(List (Int×Int))×Int) (r4:List Int) (s15:(List (Int×Int))×Int):Option (Out (List (Int×Int)) ((List (Int×Int))×Int)):=
 if decide (s15.2<(r4.length:Int)) then ((az r4 s15.2).bind fun x9=>(cn 16 s15.1 ([(s11.2,x9)])).bind fun z9=>some (.nxt (z9,IntKind.i64.wrap (s15.2+1)))) else (some (.brk (s15.1,s15.2)))
def fg (p0g:(List Int)×(List (Int×Int×Int×Int))) (p1a:Int×(List Bool)×(List (List Int))) (s11:(List (Int×Int))×Int):Option (Out (List (Int×Int)) ((List (Int×Int))×Int)):=
 if decide (s11.2<(p0g.1.length:Int)) then ((gN (p0g.1,p0g.2) (p1a.1,p1a.2.1,p1a.2.2) s11.2).bind fun r4=>ax (ai (kK s11 r4) aC (s11.1,0)) (fun r=>some (.ret r)) (fun s16=>some (.nxt (s16.1,IntKind.i64.wrap (s11.2+1))))) else (some (.brk (s11.1,s11.2)))
def iN (p0g:(List Int)×(List (Int×Int×Int×Int))) (p1a:Int×(List Bool)×(List (List Int))):Option (List (Int×Int)):=
 (cA (p0g.1,p0g.2) (p1a.1,p1a.2.1,p1a.2.2) ([])).bind fun r1=>if r1 then (ax (ai (fg p0g p1a) aC (([] :List (Int×Int)),0)) (fun r=>some r) (fun s12=>some s12.1)) else (some ([]))
def dh (p0r:(List (Int×(List Bool)×(List (List Int))))×(List (Int×((List (Int×Int×Int×Int)))×Int))) (p1g:(List Int)×(List (Int×Int×Int×Int))) (p2id:Int):Option ((List (Int×Int))×Bool):=
 (eu (p0r.1,p0r.2) p2id).bind fun r1=>if r1.2 then ((aF (p1g.1,p1g.2)).bind fun r2=>if r2 then ((iN (p1g.1,p1g.2) (r1.1.1,r1.1.2.1,r1.1.2.2)).bind fun r3=>some (r3,true)) else (some ([],false))) else (some ([],false))
def bG (p0h:Int×(List ((List Int)×(List (Int×Int×Int×Int))))) (s3:Int):Option (Out Bool Int):=
 if decide (s3<(p0h.2.length:Int)) then ((az p0h.2 s3).bind fun x5=>(aF (x5.1,x5.2)).bind fun r15=>if r15 then ((az p0h.2 0).bind fun x6=>(bO x5.1 x6.1).bind fun r17=>if r17 then (some (.nxt (IntKind.i64.wrap (s3+1)))) else (some (.ret false))) else (some (.ret false))) else (some (.brk s3))
def aW (p0h:Int×(List ((List Int)×(List (Int×Int×Int×Int))))):Option Bool:=
 (bg (p0h.2.length:Int) 1 8).bind fun r1=>if r1 then ((bg p0h.1 1 (IntKind.i64.wrap ((IntKind.i64.wrap (999 - (p0h.2.length:Int)))+1))).bind fun r2=>if r2 then (ax (ai (bG p0h) aC 0) (fun r=>some r) (fun s4=>some true)) else (some false)) else (some false)
def dA (p0h:Int×(List ((List Int)×(List (Int×Int×Int×Int))))):Option Int:=
 (aW (p0h.1,p0h.2)).bind fun r1=>if r1 then (some (IntKind.i64.wrap ((IntKind.i64.wrap (p0h.1+(p0h.2.length:Int))) - 1))) else (some 0)
def iq (p0g:(List Int)×(List (Int×Int×Int×Int))):Option ((List Int)×(List (Int×Int×Int×Int))):=
 (gK p0g.1).bind fun r1=>(cn 32 ([] :List (Int×Int×Int×Int)) p0g.2).bind fun z1=>some (r1,z1)
def gO (p0h:Int×(List ((List Int)×(List (Int×Int×Int×Int))))) (p1version:Int):Option (((List Int)×(List (Int×Int×Int×Int)))×Bool):=
 (aW (p0h.1,p0h.2)).bind fun r1=>if r1 then ((dA (p0h.1,p0h.2)).bind fun r2=>(bg p1version p0h.1 r2).bind fun r3=>if r3 then ((az p0h.2 (IntKind.i64.wrap (p1version - p0h.1))).bind fun x1=>(iq (x1.1,x1.2)).bind fun r6=>some ((r6.1,r6.2),true)) else (some (([],[]),false))) else (some (([],[]),false))
def fI (p0h:Int×(List ((List Int)×(List (Int×Int×Int×Int))))) (p1r:(List (Int×(List Bool)×(List (List Int))))×(List (Int×((List (Int×Int×Int×Int)))×Int))) (p2query:Int) (p3version:Int):Option ((List (Int×Int))×Bool):=
 (gO (p0h.1,p0h.2) p3version).bind fun r1=>if r1.2 then ((dh (p1r.1,p1r.2) (r1.1.1,r1.1.2) p2query).bind fun r2=>some (r2.1,r2.2)) else (some ([],false))
def j9 (p0a:Int) (p1b:Int):Option Int:=
 if decide (p0a<p1b) then (some (-1)) else (if decide (p0a>p1b) then (some 1) else (some 0))
def fP (p0a:Int×Int) (p1b:Int×Int):Option Int:=
 if p0a.1 !=p1b.1 then ((j9 p0a.1 p1b.1).bind fun r2=>some r2) else ((j9 p0a.2 p1b.2).bind fun r1=>some r1)
def gP (p0l:List (Int×Int)) (s3:Int):Option (Out Bool Int):=
 if decide (s3<(p0l.length:Int)) then ((az p0l s3).bind fun x5=>(bg x5.1 0 4).bind fun r7=>if r7 then ((bg x5.2 0 4).bind fun r8=>if r8 then (if decide (s3>0) then ((az p0l (IntKind.i64.wrap (s3 - 1))).bind fun x6=>(fP (x6.1,x6.2) (x5.1,x5.2)).bind fun r9=>if decide (r9≥0) then (some (.ret false)) else (some (.nxt (IntKind.i64.wrap (s3+1))))) else (some (.nxt (IntKind.i64.wrap (s3+1))))) else (some (.ret false))) else (some (.ret false))) else (some (.brk s3))
def eA (p0l:List (Int×Int)):Option Bool:=
 ax (ai (gP p0l) aC 0) (fun r=>some r) (fun s4=>some true)
def cT (p0l:List (Int×Int)):Option (List (Int×Int)):=
 (cn 16 ([] :List (Int×Int)) p0l).bind fun z1=>some z1
def bw (p0s:List (Int×Int)) (p1f:(Int×Int)→Option Bool) (s3:Int):Option (Out Int Int):=
 if decide (s3<(p0s.length:Int)) then ((az p0s s3).bind fun x3=>(p1f (x3.1,x3.2)).bind fun r3=>if r3 then (some (.ret s3)) else (some (.nxt (IntKind.i64.wrap (s3+1))))) else (some (.brk s3))
def aR (p0s:List (Int×Int)) (p1f:(Int×Int)→Option Bool):Option Int:=
 ax (ai (bw p0s p1f) aC 0) (fun r=>some r) (fun s4=>some (-1))
def bt (p1del:(Int×Int)→Option Bool) (s3:Int×Int×List (Int×Int)):Option (Out (List (Int×Int)) (Int×Int×List (Int×Int))):=
 if decide (s3.2.1<(s3.2.2.length:Int)) then (Option.bind (((az s3.2.2 s3.2.1).bind fun x4=>(p1del (x4.1,x4.2)).bind fun r5=>if r5 then (some (s3.1,s3.2.2)) else ((az s3.2.2 s3.1).bind fun x6=>some (IntKind.i64.wrap (s3.1+1),s3.2.2.set s3.1.toNat (x4.1,x4.2))):Option (Int×List (Int×Int)))) (fun s7=>some (.nxt (s7.1,IntKind.i64.wrap (s3.2.1+1),s7.2)))) else (some (.brk (s3.1,s3.2.1,s3.2.2)))
def bB (p0s:List (Int×Int)) (p1del:(Int×Int)→Option Bool):Option (List (Int×Int)):=
 (aR p0s p1del).bind fun r0=>if r0==(-1) then (some p0s) else (ax (ai (bt p1del) aC (r0,IntKind.i64.wrap (r0+1),p0s)) (fun r8=>some r8) (fun s9=>(chk (And (0≤s9.1) (And (s9.1≤((s9.2.2.length:Int) - 0)) ((0+((s9.2.2.length:Int) - 0))≤(s9.2.2.length:Int))))).bind fun _=>(chk (And ((0+s9.1)≤(0+((s9.2.2.length:Int) - 0))) ((0+((s9.2.2.length:Int) - 0))≤(s9.2.2.length:Int)))).bind fun _=>(chk (And ((0:Int)≤0) (And (0≤s9.1) ((0+s9.1)≤((oP s9.2.2 ((0+s9.1).toNat) ((0+((s9.2.2.length:Int) - 0)).toNat) (0,0)).length:Int))))).bind fun _=>some (((oP s9.2.2 ((0+s9.1).toNat) ((0+((s9.2.2.length:Int) - 0)).toNat) (0,0)).take ((0+s9.1).toNat)).drop 0)))
def cO (p0:List (Int×Int)) (p1:Unit):Option (List (Int×Int)):=R.QH R.KE p0
def bC (p0s:List (Int×Int)) (s1:Int) (s14:Int×Int×List (Int×Int)):Option (Out (List (Int×Int)) (Int×Int×List (Int×Int))):=
 if decide (s14.2.1<((0+((p0s.length:Int) - 0)) - (0+s1))) then (Option.bind (((chk (And (0≤s14.2.1) (s14.2.1<((0+((p0s.length:Int) - 0)) - (0+s1))))).bind fun _=>(az s14.2.2 ((0+s1)+s14.2.1)).bind fun x20=>(chk (And (0≤(IntKind.i64.wrap (s14.2.1 - 1))) ((IntKind.i64.wrap (s14.2.1 - 1))<((0+((p0s.length:Int) - 0)) - (0+s1))))).bind fun _=>(az s14.2.2 ((0+s1)+(IntKind.i64.wrap (s14.2.1 - 1)))).bind fun x22=>if Bool.and.match_1 (fun (u23:Bool)=>Bool) (x20.1==x22.1) (fun (u24:Unit)=>false) (fun (u25:Unit)=>Bool.and.match_1 (fun (u26:Bool)=>Bool) (x20.2==x22.2) (fun (u27:Unit)=>false) (fun (u28:Unit)=>true)) then (some (s14.1,s14.2.2)) else ((chk (And (0≤s14.2.1) (s14.2.1<((0+((p0s.length:Int) - 0)) - (0+s1))))).bind fun _=>(az s14.2.2 ((0+s1)+s14.2.1)).bind fun x30=>(az s14.2.2 s14.1).bind fun x31=>some (IntKind.i64.wrap (s14.1+1),s14.2.2.set s14.1.toNat (x30.1,x30.2))):Option (Int×List (Int×Int)))) (fun s32=>some (.nxt (s32.1,IntKind.i64.wrap (s14.2.1+1),s32.2)))) else (some (.brk (s14.1,s14.2.1,s14.2.2)))
def be (p0s:List (Int×Int)) (s1:Int):Option (Out (List (Int×Int)) Int):=
 if decide (s1<(p0s.length:Int)) then ((az p0s s1).bind fun x4=>(az p0s (IntKind.i64.wrap (s1 - 1))).bind fun x5=>if Bool.and.match_1 (fun (u6:Bool)=>Bool) (x4.1==x5.1) (fun (u7:Unit)=>false) (fun (u8:Unit)=>Bool.and.match_1 (fun (u9:Bool)=>Bool) (x4.2==x5.2) (fun (u10:Unit)=>false) (fun (u11:Unit)=>true)) then ((chk (And (0≤s1) (And (s1≤((p0s.length:Int) - 0)) ((0+((p0s.length:Int) - 0))≤(p0s.length:Int))))).bind fun _=>ax (ai (bC p0s s1) aC (s1,1,p0s)) (fun r33=>some (.ret r33)) (fun s34=>(chk (And (0≤s34.1) (And (s34.1≤((s34.2.2.length:Int) - 0)) ((0+((s34.2.2.length:Int) - 0))≤(s34.2.2.length:Int))))).bind fun _=>(chk (And ((0+s34.1)≤(0+((s34.2.2.length:Int) - 0))) ((0+((s34.2.2.length:Int) - 0))≤(s34.2.2.length:Int)))).bind fun _=>(chk (And ((0:Int)≤0) (And (0≤s34.1) ((0+s34.1)≤((oP s34.2.2 ((0+s34.1).toNat) ((0+((s34.2.2.length:Int) - 0)).toNat) (0,0)).length:Int))))).bind fun _=>some (.ret (((oP s34.2.2 ((0+s34.1).toNat) ((0+((s34.2.2.length:Int) - 0)).toNat) (0,0)).take ((0+s34.1).toNat)).drop 0)))) else (some (.nxt (IntKind.i64.wrap (s1+1))))) else (some (.brk s1))
def bT (p0s:List (Int×Int)):Option (List (Int×Int)):=
 if decide ((p0s.length:Int)<2) then (some p0s) else (ax (ai (be p0s) aC 1) (fun r38=>some r38) (fun s39=>some p0s))
def nq (p0l:List (Int×Int)):Option (List (Int×Int)):=
 (cn 16 ([] :List (Int×Int)) p0l).bind fun z0=>(cO z0 ()).bind fun r1=>(bT r1).bind fun r2=>some r2
def bM (p0s:List (Int×Int)) (p1v:Int×Int) (s3:Int):Option (Out Int Int):=
 if decide (s3<(p0s.length:Int)) then ((az p0s s3).bind fun x3=>if ((p1v.1==x3.1)&&((p1v.2==x3.2)&&true)) then (some (.ret s3)) else (some (.nxt (IntKind.i64.wrap (s3+1))))) else (some (.brk s3))
def cg (p0s:List (Int×Int)) (p1v:Int×Int):Option Int:=
 ax (ai (bM p0s p1v) aC 0) (fun r=>some r) (fun s4=>some (-1))
def bq (p0s:List (Int×Int)) (p1v:Int×Int):Option Bool:=
 (cg p0s (p1v.1,p1v.2)).bind fun r1=>some (decide (r1≥0))
def jh (p0p:Int×Int) (q0:List (Int×Int)):Option Bool:=
 (bq q0 (p0p.1,p0p.2)).bind fun r1=>some r1
def fh (p0a:List (Int×Int)) (p1b:List (Int×Int)):Option (List (Int×Int)):=
 (nq p0a).bind fun r0=>(bB r0 (fun (u1:Int×Int)=>jh u1 p1b)).bind fun r2=>some r2
def bX (p0s:List (Int×Int)) (p1f:(Int×Int)→Option Bool):Option Bool:=
 (aR p0s p1f).bind fun r1=>some (decide (r1≥0))
def iX (p0p:Int×Int) (q0:List (Int×Int)):Option Bool:=
 (bq q0 (p0p.1,p0p.2)).bind fun r1=>some r1
def iO (p0a:List (Int×Int)) (p1b:List (Int×Int)):Option Bool:=
 (bX p0a (fun a0=>iX a0 p1b)).bind fun r1=>some r1
def qa (p0d:(List (Int×Int))×(List (Int×Int))):Option Bool:=
 (eA p0d.1).bind fun r1=>if r1 then ((eA p0d.2).bind fun r2=>if r2 then ((iO p0d.1 p0d.2).bind fun r3=>some (!r3)) else (some false)) else (some false)
def lx (p0a:List (Int×Int)) (p1b:List (Int×Int)):Option (List (Int×Int)):=
 (cn 16 ([] :List (Int×Int)) p0a).bind fun z1=>(cn 16 z1 p1b).bind fun z2=>(nq z2).bind fun r1=>some r1
def lz (p0l:List (Int×Int)) (p1d:(List (Int×Int))×(List (Int×Int))):Option ((List (Int×Int))×Bool):=
 (qa (p1d.1,p1d.2)).bind fun r1=>if r1 then ((eA p0l).bind fun r3=>if r3 then ((iO p0l p1d.1).bind fun r5=>if r5 then ((cT p0l).bind fun r10=>some (r10,false)) else ((fh p1d.2 p0l).bind fun r6=>if decide ((r6.length:Int)>0) then ((cT p0l).bind fun r9=>some (r9,false)) else ((fh p0l p1d.2).bind fun r7=>(lx r7 p1d.1).bind fun r8=>some (r8,true)))) else ((cT p0l).bind fun r4=>some (r4,false))) else ((cT p0l).bind fun r2=>some (r2,false))
def fQ (p0l:List (Int×Int)) (p1m:Int×Bool×((List (Int×Int))×(List (Int×Int)))):Option ((List (Int×Int))×Bool):=
 if p1m.2.1 then ((eA p1m.2.2.1).bind fun r2=>if r2 then (if decide ((p1m.2.2.2.length:Int)>0) then ((cT p0l).bind fun r5=>some (r5,false)) else ((cT p1m.2.2.1).bind fun r4=>some (r4,true))) else ((cT p0l).bind fun r3=>some (r3,false))) else ((lz p0l (p1m.2.2.1,p1m.2.2.2)).bind fun r1=>some (r1.1,r1.2))
def bN (p0s1:List (Int×Int)) (p1s2:List (Int×Int)) (s3:Int):Option (Out Bool Int):=
 if decide (s3<(p0s1.length:Int)) then ((az p0s1 s3).bind fun x5=>(az p1s2 s3).bind fun x6=>if (x5.1==x6.1)&&((x5.2==x6.2)&&true) then (some (.nxt (IntKind.i64.wrap (s3+1)))) else (some (.ret false))) else (some (.brk s3))
def cj (p0s1:List (Int×Int)) (p1s2:List (Int×Int)):Option Bool:=
 if (p0s1.length:Int) !=(p1s2.length:Int) then (some false) else (ax (ai (bN p0s1 p1s2) aC 0) (fun r=>some r) (fun s4=>some true))
def lA (p0a:List (Int×Int)) (p1b:List (Int×Int)):Option Bool:=
 (cj p0a p1b).bind fun r1=>some r1
def dn (p0:Int×(List ((List Int)×(List (Int×Int×Int×Int))))) (p1:(List (Int×(List Bool)×(List (List Int))))×(List (Int×((List (Int×Int×Int×Int)))×Int))) (p2:Int) (p4:List (Int×Bool×((List (Int×Int))×(List (Int×Int))))) (s3:(List (Int×Int))×Int×Int):Option (Out Bool ((List (Int×Int))×Int×Int)):=
 if decide (s3.2.2<(p4.length:Int)) then ((az p4 s3.2.2).bind fun x3=>(fQ s3.1 (x3.1,x3.2.1,(x3.2.2.1,x3.2.2.2))).bind fun r14=>(fI (p0.1,p0.2) (p1.1,p1.2) p2 x3.1).bind fun r15=>if r14.2 then (if r15.2 then (if decide (x3.1≤s3.2.1) then (some (.ret false)) else ((lA r14.1 r15.1).bind fun r16=>if r16 then (some (.nxt (r14.1,x3.1,IntKind.i64.wrap (s3.2.2+1)))) else (some (.ret false)))) else (some (.ret false))) else (some (.ret false))) else (some (.brk (s3.1,s3.2.1,s3.2.2)))
def ir (p0:Int×(List ((List Int)×(List (Int×Int×Int×Int))))) (p1:(List (Int×(List Bool)×(List (List Int))))×(List (Int×((List (Int×Int×Int×Int)))×Int))) (p2:Int) (p3:Int) (p4:List (Int×Bool×((List (Int×Int))×(List (Int×Int))))):Option Bool:=
 (fI (p0.1,p0.2) (p1.1,p1.2) p2 p3).bind fun r1=>if r1.2 then (ax (ai (dn p0 p1 p2 p4) aC (r1.1,p3,0)) (fun r=>some r) (fun s4=>some true)) else (some false)
def sw (p0a:Int×Int) (p1b:Int×Int):Option Bool:=
 if p0a.1 !=p1b.1 then (some false) else (if p0a.2 !=p1b.2 then (some false) else (some true))
def lB (p0a:List (Int×Int)) (p1b:List (Int×Int)) (s3:Int):Option (Out Bool Int):=
 if decide (s3<(p0a.length:Int)) then ((az p0a s3).bind fun x5=>(az p1b s3).bind fun x6=>(sw (x5.1,x5.2) (x6.1,x6.2)).bind fun r3=>if r3 then (some (.nxt (IntKind.i64.wrap (s3+1)))) else (some (.ret false))) else (some (.brk s3))
def qb (p0a:List (Int×Int)) (p1b:List (Int×Int)):Option Bool:=
 if (p0a.length:Int) !=(p1b.length:Int) then (some false) else (ax (ai (lB p0a p1b) aC 0) (fun r=>some r) (fun s4=>some true))
def qc (p0a:(List (Int×Int))×(List (Int×Int))) (p1b:(List (Int×Int))×(List (Int×Int))):Option Bool:=
 (qb p0a.1 p1b.1).bind fun r1=>if r1 then ((qb p0a.2 p1b.2).bind fun r2=>if r2 then (some true) else (some false)) else (some false)
def mF (p0a:Int×Bool×((List (Int×Int))×(List (Int×Int)))) (p1b:Int×Bool×((List (Int×Int))×(List (Int×Int)))):Option Bool:=
 if p0a.1 !=p1b.1 then (some false) else (if p0a.2.1 !=p1b.2.1 then (some false) else ((qc (p0a.2.2.1,p0a.2.2.2) (p1b.2.2.1,p1b.2.2.2)).bind fun r1=>if r1 then (some true) else (some false)))
def iu (p0a:List (Int×Bool×((List (Int×Int))×(List (Int×Int))))) (p1b:List (Int×Bool×((List (Int×Int))×(List (Int×Int))))) (s3:Int):Option (Out Bool Int):=
 if decide (s3<(p0a.length:Int)) then ((az p0a s3).bind fun x5=>(az p1b s3).bind fun x6=>(mF (x5.1,x5.2.1,(x5.2.2.1,x5.2.2.2)) (x6.1,x6.2.1,(x6.2.2.1,x6.2.2.2))).bind fun r15=>if r15 then (some (.nxt (IntKind.i64.wrap (s3+1)))) else (some (.ret false))) else (some (.brk s3))
def oE (p0a:List (Int×Bool×((List (Int×Int))×(List (Int×Int))))) (p1b:List (Int×Bool×((List (Int×Int))×(List (Int×Int))))):Option Bool:=
 if (p0a.length:Int) !=(p1b.length:Int) then (some false) else (ax (ai (iu p0a p1b) aC 0) (fun r=>some r) (fun s4=>some true))
def de (p0:Int×(List ((List Int)×(List (Int×Int×Int×Int))))) (p1:(List (Int×(List Bool)×(List (List Int))))×(List (Int×((List (Int×Int×Int×Int)))×Int))) (p2:Int) (p3:Int) (p4:List (Int×Bool×((List (Int×Int))×(List (Int×Int))))):Option Bool:=
 (mu (p0.1,p0.2) 1048576).bind fun r1=>if decide (r1<0) then (some true) else ((kT (p1.1,p1.2) r1).bind fun r2=>if decide (r2<0) then (some true) else ((oA p4 r2).bind fun r3=>if decide (r3<0) then (some true) else ((gW (p0.1,p0.2)).bind fun r4=>(fT (p1.1,p1.2)).bind fun r5=>(fW p4).bind fun r6=>(ij (r4.1,r4.2) (r5.1,r5.2) p2 p3 r6).bind fun r7=>(gW (p0.1,p0.2)).bind fun r8=>(fT (p1.1,p1.2)).bind fun r9=>(fW p4).bind fun r10=>(ir (r8.1,r8.2) (r9.1,r9.2) p2 p3 r10).bind fun r11=>if r11 !=r7 then (some false) else ((gW (p0.1,p0.2)).bind fun r12=>(mw (r8.1,r8.2) (r12.1,r12.2)).bind fun r13=>if r13 then ((fT (p1.1,p1.2)).bind fun r14=>(kY (r9.1,r9.2) (r14.1,r14.2)).bind fun r15=>if r15 then ((fW p4).bind fun r16=>(oE r10 r16).bind fun r17=>if r17 then (some true) else (some false)) else (some false)) else (some false)))))
end D
end Go.Proofs.YtakjhbbbjbebdaaGreat
