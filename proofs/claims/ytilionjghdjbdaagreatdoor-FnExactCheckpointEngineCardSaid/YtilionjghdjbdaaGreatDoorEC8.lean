/- FnExactCheckpointEngine: for every input the law returns true and changes nothing that was there. Part 9 of 9. -/
import Derived.Test.YtilionjghdjbdaaGreatDoorEC7
import Derived.Test.YtilionjghdjbdaaGreatDoorEKCheckpointEngine
set_option linter.unusedVariables false
set_option linter.unusedSimpArgs false
set_option linter.unnecessarySimpa false
set_option linter.unusedSectionVars false
set_option maxRecDepth 1000000
namespace Go.Proofs.YtilionjghdjbdaaGreatDoor
set_option synthInstance.maxSize 20000
set_option synthInstance.maxHeartbeats 2000000
namespace D
open Go.RowKit
theorem VN (r:Lu) (hr:Data.sm r):qd r=some r:=by
 obtain ⟨h1,h2⟩:=aG hr.1
 obtain ⟨h3,h4⟩:=aG hr.2
 unfold qd
 have a:=bc (f:=jc r) (fun i=>((i:Int),r.1.take i,([] :List QT))) r.1.length (fun i hi=>by
  unfold jc
  simp only[bK hi,if_true,aF hi,aa,dC,VL _ (h2 _ (List.getElem_mem hi)),af (show i<9223372036854775807 by omega)]
  rw[aL (by simp;omega)]
  simp only[aa]
  rw[List.take_succ_eq_append_getElem hi]) (by
  unfold jc
  simp only[bm,Bool.false_eq_true,if_false]) (dB _ (by omega))
 have e:ax (jc r) aW (0,[],[])=_:=a
 rw[e]
 simp only[aP,List.take_length]
 have a:=bc (f:=jd r) (fun i=>((i:Int),r.1,r.2.take i)) r.2.length (fun i hi=>by
  unfold jd
  have c:gy r.2[i].2.1=some r.2[i].2.1:=by unfold gy;rw[aL (by have:=(h4 _ (List.getElem_mem hi)).2.1.1;simp;omega)];rfl
  simp only[bK hi,if_true,aF hi,aa,dC,c,af (show i<9223372036854775807 by omega)]
  rw[aL (by simp;omega)]
  simp only[aa]
  rw[List.take_succ_eq_append_getElem hi]) (by
  unfold jd
  simp only[bm,Bool.false_eq_true,if_false]) (dB _ (by omega))
 have e:ax (jd r) aW (0,r.1,[])=_:=a
 rw[e]
 simp only[List.take_length]
theorem VO (r:Lu) (hr:Data.sm r):jq r=some r:=by
 obtain ⟨h1,h2⟩:=aG hr.1
 obtain ⟨h3,h4⟩:=aG hr.2
 unfold jq
 have a:=bc (f:=dS r) (fun i=>((i:Int),r.1.take i,([] :List QT))) r.1.length (fun i hi=>by
  unfold dS
  simp only[bK hi,if_true,aF hi,aa,dC,VM _ (h2 _ (List.getElem_mem hi)),af (show i<9223372036854775807 by omega)]
  rw[aL (by simp;omega)]
  simp only[aa]
  rw[List.take_succ_eq_append_getElem hi]) (by
  unfold dS
  simp only[bm,Bool.false_eq_true,if_false]) (dB _ (by omega))
 have e:ax (dS r) aW (0,[],[])=_:=a
 rw[e]
 simp only[aP,List.take_length]
 have a:=bc (f:=dU r) (fun i=>((i:Int),r.1,r.2.take i)) r.2.length (fun i hi=>by
  unfold dU
  have c:fL r.2[i].2.1=some r.2[i].2.1:=by unfold fL;rw[aL (by have:=(h4 _ (List.getElem_mem hi)).2.1.1;simp;omega)];rfl
  simp only[bK hi,if_true,aF hi,aa,dC,c,af (show i<9223372036854775807 by omega)]
  rw[aL (by simp;omega)]
  simp only[aa]
  rw[List.take_succ_eq_append_getElem hi]) (by
  unfold dU
  simp only[bm,Bool.false_eq_true,if_false]) (dB _ (by omega))
 have e:ax (dU r) aW (0,r.1,[])=_:=a
 rw[e]
 simp only[List.take_length]
end D
set_option synthInstance.maxSize 20000
set_option synthInstance.maxHeartbeats 2000000
namespace D
open Go.RowKit
theorem Pi (h:LG) (hh:Data.sm h):pb h=some h:=by
 obtain ⟨hl,hs⟩:=aG hh.2
 have e:=bc (f:=kA h) (fun i=>((i:Int),h.1,h.2.take i)) h.2.length (fun i hi=>by
  have e:pa (h.2[i].1,h.2[i].2)=some h.2[i]:=VK h.2[i] (hs _ (List.getElem_mem hi))
  have hx: ∀z:GrT,cJ 48 (h.2.take i) [z] =some (h.2.take i++ [z]):=fun z=>aL (by rw[aE];simp only[ak,aH];omega)
  unfold kA
  simp only[]
  rw[bK hi,if_pos rfl,aF hi]
  simp only[aa]
  rw[e]
  simp only[aa]
  rw[hx,af (by omega),List.take_succ_eq_append_getElem hi];rfl) (by
  unfold kA
  simp only[]
  rw[bm];rfl) (dB _ (by omega))
 rw[List.take_length] at e
 have e:ax (kA h) aW (0,h.1,[])=_:=e
 unfold pb
 rw[aw e]
theorem Pj (h:LG) (hh:Data.sm h):ij h=some h:=by
 obtain ⟨hl,hs⟩:=aG hh.2
 have e:=bc (f:=eQ h) (fun i=>((i:Int),h.1,h.2.take i)) h.2.length (fun i hi=>by
  have e:iD (h.2[i].1,h.2[i].2)=some h.2[i]:=Pg h.2[i] (hs _ (List.getElem_mem hi))
  have hx: ∀z:GrT,cJ 48 (h.2.take i) [z] =some (h.2.take i++ [z]):=fun z=>aL (by rw[aE];simp only[ak,aH];omega)
  unfold eQ
  simp only[]
  rw[bK hi,if_pos rfl,aF hi]
  simp only[aa]
  rw[e]
  simp only[aa]
  rw[hx,af (by omega),List.take_succ_eq_append_getElem hi];rfl) (by
  unfold eQ
  simp only[]
  rw[bm];rfl) (dB _ (by omega))
 rw[List.take_length] at e
 have e:ax (eQ h) aW (0,h.1,[])=_:=e
 unfold ij
 rw[aw e]
theorem Pm (e:EngT) (he:Data.sm e):ny e=some e:=by
 obtain ⟨s1,s2,s3,s4⟩:=he
 have h3:=(aG s3).1
 unfold ny
 simp only[dC,Pi e.1 s1,VN e.2.1 s2,aa]
 rw[aL (by simp;omega)];rfl
theorem VP (e:EngT) (he:Data.sm e):lP e=some e:=by
 obtain ⟨s1,s2,s3,s4⟩:=he
 have h3:=(aG s3).1
 unfold lP
 simp only[dC,Pj e.1 s1,VO e.2.1 s2,aa]
 rw[aL (by simp;omega)];rfl
theorem VQ {α:Type} [Data α] {l:List α} (h:Data.sm l) (n:Nat):Data.sm (l.drop n):=
 ⟨by have:=(aG h).1;rw[aV];omega,fun x hx=>(aG h).2 x (List.mem_of_mem_drop hx)⟩
theorem Pn (h:LG) (hh:Data.sm h) (v:Int): ∃x:LG×Bool,dm h v=some x/\gG h v=some x/\Data.sm x.1/\(m_s_IsValidHistory h=some true->h.1<=v->v<=latV h->x.2=true):=by
 obtain ⟨b,es,ei,k⟩:=GK h hh
 unfold dm gG uh
 simp only[dC,Pi h hh,Pj h hh,es,ei,aa]
 cases b with
 | false=>exact ⟨(h,false),rfl,rfl,hh,fun c=>by simp at c⟩
 | true =>
  have kk:=k rfl
  obtain ⟨l1,l2⟩:=A9 es ei kk
  simp only[if_true,l1,l2,aa,LD,GQ]
  by_cases c:h.1<=v/\v<=latV h
  ·have c':=c
   unfold latV at c'
   have hm:=(aG hh.2).2 _ (b7 (xs:=h.2) (i:=v - h.1) (by omega) (by omega))
   rw[decide_eq_true c,eY (n:=v - h.1) (by omega) (by omega)]
   simp only[if_true]
   rw[aC (by omega) (by omega)]
   simp only[dC,aa]
   rw[Pg _ hm]
   have hc:chk (0<=v - h.1/\v - h.1<=(h.2.length:Int))=some ():=by
    unfold chk;rw[if_pos ⟨by omega,by omega⟩]
   simp only[aa,if_true,hc]
   exact ⟨_,rfl,rfl,⟨trivial,VQ hh.2 _⟩,fun _ _ _=>rfl⟩
  ·rw[decide_eq_false c]
   exact ⟨(h,false),rfl,rfl,hh,fun _ h1 h2=>absurd ⟨h1,h2⟩ c⟩
def J4 (v:Int) (r:List Int) (q:List (List ChT)):Nat->List UInt8
 | 0=>[]
 | i+1=>J4 v r q i++if nth r (i:Int)>v then recT (nth r (i:Int)) (nth q (i:Int)) else []
theorem yV (v:Int) (r:List Int) (q:List (List ChT)): ∀i,(J4 v r q i).length<=totL r q i
 | 0=>aA _
 | i+1=>by
  have:=yV v r q i
  rw[J4,totL,al]
  split
  ·omega
  ·simp;omega
theorem ID (r:List Int) (q:List (List ChT)): ∀i,totL r q i<=1000*i
 | 0=>aA _
 | i+1=>by
  have:=ID r q i
  have:=(CJ (nth r (i:Int)) (nth q (i:Int))).2.2
  rw[totL];omega
theorem GL {v:Int} {r:List Int} {q:List (List ChT)} (h: ∀x∈r,x<=v): ∀i,i<=r.length->J4 v r q i= []
 | 0,_=>rfl
 | i+1,hi=>by
  have:=h _ (b7 (xs:=r) (i:=(i:Int)) (by omega) (by omega))
  rw[J4,GL h i (by omega),if_neg (by omega)];rfl
theorem YB {v:Int} {r:List Int} {q:List (List ChT)} {n:Int} (hq:q.length=r.length) (hr:r.length<=4000):ax (kF v (r,q,n)) aW ((⟨#[]⟩:ByteArray),0,q)=some (.brk (mkB (J4 v r q r.length),(r.length:Int),q)):=by
 refine bc (f:=kF v (r,q,n)) (fun i=>(mkB (J4 v r q i),(i:Int),q)) r.length (fun i hi=>?_) ?_ (dB _ (by omega))
 ·have e1:=(CJ (nth r (i:Int)) (nth q (i:Int))).1
  have e2:=(CJ (nth r (i:Int)) (nth q (i:Int))).2.2
  have e3:=yV v r q i
  have e4:=ID r q i
  unfold kF
  simp only[]
  rw[bK hi,if_pos rfl,aC (xs:=r) (i:=(i:Int)) (by omega) (by omega)]
  simp only[aa]
  by_cases c:nth r (i:Int)>v
  ·rw[if_pos (decide_eq_true c),aC (xs:=q) (i:=(i:Int)) (by omega) (by omega)]
   simp only[aa]
   rw[e1]
   simp only[aa]
   rw[BS _ _ (by omega),af (by omega),J4,if_pos c];rfl
  ·rw[if_neg (by simpa using c),af (by omega),J4,if_neg c,List.append_nil];rfl
 ·unfold kF
  simp only[]
  rw[bm];rfl
theorem YC {v:Int} {r:List Int} {q:List (List ChT)} {n f:Int} {g:List GrT} {a:List AutT} {qs:List QT} {ss:List XX} (hq:q.length=r.length) (hr:r.length<=4000):ax (dz v (r,q,n)) aW (0,q,f,g,a,qs,ss,(⟨#[]⟩:ByteArray))=some (.brk ((r.length:Int),q,f,g,a,qs,ss,mkB (J4 v r q r.length))):=by
 refine bc (f:=dz v (r,q,n)) (fun i=>((i:Int),q,f,g,a,qs,ss,mkB (J4 v r q i))) r.length (fun i hi=>?_) ?_ (dB _ (by omega))
 ·have e1:=(CJ (nth r (i:Int)) (nth q (i:Int))).2.1
  have e2:=(CJ (nth r (i:Int)) (nth q (i:Int))).2.2
  have e3:=yV v r q i
  have e4:=ID r q i
  unfold dz
  simp only[]
  rw[bK hi,if_pos rfl,aC (xs:=r) (i:=(i:Int)) (by omega) (by omega)]
  simp only[aa]
  by_cases c:nth r (i:Int)>v
  ·rw[if_pos (decide_eq_true c),aC (xs:=q) (i:=(i:Int)) (by omega) (by omega)]
   simp only[aa]
   rw[e1]
   simp only[aa]
   rw[BS _ _ (by omega)]
   simp only[aa]
   rw[af (by omega),J4,if_pos c]
  ·rw[if_neg (by simpa using c)]
   simp only[aa]
   rw[af (by omega),J4,if_neg c,List.append_nil]
 ·unfold dz
  simp only[]
  rw[bm];rfl
theorem GM (e:EngT) (he:Data.sm e) (v:Int): ∃x:EngT×Bool,pc e v=some x/\iF e v=some x/\Data.sm x.1/\(dK e=some true->v=latV e.1-> ∃y:LG×Bool,dm e.1 v=some y/\x=((y.1,e.2.1,e.2.2.1,mkB []),true)):=by
 obtain ⟨b,es,ei,k⟩:=JZ e he
 obtain ⟨y,y1,y2,y3,y4⟩:=Pn e.1 he.1 v
 unfold pc iF
 simp only[dC,Pm e he,VP e he,es,ei,y1,y2,aa]
 cases b with
 | false=>exact ⟨(e,false),rfl,rfl,he,fun c=>by simp at c⟩
 | true =>
  have ok:=k rfl
  obtain ⟨r,q,n,g1,g2,g3,g4,g5,g6⟩:=ok.sc
  simp only[if_true]
  by_cases c:y.2=true
  ·have c1:=YB (v:=v) (n:=n) g4.1 g3
   have c2:=YC (v:=v) (n:=n) (f:=y.1.1) (g:=y.1.2) (a:=e.2.1.1) (qs:=e.2.1.2) (ss:=e.2.2.1) g4.1 g3
   have hn:=yV v r q r.length
   unfold Cn
   simp only[if_pos c,g1,g2,aa,c1,c2,aP,dC]
   refine ⟨_,rfl,rfl,⟨y3,he.2.1,he.2.2.1,?_⟩,fun _ hv=>⟨y,rfl,?_⟩⟩
   ·show (mkB (J4 v r q r.length)).size<=1048576
    rw[bM];omega
   ·rw[GL (fun x hx=>?_) _ (aA _)]
    obtain ⟨-,k2⟩:=g4.2.2 x hx
    rcases g6 with g6 | g6
    ·have:=List.length_pos_of_mem hx;omega
    ·omega
  ·simp only[if_neg c,dC]
   refine ⟨(e,false),rfl,rfl,he,fun _ hv=>absurd (y4 ok.hs ?_ ?_) c⟩
   ·have:=ok.hb;unfold latV at hv;omega
   ·omega
end D
set_option synthInstance.maxSize 20000
set_option synthInstance.maxHeartbeats 2000000
namespace D
open Go.RowKit
theorem Ly (e:EngT) (he:Data.sm e): ∃x:EngT×Bool,fo e=some x/\dA e=some x/\Data.sm x.1:=by
 obtain ⟨b,es,ei,k⟩:=JZ e he
 unfold fo dA
 simp only[dC,Pm e he,es,ei,aa]
 cases b with
 | false=>exact ⟨(((0,[]),([],[]),[],⟨#[]⟩),false),rfl,rfl,⟨trivial,by decide,fun _ h=>by cases h⟩,⟨⟨by decide,fun _ h=>by cases h⟩,by decide,fun _ h=>by cases h⟩,⟨by decide,fun _ h=>by cases h⟩,by show (0:Nat)<=1048576;omega⟩
 | true =>
  have ok:=k rfl
  obtain ⟨l1,l2⟩:=A9 ok.hs ok.hi ok.hb
  obtain ⟨x,x1,x2,x3,x4⟩:=GM e he (latV e.1)
  obtain ⟨y,y1,y2⟩:=x4 es rfl
  subst y2
  simp only[if_true,l1,l2,aa,x2,y1,dC]
  exact ⟨_,rfl,rfl,x3⟩
theorem uI (x:EngT) (hx:Data.lim x):cP x=some true:=by
 unfold cP
 simp only[dC]
 obtain ⟨r1,e1,k1⟩:=La x 1048576 hx (by decide) (by decide)
 rw[e1];simp only[aa]
 rcases k1 with k1 | ⟨k1,j1,s1⟩
 ·rw[if_pos (decide_eq_true k1)]
 rw[if_neg (by simpa using k1)]
 obtain ⟨r,es,ei,sr⟩:=Ly x s1
 have b1:=Gv x s1
 have b2:=Gv r.1 sr
 have em1:eX x 1=_:=Gw x s1 (k:=1) (by omega)
 have em2:eX r.1 1=_:=Gw r.1 sr (k:=1) (by omega)
 have eh2:gz ((r.1.1.1,(sP r.1 1).1.2),(sP r.1 1).2.1,(sP r.1 1).2.2.1,r.1.2.2.2) 1=_:=Ot r.1 sr (k:=1) (by omega)
 simp only[Ld x s1,es,ei,CH r.1 r.1 sr sr,CH x x s1 s1,aa,dC,em1,em2,eh2,decide_true,if_true,Lh,bne_self_eq_false,Bool.false_eq_true,if_false]
end D
open Go.ChangeShapes Go.WideShapes Go.ChangeAt Go.RowKit
theorem own:ownKnob Tryz.prog.godebug=none:=by kernel_rfl
theorem laidOut:laidOutB Tryz.prog=true:=by kernel_rfl
theorem v8 {H:Type} {enc:TypeId×Value->H} {P:Program} (hl:laidOutB P=true) {W W':World} (hb:Below W.heap.size W W') :
  ∀ {ts:List TypeId} {vs:List Value} {ds:List (DataW H)} {ps:List MemPlace},(∀t∈ts,P.readableRec t=true/\t<P.types.size)->
   DataW.TrodAll enc P W 0 (fun _=>true) true ts vs ds ps->(∀x∈ps,x.block<W.heap.size)->DataW.TrodAll enc P W' 0 (fun b=>decide (b<W.heap.size)) true ts vs ds ps
 | [],[],[],ps,_,h,_=>h
 | t::ts,v::vs,d::ds,ps,hr,⟨p,q,h1,h2,h3⟩,hlt=>by
  subst h3
  exact ⟨p,q,Below.trod hl (hr t (by simp)).1 (hr t (by simp)).2 h1 hb fun x hx=>hlt x (by simp[hx]),v8 hl hb (fun t ht=>hr t (by simp[ht])) h2 fun x hx=>hlt x (by simp[hx]),rfl⟩
 | [],_::_,_,_,_,h,_=>h.elim
 | [],[],_::_,_,_,h,_=>h.elim
 | _::_,[],_,_,_,h,_=>h.elim
 | _::_,_::_,[],_,_,h,_=>h.elim
theorem R9 {H:Type} {enc:TypeId×Value->H} {f:Func} {s:ChangeSpec} {W W':World} {args:Array Value} {ds:List (DataW H)} {before:List MemPlace} (tb:TypeId)
  (hb:Tryz.prog.underlying tb=some .bool) (hr:f.resultTypes= #[tb]) (hp:(f.params.toList.all fun t=>Tryz.prog.readableRec t&&decide (t<Tryz.prog.types.size))=true) (hv:s.vars= [])
  (hW:DataW.Whole enc Tryz.prog f.params.toList s.vars false W args.toList ds [] before) (hres:(s.fn H (ds++ [])).results= [.lit (.bool true)]) (hargs:(s.fn H (ds++ [])).args=ds) (hvars:(s.fn H (ds++ [])).vars= [])
  (hbel:Below W.heap.size W W'):s.post enc Tryz.prog f false true false false W args (.bool true) W':=by
 obtain ⟨p,q,h1,h2,h3,h4,h5⟩:=hW
 have hW':DataW.Whole enc Tryz.prog f.params.toList s.vars false W args.toList ds [] before:=⟨p,q,h1,h2,h3,h4,h5⟩
 have hq:q= []:=by rw[hv] at h2;exact h2
 subst hq
 simp only[List.append_nil] at h3
 subst h3
 refine ⟨ds,[],before,[],before,[],hW',?_,?_,?_,hbel.frame _,fun h=>by cases h⟩
 ·rw[hres,hr]
  exact trodAll_mk1 (shut_bool hb true)
 ·rw[hargs]
  exact v8 laidOut hbel (fun t ht=>by have:=List.all_eq_true.1 hp t ht;simpa using this) h1 fun x hx=>by simpa using hW'.lt x hx
 ·rw[hvars,hv];rfl
namespace R
open Go.Shelf
def IE:Go.Shelf.Ren:=⟨fun | 146=>171 | 221=>225 | 268=>265 | 138=>266 | 143=>267 | 195=>302 | 197=>303 | 218=>304 | 219=>305 | 260=>330 | 217=>170 | 225=>331 | 224=>332 | 267=>333 | 266=>224 | 314=>349 | n=>n,fun | 9=>9 | 31=>205 | 3=>3 | 4=>4 | 0=>0 | 105=>309 | 21=>21 | 5=>5 | 46=>295 | 119=>354 | 139=>357 | 138=>356 | 146=>358 | 51=>344 | n=>n,fun | 1=>0 | 3=>4 | 4=>5 | n=>n⟩
theorem VR:Go.Proofs.LaysM.n146 Tryz.prog IE:= {
 mixed:=by kernel_rfl
 f138:=Tryz.func266.trans (congrArg some (by kernel_rfl))
 f143:=Tryz.func267.trans (congrArg some (by kernel_rfl))
 f146:=Tryz.func171.trans (congrArg some (by kernel_rfl))
 f195:=Tryz.func302.trans (congrArg some (by kernel_rfl))
 f197:=Tryz.func303.trans (congrArg some (by kernel_rfl))
 f217:=Tryz.func170.trans (congrArg some (by kernel_rfl))
 f218:=Tryz.func304.trans (congrArg some (by kernel_rfl))
 f219:=Tryz.func305.trans (congrArg some (by kernel_rfl))
 f221:=Tryz.func225.trans (congrArg some (by kernel_rfl))
 f224:=Tryz.func332.trans (congrArg some (by kernel_rfl))
 f225:=Tryz.func331.trans (congrArg some (by kernel_rfl))
 f260:=Tryz.func330.trans (congrArg some (by kernel_rfl))
 f266:=Tryz.func224.trans (congrArg some (by kernel_rfl))
 f267:=Tryz.func333.trans (congrArg some (by kernel_rfl))
 f268:=Tryz.func265.trans (congrArg some (by kernel_rfl))
 f314:=Tryz.func349.trans (congrArg some (by kernel_rfl))
 t0:=Tryz.underlying0
 a0:=Tryz.isAgg0
 z0:=Tryz.sizeOf0
 v0:=Tryz.zeroValue0
 t3:=Tryz.underlying3
 a3:=Tryz.isAgg3
 z3:=Tryz.sizeOf3
 v3:=Tryz.zeroValue3
 t4:=Tryz.underlying4
 a4:=Tryz.isAgg4
 z4:=Tryz.sizeOf4
 v4:=Tryz.zeroValue4
 t5:=Tryz.underlying5
 a5:=Tryz.isAgg5
 z5:=Tryz.sizeOf5
 v5:=Tryz.zeroValue5
 t9:=Tryz.underlying9
 a9:=Tryz.isAgg9
 z9:=Tryz.sizeOf9
 v9:=Tryz.zeroValue9
 t21:=Tryz.underlying21
 a21:=Tryz.isAgg21
 z21:=Tryz.sizeOf21
 v21:=Tryz.zeroValue21
 t31:=Tryz.underlying205
 a31:=Tryz.isAgg205
 z31:=Tryz.sizeOf205
 v31:=Tryz.zeroValue205
 t46:=Tryz.underlying295
 a46:=Tryz.isAgg295
 z46:=Tryz.sizeOf295
 v46:=Tryz.zeroValue295
 t51:=Tryz.underlying344
 a51:=Tryz.isAgg344
 z51:=Tryz.sizeOf344
 v51:=Tryz.zeroValue344
 t105:=Tryz.underlying309
 a105:=Tryz.isAgg309
 z105:=Tryz.sizeOf309
 v105:=Tryz.zeroValue309
 t119:=Tryz.underlying354
 a119:=Tryz.isAgg354
 z119:=Tryz.sizeOf354
 t138:=Tryz.underlying356
 a138:=Tryz.isAgg356
 z138:=Tryz.sizeOf356
 v138:=Tryz.zeroValue356
 t139:=Tryz.underlying357
 a139:=Tryz.isAgg357
 z139:=Tryz.sizeOf357
 v139:=Tryz.zeroValue357
 t146:=Tryz.underlying358
 a146:=Tryz.isAgg358
 z146:=Tryz.sizeOf358
 v146:=Tryz.zeroValue358
 g1:=by kernel_rfl
 g3:=by kernel_rfl
 g4:=by kernel_rfl
 i0:=by kernel_rfl
 i3:=by kernel_rfl
 i4:=by kernel_rfl
 i5:=by kernel_rfl
 i9:=by kernel_rfl
 i21:=by kernel_rfl
 i31:=by kernel_rfl
 i46:=by kernel_rfl
 i51:=by kernel_rfl
 i105:=by kernel_rfl
 i138:=by kernel_rfl
 i139:=by kernel_rfl
 i146:=by kernel_rfl
 m1:=by kernel_rfl
 s1_3:=fun w h=>Go.Proofs.cell_of_shapedOpen_int (zero:= #[.int .i64 0]) (t:=3) h (of_decide_eq_true (by kernel_rfl)) (by kernel_rfl) rfl (by kernel_rfl) (by kernel_rfl) Tryz.underlying3
 m3:=by kernel_rfl
 m4:=by kernel_rfl }
end R
open Go.ChangeShapes Go.WideShapes Go.ChangeAt Go.RowKit
namespace D
theorem op3:Opens Tryz.prog 3 ba:=NY Tryz.underlying3
theorem Zf:Opens Tryz.prog 91 (ah 3 ba):=gk Tryz.underlying91 (by kernel_rfl) (by decide) op3
theorem YD:Opens Tryz.prog 172 (aI ba (aI ba (aI ba ba))):=by
 refine dJ Tryz.underlying172 (by kernel_rfl) ?_
 refine cj (R:=ba) (S:=aI (ba) (aI (ba) (ba))) rfl (by kernel_rfl) op3 ?_
 refine cj (R:=ba) (S:=aI (ba) (ba)) rfl (by kernel_rfl) op3 ?_
 refine cj (R:=ba) (S:=ba) rfl (by kernel_rfl) op3 ?_
 exact gB rfl (by kernel_rfl) op3
theorem YE:Opens Tryz.prog 177 (ah 172 (aI ba (aI ba (aI ba ba)))):=gk Tryz.underlying177 (by kernel_rfl) (by decide) YD
theorem YF:Opens Tryz.prog 179 (aI (ah 3 ba) (ah 172 (aI ba (aI ba (aI ba ba))))):=by
 refine dJ Tryz.underlying179 (by kernel_rfl) ?_
 refine cj (R:=ah 3 ba) (S:=ah 172 (aI ba (aI ba (aI ba ba)))) rfl (by kernel_rfl) Zf ?_
 exact gB rfl (by kernel_rfl) YE
theorem Zy:Opens Tryz.prog 22 (ah 179 (aI (ah 3 ba) (ah 172 (aI ba (aI ba (aI ba ba)))))):=gk Tryz.underlying22 (by kernel_rfl) (by decide) YF
theorem Zz:Opens Tryz.prog 24 (aI ba (ah 179 (aI (ah 3 ba) (ah 172 (aI ba (aI ba (aI ba ba))))))):=by
 refine dJ Tryz.underlying24 (by kernel_rfl) ?_
 refine cj (R:=ba) (S:=ah 179 (aI (ah 3 ba) (ah 172 (aI ba (aI ba (aI ba ba)))))) rfl (by kernel_rfl) op3 ?_
 exact gB rfl (by kernel_rfl) Zy
theorem op4:Opens Tryz.prog 4 nZ:=K7 Tryz.underlying4
theorem YG:Opens Tryz.prog 181 (ah 4 nZ):=gk Tryz.underlying181 (by kernel_rfl) (by decide) op4
theorem YH:Opens Tryz.prog 182 (ah 91 (ah 3 ba)):=gk Tryz.underlying182 (by kernel_rfl) (by decide) Zf
theorem YI:Opens Tryz.prog 184 (aI ba (aI (ah 4 nZ) (ah 91 (ah 3 ba)))):=by
 refine dJ Tryz.underlying184 (by kernel_rfl) ?_
 refine cj (R:=ba) (S:=aI (ah 4 nZ) (ah 91 (ah 3 ba))) rfl (by kernel_rfl) op3 ?_
 refine cj (R:=ah 4 nZ) (S:=ah 91 (ah 3 ba)) rfl (by kernel_rfl) YG ?_
 exact gB rfl (by kernel_rfl) YH
theorem ZA:Opens Tryz.prog 25 (ah 184 (aI ba (aI (ah 4 nZ) (ah 91 (ah 3 ba))))):=gk Tryz.underlying25 (by kernel_rfl) (by decide) YI
theorem YJ:Opens Tryz.prog 163 (aI ba (aI ba (aI ba ba))):=by
 refine dJ Tryz.underlying163 (by kernel_rfl) ?_
 refine cj (R:=ba) (S:=aI (ba) (aI (ba) (ba))) rfl (by kernel_rfl) op3 ?_
 refine cj (R:=ba) (S:=aI (ba) (ba)) rfl (by kernel_rfl) op3 ?_
 refine cj (R:=ba) (S:=ba) rfl (by kernel_rfl) op3 ?_
 exact gB rfl (by kernel_rfl) op3
theorem ZB:Opens Tryz.prog 54 (ah 163 (aI ba (aI ba (aI ba ba)))):=gk Tryz.underlying54 (by kernel_rfl) (by decide) YJ
theorem ZC:Opens Tryz.prog 56 (ah 163 (aI ba (aI ba (aI ba ba)))):=by
 refine dJ Tryz.underlying56 (by kernel_rfl) ?_
 exact gB rfl (by kernel_rfl) ZB
theorem YK:Opens Tryz.prog 187 (aI ba (aI (ah 163 (aI ba (aI ba (aI ba ba)))) ba)):=by
 refine dJ Tryz.underlying187 (by kernel_rfl) ?_
 refine cj (R:=ba) (S:=aI (ah 163 (aI ba (aI ba (aI ba ba)))) (ba)) rfl (by kernel_rfl) op3 ?_
 refine cj (R:=ah 163 (aI ba (aI ba (aI ba ba)))) (S:=ba) rfl (by kernel_rfl) ZC ?_
 exact gB rfl (by kernel_rfl) op3
theorem ZD:Opens Tryz.prog 26 (ah 187 (aI ba (aI (ah 163 (aI ba (aI ba (aI ba ba)))) ba))):=gk Tryz.underlying26 (by kernel_rfl) (by decide) YK
theorem ZE:Opens Tryz.prog 28 (aI (ah 184 (aI ba (aI (ah 4 nZ) (ah 91 (ah 3 ba))))) (ah 187 (aI ba (aI (ah 163 (aI ba (aI ba (aI ba ba)))) ba)))):=by
 refine dJ Tryz.underlying28 (by kernel_rfl) ?_
 refine cj (R:=ah 184 (aI ba (aI (ah 4 nZ) (ah 91 (ah 3 ba))))) (S:=ah 187 (aI ba (aI (ah 163 (aI ba (aI ba (aI ba ba)))) ba))) rfl (by kernel_rfl) ZA ?_
 exact gB rfl (by kernel_rfl) ZD
theorem YL:Opens Tryz.prog 133 (aI ba (aI ba ba)):=by
 refine dJ Tryz.underlying133 (by kernel_rfl) ?_
 refine cj (R:=ba) (S:=aI (ba) (ba)) rfl (by kernel_rfl) op3 ?_
 refine cj (R:=ba) (S:=ba) rfl (by kernel_rfl) op3 ?_
 exact gB rfl (by kernel_rfl) op3
theorem ZF:Opens Tryz.prog 29 (ah 133 (aI ba (aI ba ba))):=gk Tryz.underlying29 (by kernel_rfl) (by decide) YL
theorem op9:Opens Tryz.prog 9 CP:=Gl Tryz.underlying9
theorem ZG:Opens Tryz.prog 31 (aI (aI ba (ah 179 (aI (ah 3 ba) (ah 172 (aI ba (aI ba (aI ba ba))))))) (aI (aI (ah 184 (aI ba (aI (ah 4 nZ) (ah 91 (ah 3 ba))))) (ah 187 (aI ba (aI (ah 163 (aI ba (aI ba (aI ba ba)))) ba)))) (aI (ah 133 (aI ba (aI ba ba))) CP))):=by
 refine dJ Tryz.underlying31 (by kernel_rfl) ?_
 refine cj (R:=aI ba (ah 179 (aI (ah 3 ba) (ah 172 (aI ba (aI ba (aI ba ba))))))) (S:=aI (aI (ah 184 (aI ba (aI (ah 4 nZ) (ah 91 (ah 3 ba))))) (ah 187 (aI ba (aI (ah 163 (aI ba (aI ba (aI ba ba)))) ba)))) (aI (ah 133 (aI ba (aI ba ba))) (CP))) rfl (by kernel_rfl) Zz ?_
 refine cj (R:=aI (ah 184 (aI ba (aI (ah 4 nZ) (ah 91 (ah 3 ba))))) (ah 187 (aI ba (aI (ah 163 (aI ba (aI ba (aI ba ba)))) ba)))) (S:=aI (ah 133 (aI ba (aI ba ba))) (CP)) rfl (by kernel_rfl) ZE ?_
 refine cj (R:=ah 133 (aI ba (aI ba ba))) (S:=CP) rfl (by kernel_rfl) ZF ?_
 exact gB rfl (by kernel_rfl) op9
theorem YM {W:World} {base:Nat} {z:Value} {H:Type} {enc:TypeId×Value->H} {d:DataW H} {p:List MemPlace} (hv:Value.okWide Tryz.prog W .any base 31 z) (h:DataW.Trod enc Tryz.prog W 0 (fun _=>true) true 31 z d p) :
  ∃(x:(Int×(List ((List Int)×(List (Int×Int×Int×Int)))))×((List (Int×(List Bool)×(List (List Int))))×(List (Int×((List (Int×Int×Int×Int)))×Int)))×(List (Int×Int×Int))×ByteArray) (v0:Value) (v1:Value) (v2:Value) (v3:Value),z= .agg #[.int .i64 x.1.1,v0,v1,v2,v3,.string x.2.2.2] /\Data.lim x/\(ah 179 (aI (ah 3 ba) (ah 172 (aI ba (aI ba (aI ba ba)))))).rd (hp W) [v0] x.1.2/\(ah 184 (aI ba (aI (ah 4 nZ) (ah 91 (ah 3 ba))))).rd (hp W) [v1] x.2.1.1/\(ah 187 (aI ba (aI (ah 163 (aI ba (aI ba (aI ba ba)))) ba))).rd (hp W) [v2] x.2.1.2/\(ah 133 (aI ba (aI ba ba))).rd (hp W) [v3] x.2.2.1:=by
 obtain ⟨fuel,hf⟩:=h
 obtain ⟨⟨cs⟩,rfl,-⟩:=okWide_struct Tryz.underlying31 hv
 obtain ⟨x,hx,hl⟩:=ZG.out enc W _ _ _ hf
 have hx:(aI (aI ba (ah 179 (aI (ah 3 ba) (ah 172 (aI ba (aI ba (aI ba ba))))))) (aI (aI (ah 184 (aI ba (aI (ah 4 nZ) (ah 91 (ah 3 ba))))) (ah 187 (aI ba (aI (ah 163 (aI ba (aI ba (aI ba ba)))) ba)))) (aI (ah 133 (aI ba (aI ba ba))) CP))).rd (hp W) cs x:=hx
 obtain ⟨_,_,rfl,⟨_,_,rfl,rfl,r0⟩,⟨_,_,rfl,⟨_,_,rfl,r1,r2⟩,⟨_,_,rfl,r3,rfl⟩⟩⟩:=hx
 obtain ⟨v0,rfl⟩:=yz r0 rfl
 obtain ⟨v1,rfl⟩:=yz r1 rfl
 obtain ⟨v2,rfl⟩:=yz r2 rfl
 obtain ⟨v3,rfl⟩:=yz r3 rfl
 exact ⟨x,v0,v1,v2,v3,rfl,hl,r0,r1,r2,r3⟩
end D
open D (Data)
theorem xe {H:Type} {enc:TypeId×Value->H} {a:Assume} {C:Checked} {os:Os} {f:FuncId} {fn:Func} {s:ChangeSpec} {conds:List PathCond} {apart fresh handsOn again:Bool} {X:World->Array Value->Prop}
  (hX: ∀(w w':World) (args:Array Value),w.heap=w'.heap->X w args->X w' args)
  (own:ownKnob C.prog.godebug=none) (started:os.Started) (noInit:C.prog.inits.idxOf? f=none) (hfn:C.prog.funcs[f]? =some fn)
  (witness: ∃(w:World) (tape:Tape) (i:Input),w.os=os/\(w.forCall tape i).Shaped C.prog/\i.vars= [] /\Input.okWide C.prog (w.forCall tape i) .any w.heap.size f i /\
   ((s.pre enc C.prog fn conds apart (w.forCall tape i).memory i.args/\X (w.forCall tape i).memory i.args)/\sizedMet enc C.prog fn (OpenSpec.ofChange s) apart (w.forCall tape i).memory i.args)/\a.holds C.prog (lone (Frame.enter C.prog f i.args .normal) [] (w.forCall tape i)))
  (contract: ∀(W:World) (base:Nat) (args:Array Value) (ds gs:List (DataW H)) (before:List MemPlace),
   (∀(j:Nat) t v,fn.params[j]? =some t->args[j]? =some v->Value.okWide C.prog W .any base t v)->
   DataW.Whole enc C.prog fn.params.toList s.vars apart W args.toList ds gs before->X W args->W.ShapedOpen C.prog->
   Calls C.prog f args W fun e W'=> ∃v,e= .returned v/\s.post enc C.prog fn apart fresh handsOn again W args v W') :
  ReturnsInHanded a C os f .any (fun w args=>(s.pre enc C.prog fn conds apart w args/\X w args)/\sizedMet enc C.prog fn (OpenSpec.ofChange s) apart w args) (s.post enc C.prog fn apart fresh handsOn again):=by
 refine returnsInHanded_of_calls own started noInit witness ?_
 intro w tape i _ hsh _ hok hpre _
 obtain ⟨_,_,_,fn',hfn',_,_,_,_,hval⟩:=hok
 have e:fn'=fn:=ae (hfn'.symm.trans hfn)
 subst e
 obtain ⟨⟨⟨ds,gs,before,hw,hc⟩,hx⟩,_⟩:=hpre
 have hw':=DataW.Whole.of_heap (w':=w.forCall tape i) (by rfl) hw
 refine (contract (w.forCall tape i) w.heap.size i.args ds gs before hval hw' (hX (w.forCall tape i).memory (w.forCall tape i) _ rfl hx) hsh).mono fun e W' ⟨v,he,hp⟩=>?_
 subst he
 exact ChangeSpec.post_blind hp
theorem Tq (u:TypeId) (h:Tryz.prog.typeName? 3 u=some "*errors.errorString"):u=362:=
 typeName_ptr_named (nm:= "errors.errorString") (by kernel_rfl) (by kernel_rfl) (by decide) u h
theorem uJ {W:World} (h:laidMetH Tryz.prog Rows.fnExactCheckpointEngineRow.laid W) (hsh:W.ShapedOpen Tryz.prog):D.LayW Tryz.prog W:=by
 rw[MakeChecks.laidMetH_plain _ _ _ (by kernel_rfl)] at h
 obtain ⟨a5,s5,hv5,-⟩:=laid_sentinel (g:=2) (ti:=243) (tp:=362) (te:=364) (ts:=9) (h.tail.tail.tail.tail) (by kernel_rfl) (by kernel_rfl) Tryz.underlying243 Tq Tryz.underlying362 Tryz.underlying364 rfl rfl Tryz.underlying9 (by kernel_rfl) (by kernel_rfl)
 obtain ⟨a6,s6,hv6,-⟩:=laid_sentinel (g:=1) (ti:=243) (tp:=362) (te:=364) (ts:=9) (h.tail.tail.tail.tail.tail) (by kernel_rfl) (by kernel_rfl) Tryz.underlying243 Tq Tryz.underlying362 Tryz.underlying364 rfl rfl Tryz.underlying9 (by kernel_rfl) (by kernel_rfl)
 have ht:Lib.TabIs Tryz.prog W "internal/strconv.uint64pow10" .u64 Lib.pow10Tab:=Lib.tabIs_of_head (g:=3) (by kernel_rfl) (by kernel_rfl) Tryz.underlying343 Tryz.underlying321 (by kernel_rfl) (by kernel_rfl) (h.tail.tail)
 exact ⟨⟨0,(R.VR.s1_3 W hsh).imp fun m hm=>⟨by kernel_rfl,hm⟩⟩,ht,⟨_,_,hv6⟩,⟨_,_,hv5⟩⟩
theorem ta (W:World) (hL:laidMetH Tryz.prog Rows.fnExactCheckpointEngineRow.laid W) (hsh:W.ShapedOpen Tryz.prog) (args:Array Value) (H:Type) (enc:TypeId×Value->H) (base:Nat) (ds gs:List (DataW H)) (before:List MemPlace)
  (hval: ∀(j:Nat) t v,Tryz.f5.params[j]? =some t->args[j]? =some v->Value.okWide Tryz.prog W .any base t v)
  (hW:DataW.Whole enc Tryz.prog Tryz.f5.params.toList Rows.fnExactCheckpointEngineSpec.vars false W args.toList ds gs before) :
  Calls Tryz.prog 5 args W fun e W'=> ∃v,e= .returned v/\Rows.fnExactCheckpointEngineSpec.post enc Tryz.prog Tryz.f5 false true false false W args v W':=by
 have hW':=hW
 obtain ⟨p,q,hA,hV,rfl,hfz,hnd⟩:=hW
 rw[Tryz.params5] at hA hval
 obtain ⟨z0,vs0,d0,ds0,p0,q0,hargs,rfl,rfl,h0,r0⟩:=trodAll_cons hA
 obtain ⟨rfl,rfl,rfl⟩:=trodAll_nil r0
 obtain rfl:args= #[z0]:=by cases args;simp_all
 obtain ⟨rfl,rfl⟩:=trodVars_none hV
 obtain ⟨x0,v0_0,v0_1,v0_2,v0_3,rfl,l0,r0_0,r0_1,r0_2,r0_3⟩:=D.YM (hval 0 _ _ rfl rfl) h0
 have hc:=D.nS x0 true (D.uI x0 l0) (I:=D.hp W) (w0:=W) v0_0 v0_1 v0_2 v0_3 r0_0 r0_1 r0_2 r0_3 (D.Lay.of (uJ hL hsh)) W [] (D.St.init W)
 refine hc.mono fun e W' ⟨v,he,hv,hs⟩=>?_
 subst he;subst hv
 exact ⟨_,rfl,R9 (f:=Tryz.f5) (s:=Rows.fnExactCheckpointEngineSpec) 4 Tryz.underlying4 rfl (by kernel_rfl) rfl hW' rfl rfl rfl (D.St.below hs)⟩
set_option maxRecDepth 100000 in
theorem qo (os:Os) (started:os.Started) (H:Type) (enc:TypeId×Value->H) :
  ReturnsInHanded {} Tryz.checked os 5 .any (fun w args=>(Rows.fnExactCheckpointEngineSpec.pre enc Tryz.prog Tryz.f5 [] false w args/\laidMetH Tryz.prog Rows.fnExactCheckpointEngineRow.laid w)/\sizedMet enc Tryz.prog Tryz.f5 (OpenSpec.ofChange Rows.fnExactCheckpointEngineSpec) false w args) (Rows.fnExactCheckpointEngineSpec.post enc Tryz.prog Tryz.f5 false true false false):=by
 refine xe (C:=Tryz.checked) (X:=fun w _=>laidMetH Tryz.prog Rows.fnExactCheckpointEngineRow.laid w) (fun _ _ _ hh h=>h.of_heap hh) own started (by kernel_rfl) Tryz.func5
  (ChangeSpec.witness_shaped (enc:=enc) (C:=Tryz.checked) (os:=os) (X:=fun w _=>laidMetH Tryz.prog Rows.fnExactCheckpointEngineRow.laid w) false (World.laidAll Tryz.prog os Rows.fnExactCheckpointEngineRow.laid) #[.agg #[.int .i64 0,.slice none 0 0,.slice none 0 0,.slice none 0 0,.slice none 0 0,.string ⟨#[]⟩]] 8 (World.laidAll_os _ _ _) (World.shaped_of_ZipB (by kernel_rfl) (by kernel_rfl)) (by kernel_rfl) (by kernel_rfl) (by kernel_rfl) (by rw[MakeChecks.laidMetH_plain _ _ _ (by kernel_rfl)];exact laidMet_laidAll _ (by kernel_rfl) (by kernel_rfl))) ?_
 intro W base args ds gs before hval hW hL hsh
 exact ta W hL hsh args H enc base ds gs before hval hW
theorem q7:Rows.FnExactCheckpointEngineSaid:=
 OpenClaim.holds_of_wide 5 Tryz.f5 rfl rfl rfl rfl rfl rfl rfl ⟨rfl,rfl,rfl,rfl,rfl⟩ rfl rfl rfl rfl rfl (by kernel_rfl) Tryz.func5 closedLCheckpointEngine
  (of_decide_eq_true (by kernel_rfl)) (by unfold Func.isWrapper;first | (rw[if_pos (by decide +kernel)];kernel_rfl) | (rw[if_neg (by decide +kernel)];exact ⟨rfl,rfl⟩))
  (fun os started H enc _=>qo os started H enc)
theorem cardLCheckpointEngine:Rows.FnExactCheckpointEngineCardSaid:=
 Claim7.holds_tied_plain_at .later [] [.data,.data,.data,.data,.sentinel,.sentinel,.pinned] true (true,"cff0790423b5df951cc606f0fc8fb4ad82e67faf05c9a9573691dcb8680664a3") true
  q7 (fun _ h=>by cases h) (by kernel_rfl) (fun _ h=>by cases h) fnExactCheckpointEngine_row_tie rfl ⟨rfl,rfl⟩ kf4CheckpointEngine rfl
  (fun f fn hf hfn=>by
   obtain rfl:f=5:=ae (kf1CheckpointEngine.symm.trans hf) |>.symm
   obtain rfl:fn=Tryz.f5:=(ae (Tryz.func5.symm.trans hfn)).symm
   exact ⟨kf2CheckpointEngine,fun j t ht=>by
    rw[Tryz.params5] at ht
    have hm:t ∈ [31]:=by simpa using Array.mem_of_getElem? ht
    have hall:([31].all fun u=> !Tryz.prog.wantsStandIn u)=true:=by kernel_rfl
    exact (show Tryz.prog.wantsStandIn t=false by simpa using List.all_eq_true.1 hall t hm)⟩)
  kf3CheckpointEngine
end Go.Proofs.YtilionjghdjbdaaGreatDoor
