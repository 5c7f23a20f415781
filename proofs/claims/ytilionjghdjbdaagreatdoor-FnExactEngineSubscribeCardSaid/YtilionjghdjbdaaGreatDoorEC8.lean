/- FnExactEngineSubscribe: for every input the law returns true and changes nothing that was there. Part 9 of 9. -/
import Derived.Test.YtilionjghdjbdaaGreatDoorEC7
import Derived.Test.YtilionjghdjbdaaGreatDoorEKEngineSubscribe
set_option linter.unusedVariables false
set_option linter.unusedSimpArgs false
set_option linter.unnecessarySimpa false
set_option linter.unusedSectionVars false
set_option maxRecDepth 1000000
namespace Go.Proofs.YtilionjghdjbdaaGreatDoor
set_option synthInstance.maxSize 20000
set_option synthInstance.maxHeartbeats 2000000
namespace D
open Go.RowKit
theorem V5 (r:LH) (hr:Data.sm r):qc r=some r:=by
 obtain ⟨h1,h2⟩:=aH hr.1
 obtain ⟨h3,h4⟩:=aH hr.2
 unfold qc
 have a:=bq (f:=jb r) (fun i=>((i:Int),r.1.take i,([] :List QT))) r.1.length (fun i hi=>by
  unfold jb
  simp only[bJ hi,if_true,aD hi,aa,dU,V3 _ (h2 _ (List.getElem_mem hi)),af (show i<9223372036854775807 by omega)]
  rw[aL (by simp;omega)]
  simp only[aa]
  rw[List.take_succ_eq_append_getElem hi]) (by
  unfold jb
  simp only[bm,Bool.false_eq_true,if_false]) (dC _ (by omega))
 have e:ax (jb r) aX (0,[],[])=_:=a
 rw[e]
 simp only[aP,List.take_length]
 have a:=bq (f:=jc r) (fun i=>((i:Int),r.1,r.2.take i)) r.2.length (fun i hi=>by
  unfold jc
  have c:gz r.2[i].2.1=some r.2[i].2.1:=by unfold gz;rw[aL (by have:=(h4 _ (List.getElem_mem hi)).2.1.1;simp;omega)];rfl
  simp only[bJ hi,if_true,aD hi,aa,dU,c,af (show i<9223372036854775807 by omega)]
  rw[aL (by simp;omega)]
  simp only[aa]
  rw[List.take_succ_eq_append_getElem hi]) (by
  unfold jc
  simp only[bm,Bool.false_eq_true,if_false]) (dC _ (by omega))
 have e:ax (jc r) aX (0,r.1,[])=_:=a
 rw[e]
 simp only[List.take_length]
theorem V6 (r:LH) (hr:Data.sm r):jo r=some r:=by
 obtain ⟨h1,h2⟩:=aH hr.1
 obtain ⟨h3,h4⟩:=aH hr.2
 unfold jo
 have a:=bq (f:=dQ r) (fun i=>((i:Int),r.1.take i,([] :List QT))) r.1.length (fun i hi=>by
  unfold dQ
  simp only[bJ hi,if_true,aD hi,aa,dU,V4 _ (h2 _ (List.getElem_mem hi)),af (show i<9223372036854775807 by omega)]
  rw[aL (by simp;omega)]
  simp only[aa]
  rw[List.take_succ_eq_append_getElem hi]) (by
  unfold dQ
  simp only[bm,Bool.false_eq_true,if_false]) (dC _ (by omega))
 have e:ax (dQ r) aX (0,[],[])=_:=a
 rw[e]
 simp only[aP,List.take_length]
 have a:=bq (f:=dR r) (fun i=>((i:Int),r.1,r.2.take i)) r.2.length (fun i hi=>by
  unfold dR
  have c:fK r.2[i].2.1=some r.2[i].2.1:=by unfold fK;rw[aL (by have:=(h4 _ (List.getElem_mem hi)).2.1.1;simp;omega)];rfl
  simp only[bJ hi,if_true,aD hi,aa,dU,c,af (show i<9223372036854775807 by omega)]
  rw[aL (by simp;omega)]
  simp only[aa]
  rw[List.take_succ_eq_append_getElem hi]) (by
  unfold dR
  simp only[bm,Bool.false_eq_true,if_false]) (dC _ (by omega))
 have e:ax (dR r) aX (0,r.1,[])=_:=a
 rw[e]
 simp only[List.take_length]
end D
set_option synthInstance.maxSize 20000
set_option synthInstance.maxHeartbeats 2000000
namespace D
open Go.RowKit
theorem V7 (h:Sn) (hh:Data.sm h):sR h=some h:=by
 obtain ⟨hl,hs⟩:=aH hh.2
 have e:=bq (f:=ky h) (fun i=>((i:Int),h.1,h.2.take i)) h.2.length (fun i hi=>by
  have e:pa (h.2[i].1,h.2[i].2)=some h.2[i]:=V1 h.2[i] (hs _ (List.getElem_mem hi))
  have hx: ∀z:GrT,cz 48 (h.2.take i) [z] =some (h.2.take i++ [z]):=fun z=>aL (by rw[aA];simp only[ak,aG];omega)
  unfold ky
  simp only[]
  rw[bJ hi,if_pos rfl,aD hi]
  simp only[aa]
  rw[e]
  simp only[aa]
  rw[hx,af (by omega),List.take_succ_eq_append_getElem hi];rfl) (by
  unfold ky
  simp only[]
  rw[bm];rfl) (dC _ (by omega))
 rw[List.take_length] at e
 have e:ax (ky h) aX (0,h.1,[])=_:=e
 unfold sR
 rw[aw e]
theorem V8 (h:Sn) (hh:Data.sm h):kA h=some h:=by
 obtain ⟨hl,hs⟩:=aH hh.2
 have e:=bq (f:=eR h) (fun i=>((i:Int),h.1,h.2.take i)) h.2.length (fun i hi=>by
  have e:kz (h.2[i].1,h.2[i].2)=some h.2[i]:=V2 h.2[i] (hs _ (List.getElem_mem hi))
  have hx: ∀z:GrT,cz 48 (h.2.take i) [z] =some (h.2.take i++ [z]):=fun z=>aL (by rw[aA];simp only[ak,aG];omega)
  unfold eR
  simp only[]
  rw[bJ hi,if_pos rfl,aD hi]
  simp only[aa]
  rw[e]
  simp only[aa]
  rw[hx,af (by omega),List.take_succ_eq_append_getElem hi];rfl) (by
  unfold eR
  simp only[]
  rw[bm];rfl) (dC _ (by omega))
 rw[List.take_length] at e
 have e:ax (eR h) aX (0,h.1,[])=_:=e
 unfold kA
 rw[aw e]
theorem V9 (e:EngT) (he:Data.sm e):qd e=some e:=by
 obtain ⟨s1,s2,s3,s4⟩:=he
 have h3:=(aH s3).1
 unfold qd
 simp only[dU,V7 e.1 s1,V5 e.2.1 s2,aa]
 rw[aL (by simp;omega)];rfl
theorem Wa (e:EngT) (he:Data.sm e):lN e=some e:=by
 obtain ⟨s1,s2,s3,s4⟩:=he
 have h3:=(aH s3).1
 unfold lN
 simp only[dU,V8 e.1 s1,V6 e.2.1 s2,aa]
 rw[aL (by simp;omega)];rfl
end D
namespace D
open Go.RowKit
section
variable {α:Type} [DecidableEq α]
end
end D
namespace D
open Go.RowKit
theorem Sq {l:List Kf} {d:Kf->Bool} {f:Kf->Option Bool} (hf: ∀x,f x=some (d x)) (hl:l.length<=1073741824) :
  (∃(i:Nat) (hi:i<l.length),d l[i] =true/\(∀j (hj:j<i),d (l[j]'(by omega))=false)/\aR l f=some (i:Int))\/((∀x,x∈l->d x=false)/\aR l f=some (-1)):=by
 unfold aR
 rcases OJ (f:=bh l f) l d (fun i=>(i:Int)) (by omega) (fun i hi=>by
   unfold bh
   rw[bJ hi,if_pos rfl,aD hi]
   simp only[aa,dU,hf,af (show i<9223372036854775807 by omega)]
   split <;> rfl) (by
   unfold bh
   rw[bm];rfl) with ⟨i,hi,h1,h2,e⟩ | ⟨h1,e⟩
 ·exact .inl ⟨i,hi,h1,h2,cd e⟩
 ·exact .inr ⟨h1,aw e⟩
end D
set_option synthInstance.maxSize 20000
set_option synthInstance.maxHeartbeats 2000000
namespace D
open Go.RowKit
theorem XR {α:Type} [Data α] {xs:List α} {y:α} (h:Data.sm xs) (hy:Data.sm y) (i:Nat) (hl:xs.length<=1048575):Data.sm (xs.take i++([y] ++xs.drop i)):=by
 obtain ⟨h1,h2⟩:=aH h
 refine ⟨?_,fun x hx=>?_⟩
 ·simp only[al,aA,aT,ak,aG];omega
 ·rcases aI hx with hx | hx
  ·exact h2 _ (List.mem_of_mem_take hx)
  ·rcases aI hx with hx | hx
   ·rw[ay hx];exact hy
   ·exact h2 _ (List.mem_of_mem_drop hx)
end D
set_option synthInstance.maxSize 20000
set_option synthInstance.maxHeartbeats 2000000
namespace D
open Go.RowKit
end D
set_option synthInstance.maxSize 20000
set_option synthInstance.maxHeartbeats 2000000
namespace D
open Go.RowKit
theorem PB (l:List Kf) (id:Int) (hl:l.length<=1048576): ∃k:Int,qe l id=some k/\aR l (fun a0=>jz a0 id)=some k:=by
 have hs:=OJ (f:=lS l id) l (fun u=>u.1==id) (fun i=>(i:Int)) (by omega) (fun i hi=>by
  unfold lS
  rw[bJ hi,if_pos rfl,aD hi]
  simp only[aa,af (show i<9223372036854775807 by omega)]
  split <;> rfl) (by
  unfold lS
  rw[bm];rfl)
 have hi:=Sq (l:=l) (d:=fun u=>u.1==id) (f:=fun a0=>jz a0 id) (fun u=>rfl) (by omega)
 unfold qe
 rcases hs with ⟨i,hi1,h1,h2,e1⟩ | ⟨h1,e1⟩
 ·rcases hi with ⟨j,hj1,k1,k2,e2⟩ | ⟨k1,e2⟩
  ·have:i=j:=by
    rcases Nat.lt_trichotomy i j with q | q | q
    ·have:=k2 i q;rw[h1] at this;cases this
    ·exact q
    ·have:=h2 j q;rw[k1] at this;cases this
   subst this
   exact ⟨_,cd e1,e2⟩
  ·have:=k1 _ (List.getElem_mem hi1)
   rw[h1] at this;cases this
 ·rcases hi with ⟨j,hj1,k1,k2,e2⟩ | ⟨k1,e2⟩
  ·have:=h1 _ (List.getElem_mem hj1)
   rw[k1] at this;cases this
  ·exact ⟨_,aw e1,e2⟩
theorem PC (e:EngT) (he:Data.sm e) (id query:Int): ∃y:EngT×Bool,gi e id query=some y/\dS e id query=some y/\Data.sm y.1:=by
 obtain ⟨b,es,ei,kb⟩:=Sp e he
 have h3:=(aH he.2.2.1).1
 obtain ⟨k,k1,k2⟩:=PB e.2.2.1 id h3
 obtain ⟨j,j1,j2,-⟩:=GU e.2.1 query (aH he.2.1.2).1
 unfold gi dS oO
 simp only[dU,V9 e he,Wa e he,es,ei,k1,k2,j1,j2,LQ,GZ,aa]
 cases b with
 | false=>exact ⟨(e,false),rfl,rfl,he⟩
 | true =>
  have h4:=(kb rfl).sub
  simp only[if_true]
  by_cases c1:decide (1<=id/\id<=99)=true
  ·by_cases c2:decide (k≥0)=true
   ·simp only[if_pos c1,if_pos c2];exact ⟨(e,false),rfl,rfl,he⟩
   ·by_cases c3:decide (j<0)=true
    ·simp only[if_pos c1,if_neg c2,if_pos c3];exact ⟨(e,false),rfl,rfl,he⟩
    ·by_cases c4:((e.2.2.1.length:Int)==4)=true
     ·simp only[if_pos c1,if_neg c2,if_neg c3,if_pos c4];exact ⟨(e,false),rfl,rfl,he⟩
     ·simp only[if_pos c1,if_neg c2,if_neg c3,if_neg c4]
      have lp: ∃i:Nat,i<=e.2.2.1.length/\ax (eA e id) aX 0=some (.brk (i:Int)):=by
       obtain ⟨o,eo,i,hi,rfl⟩:=cT (f:=eA e id) (fun i s=>s=(i:Int)) (fun o=> ∃i:Nat,i<=e.2.2.1.length/\o= .brk (i:Int)) e.2.2.1.length (fun i s hi hI=>by
        subst hI
        unfold eA
        by_cases h1:i<e.2.2.1.length
        ·simp only[bJ h1,if_true,aD h1,aa,af (show i<9223372036854775807 by omega)]
         by_cases h2:e.2.2.1[i].1<id
         ·exact .inl ⟨h1,_,by simp[h2],rfl⟩
         ·exact .inr ⟨.brk (i:Int),by simp[h2],(fun s' e=>by cases e),i,hi,rfl⟩
        ·obtain rfl:i=e.2.2.1.length:=by omega
         exact .inr ⟨.brk (e.2.2.1.length:Int),by simp only[bm,Bool.false_eq_true,if_false],(fun s' e=>by cases e),_,hi,rfl⟩) (s:=0) rfl (dC _ (by omega))
       exact ⟨i,hi,eo⟩
      obtain ⟨i,hi,l1⟩:=lp
      have l2:ax (kP id e) aX 0=some (.brk (i:Int)):=by
       rw[<-l1];congr 1
      simp only[l1,l2,aP]
      have hy:Data.sm ((id,query,(0:Int)):Kf):=⟨trivial,trivial,trivial⟩
      have hs:=XR (y:=((id,query,(0:Int)):Kf)) he.2.2.1 hy i (by omega)
      have q1:(chk (0<=(i:Int)/\(i:Int)<=(e.2.2.1.length:Int)))=some ():=if_pos (by omega)
      have a1:cz 24 ([] :List Kf) (e.2.2.1.take i)=some (e.2.2.1.take i):=by rw[aL (by simp only[aG,aA];omega)];rfl
      have a2:cz 24 (e.2.2.1.take i) [((id,query,(0:Int)):Kf)] =some (e.2.2.1.take i++ [(id,query,0)]):=aL (by simp only[aA,ak,aG];omega)
      have a3:cz 24 (e.2.2.1.take i++ [((id,query,(0:Int)):Kf)]) (e.2.2.1.drop i)=some (e.2.2.1.take i++([(id,query,0)] ++e.2.2.1.drop i)):=by
       rw[aL (by simp only[al,aA,aT,ak,aG];omega),ai]
      have a5:bG e.2.2.1 (i:Int) [((id,query,(0:Int)):Kf)] =some (e.2.2.1.take i++([(id,query,0)] ++e.2.2.1.drop i),[(id,query,0)]):=by
       unfold bG R.Vt
       have:(chk (0<=(i:Int)/\(i:Int)<=(e.2.2.1.length:Int)/\ [((id,query,(0:Int)):Kf)].length=1/\1<=24/\(e.2.2.1.length+1)*24<=140737488355328))=some ():=if_pos ⟨by omega,by omega,rfl,by omega,by omega⟩
       rw[this];rfl
      simp only[q1,aa,Int.toNat_natCast,a1,a2,a3,a5]
      exact ⟨_,rfl,rfl,he.1,he.2.1,hs,he.2.2.2⟩
  ·simp only[if_neg c1];exact ⟨(e,false),rfl,rfl,he⟩
end D
set_option synthInstance.maxSize 20000
set_option synthInstance.maxHeartbeats 2000000
namespace D
open Go.RowKit
theorem wo (x:EngT) (v u:Int) (hx:Data.lim x) (_:Data.lim v) (_:Data.lim u):cV x v u=some true:=by
 unfold cV
 simp only[dU]
 obtain ⟨r1,e1,k1⟩:=Lm x 1048576 hx (by decide) (by decide)
 rw[e1];simp only[aa]
 rcases k1 with k1 | ⟨k1,j1,s1⟩
 ·rw[if_pos (decide_eq_true k1)]
 rw[if_neg (by simpa using k1)]
 obtain ⟨r,es,ei,sr⟩:=PC x s1 v u
 have b1:=GG x s1
 have b2:=GG r.1 sr
 have em1:eY x 1=_:=GH x s1 (k:=1) (by omega)
 have em2:eY r.1 1=_:=GH r.1 sr (k:=1) (by omega)
 have eh2:gA ((r.1.1.1,(sZ r.1 1).1.2),(sZ r.1 1).2.1,(sZ r.1 1).2.2.1,r.1.2.2.2) 1=_:=OI r.1 sr (k:=1) (by omega)
 simp only[Lp x s1,es,ei,CR r.1 r.1 sr sr,CR x x s1 s1,aa,dU,em1,em2,eh2,decide_true,if_true,Lt,bne_self_eq_false,Bool.false_eq_true,if_false]
end D
open Go.ChangeShapes Go.WideShapes Go.ChangeAt Go.RowKit
theorem own:ownKnob Tryz.prog.godebug=none:=by kernel_rfl
theorem laidOut:laidOutB Tryz.prog=true:=by kernel_rfl
theorem wq {H:Type} {enc:TypeId×Value->H} {P:Program} (hl:laidOutB P=true) {W W':World} (hb:Below W.heap.size W W') :
  ∀ {ts:List TypeId} {vs:List Value} {ds:List (DataW H)} {ps:List MemPlace},(∀t∈ts,P.readableRec t=true/\t<P.types.size)->
   DataW.TrodAll enc P W 0 (fun _=>true) true ts vs ds ps->(∀x∈ps,x.block<W.heap.size)->DataW.TrodAll enc P W' 0 (fun b=>decide (b<W.heap.size)) true ts vs ds ps
 | [],[],[],ps,_,h,_=>h
 | t::ts,v::vs,d::ds,ps,hr,⟨p,q,h1,h2,h3⟩,hlt=>by
  subst h3
  exact ⟨p,q,Below.trod hl (hr t (by simp)).1 (hr t (by simp)).2 h1 hb fun x hx=>hlt x (by simp[hx]),wq hl hb (fun t ht=>hr t (by simp[ht])) h2 fun x hx=>hlt x (by simp[hx]),rfl⟩
 | [],_::_,_,_,_,h,_=>h.elim
 | [],[],_::_,_,_,h,_=>h.elim
 | _::_,[],_,_,_,h,_=>h.elim
 | _::_,_::_,[],_,_,h,_=>h.elim
theorem Sr {H:Type} {enc:TypeId×Value->H} {f:Func} {s:ChangeSpec} {W W':World} {args:Array Value} {ds:List (DataW H)} {before:List MemPlace} (tb:TypeId)
  (hb:Tryz.prog.underlying tb=some .bool) (hr:f.resultTypes= #[tb]) (hp:(f.params.toList.all fun t=>Tryz.prog.readableRec t&&decide (t<Tryz.prog.types.size))=true) (hv:s.vars= [])
  (hW:DataW.Whole enc Tryz.prog f.params.toList s.vars false W args.toList ds [] before) (hres:(s.fn H (ds++ [])).results= [.lit (.bool true)]) (hargs:(s.fn H (ds++ [])).args=ds) (hvars:(s.fn H (ds++ [])).vars= [])
  (hbel:Below W.heap.size W W'):s.post enc Tryz.prog f false true false false W args (.bool true) W':=by
 obtain ⟨p,q,h1,h2,h3,h4,h5⟩:=hW
 have hW':DataW.Whole enc Tryz.prog f.params.toList s.vars false W args.toList ds [] before:=⟨p,q,h1,h2,h3,h4,h5⟩
 have hq:q= []:=by rw[hv] at h2;exact h2
 subst hq
 simp only[List.append_nil] at h3
 subst h3
 refine ⟨ds,[],before,[],before,[],hW',?_,?_,?_,hbel.frame _,fun h=>by cases h⟩
 ·rw[hres,hr]
  exact trodAll_mk1 (shut_bool hb true)
 ·rw[hargs]
  exact wq laidOut hbel (fun t ht=>by have:=List.all_eq_true.1 hp t ht;simpa using this) h1 fun x hx=>by simpa using hW'.lt x hx
 ·rw[hvars,hv];rfl
namespace R
open Go.Shelf
def IP:Go.Shelf.Ren:=⟨fun | 146=>171 | 221=>225 | 268=>265 | 138=>266 | 143=>267 | 195=>302 | 197=>303 | 218=>304 | 219=>305 | 260=>330 | 217=>170 | 225=>331 | 224=>332 | 267=>333 | 266=>224 | 314=>349 | n=>n,fun | 9=>9 | 31=>205 | 3=>3 | 4=>4 | 0=>0 | 105=>309 | 21=>21 | 5=>5 | 46=>295 | 119=>354 | 139=>357 | 138=>356 | 146=>358 | 51=>344 | n=>n,fun | 1=>0 | 3=>4 | 4=>5 | n=>n⟩
theorem Wb:Go.Proofs.LaysM.n146 Tryz.prog IP:= {
 mixed:=by kernel_rfl
 f138:=Tryz.func266.trans (congrArg some (by kernel_rfl))
 f143:=Tryz.func267.trans (congrArg some (by kernel_rfl))
 f146:=Tryz.func171.trans (congrArg some (by kernel_rfl))
 f195:=Tryz.func302.trans (congrArg some (by kernel_rfl))
 f197:=Tryz.func303.trans (congrArg some (by kernel_rfl))
 f217:=Tryz.func170.trans (congrArg some (by kernel_rfl))
 f218:=Tryz.func304.trans (congrArg some (by kernel_rfl))
 f219:=Tryz.func305.trans (congrArg some (by kernel_rfl))
 f221:=Tryz.func225.trans (congrArg some (by kernel_rfl))
 f224:=Tryz.func332.trans (congrArg some (by kernel_rfl))
 f225:=Tryz.func331.trans (congrArg some (by kernel_rfl))
 f260:=Tryz.func330.trans (congrArg some (by kernel_rfl))
 f266:=Tryz.func224.trans (congrArg some (by kernel_rfl))
 f267:=Tryz.func333.trans (congrArg some (by kernel_rfl))
 f268:=Tryz.func265.trans (congrArg some (by kernel_rfl))
 f314:=Tryz.func349.trans (congrArg some (by kernel_rfl))
 t0:=Tryz.underlying0
 a0:=Tryz.isAgg0
 z0:=Tryz.sizeOf0
 v0:=Tryz.zeroValue0
 t3:=Tryz.underlying3
 a3:=Tryz.isAgg3
 z3:=Tryz.sizeOf3
 v3:=Tryz.zeroValue3
 t4:=Tryz.underlying4
 a4:=Tryz.isAgg4
 z4:=Tryz.sizeOf4
 v4:=Tryz.zeroValue4
 t5:=Tryz.underlying5
 a5:=Tryz.isAgg5
 z5:=Tryz.sizeOf5
 v5:=Tryz.zeroValue5
 t9:=Tryz.underlying9
 a9:=Tryz.isAgg9
 z9:=Tryz.sizeOf9
 v9:=Tryz.zeroValue9
 t21:=Tryz.underlying21
 a21:=Tryz.isAgg21
 z21:=Tryz.sizeOf21
 v21:=Tryz.zeroValue21
 t31:=Tryz.underlying205
 a31:=Tryz.isAgg205
 z31:=Tryz.sizeOf205
 v31:=Tryz.zeroValue205
 t46:=Tryz.underlying295
 a46:=Tryz.isAgg295
 z46:=Tryz.sizeOf295
 v46:=Tryz.zeroValue295
 t51:=Tryz.underlying344
 a51:=Tryz.isAgg344
 z51:=Tryz.sizeOf344
 v51:=Tryz.zeroValue344
 t105:=Tryz.underlying309
 a105:=Tryz.isAgg309
 z105:=Tryz.sizeOf309
 v105:=Tryz.zeroValue309
 t119:=Tryz.underlying354
 a119:=Tryz.isAgg354
 z119:=Tryz.sizeOf354
 t138:=Tryz.underlying356
 a138:=Tryz.isAgg356
 z138:=Tryz.sizeOf356
 v138:=Tryz.zeroValue356
 t139:=Tryz.underlying357
 a139:=Tryz.isAgg357
 z139:=Tryz.sizeOf357
 v139:=Tryz.zeroValue357
 t146:=Tryz.underlying358
 a146:=Tryz.isAgg358
 z146:=Tryz.sizeOf358
 v146:=Tryz.zeroValue358
 g1:=by kernel_rfl
 g3:=by kernel_rfl
 g4:=by kernel_rfl
 i0:=by kernel_rfl
 i3:=by kernel_rfl
 i4:=by kernel_rfl
 i5:=by kernel_rfl
 i9:=by kernel_rfl
 i21:=by kernel_rfl
 i31:=by kernel_rfl
 i46:=by kernel_rfl
 i51:=by kernel_rfl
 i105:=by kernel_rfl
 i138:=by kernel_rfl
 i139:=by kernel_rfl
 i146:=by kernel_rfl
 m1:=by kernel_rfl
 s1_3:=fun w h=>Go.Proofs.cell_of_shapedOpen_int (zero:= #[.int .i64 0]) (t:=3) h (of_decide_eq_true (by kernel_rfl)) (by kernel_rfl) rfl (by kernel_rfl) (by kernel_rfl) Tryz.underlying3
 m3:=by kernel_rfl
 m4:=by kernel_rfl }
end R
open Go.ChangeShapes Go.WideShapes Go.ChangeAt Go.RowKit
namespace D
theorem op3:Opens Tryz.prog 3 bc:=Oe Tryz.underlying3
theorem ZE:Opens Tryz.prog 91 (ah 3 bc):=gk Tryz.underlying91 (by kernel_rfl) (by decide) op3
theorem Y1:Opens Tryz.prog 172 (aJ bc (aJ bc (aJ bc bc))):=by
 refine dJ Tryz.underlying172 (by kernel_rfl) ?_
 refine cn (R:=bc) (S:=aJ (bc) (aJ (bc) (bc))) rfl (by kernel_rfl) op3 ?_
 refine cn (R:=bc) (S:=aJ (bc) (bc)) rfl (by kernel_rfl) op3 ?_
 refine cn (R:=bc) (S:=bc) rfl (by kernel_rfl) op3 ?_
 exact gC rfl (by kernel_rfl) op3
theorem Y2:Opens Tryz.prog 177 (ah 172 (aJ bc (aJ bc (aJ bc bc)))):=gk Tryz.underlying177 (by kernel_rfl) (by decide) Y1
theorem Y3:Opens Tryz.prog 179 (aJ (ah 3 bc) (ah 172 (aJ bc (aJ bc (aJ bc bc))))):=by
 refine dJ Tryz.underlying179 (by kernel_rfl) ?_
 refine cn (R:=ah 3 bc) (S:=ah 172 (aJ bc (aJ bc (aJ bc bc)))) rfl (by kernel_rfl) ZE ?_
 exact gC rfl (by kernel_rfl) Y2
theorem ZX:Opens Tryz.prog 22 (ah 179 (aJ (ah 3 bc) (ah 172 (aJ bc (aJ bc (aJ bc bc)))))):=gk Tryz.underlying22 (by kernel_rfl) (by decide) Y3
theorem ZY:Opens Tryz.prog 24 (aJ bc (ah 179 (aJ (ah 3 bc) (ah 172 (aJ bc (aJ bc (aJ bc bc))))))):=by
 refine dJ Tryz.underlying24 (by kernel_rfl) ?_
 refine cn (R:=bc) (S:=ah 179 (aJ (ah 3 bc) (ah 172 (aJ bc (aJ bc (aJ bc bc)))))) rfl (by kernel_rfl) op3 ?_
 exact gC rfl (by kernel_rfl) ZX
theorem op4:Opens Tryz.prog 4 nV:=Lj Tryz.underlying4
theorem Y4:Opens Tryz.prog 181 (ah 4 nV):=gk Tryz.underlying181 (by kernel_rfl) (by decide) op4
theorem Y5:Opens Tryz.prog 182 (ah 91 (ah 3 bc)):=gk Tryz.underlying182 (by kernel_rfl) (by decide) ZE
theorem Y6:Opens Tryz.prog 184 (aJ bc (aJ (ah 4 nV) (ah 91 (ah 3 bc)))):=by
 refine dJ Tryz.underlying184 (by kernel_rfl) ?_
 refine cn (R:=bc) (S:=aJ (ah 4 nV) (ah 91 (ah 3 bc))) rfl (by kernel_rfl) op3 ?_
 refine cn (R:=ah 4 nV) (S:=ah 91 (ah 3 bc)) rfl (by kernel_rfl) Y4 ?_
 exact gC rfl (by kernel_rfl) Y5
theorem ZZ:Opens Tryz.prog 25 (ah 184 (aJ bc (aJ (ah 4 nV) (ah 91 (ah 3 bc))))):=gk Tryz.underlying25 (by kernel_rfl) (by decide) Y6
theorem Y7:Opens Tryz.prog 163 (aJ bc (aJ bc (aJ bc bc))):=by
 refine dJ Tryz.underlying163 (by kernel_rfl) ?_
 refine cn (R:=bc) (S:=aJ (bc) (aJ (bc) (bc))) rfl (by kernel_rfl) op3 ?_
 refine cn (R:=bc) (S:=aJ (bc) (bc)) rfl (by kernel_rfl) op3 ?_
 refine cn (R:=bc) (S:=bc) rfl (by kernel_rfl) op3 ?_
 exact gC rfl (by kernel_rfl) op3
theorem Z0:Opens Tryz.prog 54 (ah 163 (aJ bc (aJ bc (aJ bc bc)))):=gk Tryz.underlying54 (by kernel_rfl) (by decide) Y7
theorem Z1:Opens Tryz.prog 56 (ah 163 (aJ bc (aJ bc (aJ bc bc)))):=by
 refine dJ Tryz.underlying56 (by kernel_rfl) ?_
 exact gC rfl (by kernel_rfl) Z0
theorem Y8:Opens Tryz.prog 187 (aJ bc (aJ (ah 163 (aJ bc (aJ bc (aJ bc bc)))) bc)):=by
 refine dJ Tryz.underlying187 (by kernel_rfl) ?_
 refine cn (R:=bc) (S:=aJ (ah 163 (aJ bc (aJ bc (aJ bc bc)))) (bc)) rfl (by kernel_rfl) op3 ?_
 refine cn (R:=ah 163 (aJ bc (aJ bc (aJ bc bc)))) (S:=bc) rfl (by kernel_rfl) Z1 ?_
 exact gC rfl (by kernel_rfl) op3
theorem Z2:Opens Tryz.prog 26 (ah 187 (aJ bc (aJ (ah 163 (aJ bc (aJ bc (aJ bc bc)))) bc))):=gk Tryz.underlying26 (by kernel_rfl) (by decide) Y8
theorem Z3:Opens Tryz.prog 28 (aJ (ah 184 (aJ bc (aJ (ah 4 nV) (ah 91 (ah 3 bc))))) (ah 187 (aJ bc (aJ (ah 163 (aJ bc (aJ bc (aJ bc bc)))) bc)))):=by
 refine dJ Tryz.underlying28 (by kernel_rfl) ?_
 refine cn (R:=ah 184 (aJ bc (aJ (ah 4 nV) (ah 91 (ah 3 bc))))) (S:=ah 187 (aJ bc (aJ (ah 163 (aJ bc (aJ bc (aJ bc bc)))) bc))) rfl (by kernel_rfl) ZZ ?_
 exact gC rfl (by kernel_rfl) Z2
theorem Y9:Opens Tryz.prog 133 (aJ bc (aJ bc bc)):=by
 refine dJ Tryz.underlying133 (by kernel_rfl) ?_
 refine cn (R:=bc) (S:=aJ (bc) (bc)) rfl (by kernel_rfl) op3 ?_
 refine cn (R:=bc) (S:=bc) rfl (by kernel_rfl) op3 ?_
 exact gC rfl (by kernel_rfl) op3
theorem Z4:Opens Tryz.prog 29 (ah 133 (aJ bc (aJ bc bc))):=gk Tryz.underlying29 (by kernel_rfl) (by decide) Y9
theorem op9:Opens Tryz.prog 9 CY:=Gx Tryz.underlying9
theorem Z5:Opens Tryz.prog 31 (aJ (aJ bc (ah 179 (aJ (ah 3 bc) (ah 172 (aJ bc (aJ bc (aJ bc bc))))))) (aJ (aJ (ah 184 (aJ bc (aJ (ah 4 nV) (ah 91 (ah 3 bc))))) (ah 187 (aJ bc (aJ (ah 163 (aJ bc (aJ bc (aJ bc bc)))) bc)))) (aJ (ah 133 (aJ bc (aJ bc bc))) CY))):=by
 refine dJ Tryz.underlying31 (by kernel_rfl) ?_
 refine cn (R:=aJ bc (ah 179 (aJ (ah 3 bc) (ah 172 (aJ bc (aJ bc (aJ bc bc))))))) (S:=aJ (aJ (ah 184 (aJ bc (aJ (ah 4 nV) (ah 91 (ah 3 bc))))) (ah 187 (aJ bc (aJ (ah 163 (aJ bc (aJ bc (aJ bc bc)))) bc)))) (aJ (ah 133 (aJ bc (aJ bc bc))) (CY))) rfl (by kernel_rfl) ZY ?_
 refine cn (R:=aJ (ah 184 (aJ bc (aJ (ah 4 nV) (ah 91 (ah 3 bc))))) (ah 187 (aJ bc (aJ (ah 163 (aJ bc (aJ bc (aJ bc bc)))) bc)))) (S:=aJ (ah 133 (aJ bc (aJ bc bc))) (CY)) rfl (by kernel_rfl) Z3 ?_
 refine cn (R:=ah 133 (aJ bc (aJ bc bc))) (S:=CY) rfl (by kernel_rfl) Z4 ?_
 exact gC rfl (by kernel_rfl) op9
theorem Za {W:World} {base:Nat} {z:Value} {H:Type} {enc:TypeId×Value->H} {d:DataW H} {p:List MemPlace} (hv:Value.okWide Tryz.prog W .any base 31 z) (h:DataW.Trod enc Tryz.prog W 0 (fun _=>true) true 31 z d p) :
  ∃(x:(Int×(List ((List Int)×(List (Int×Int×Int×Int)))))×((List (Int×(List Bool)×(List (List Int))))×(List (Int×((List (Int×Int×Int×Int)))×Int)))×(List (Int×Int×Int))×ByteArray) (v0:Value) (v1:Value) (v2:Value) (v3:Value),z= .agg #[.int .i64 x.1.1,v0,v1,v2,v3,.string x.2.2.2] /\Data.lim x/\(ah 179 (aJ (ah 3 bc) (ah 172 (aJ bc (aJ bc (aJ bc bc)))))).rd (hp W) [v0] x.1.2/\(ah 184 (aJ bc (aJ (ah 4 nV) (ah 91 (ah 3 bc))))).rd (hp W) [v1] x.2.1.1/\(ah 187 (aJ bc (aJ (ah 163 (aJ bc (aJ bc (aJ bc bc)))) bc))).rd (hp W) [v2] x.2.1.2/\(ah 133 (aJ bc (aJ bc bc))).rd (hp W) [v3] x.2.2.1:=by
 obtain ⟨fuel,hf⟩:=h
 obtain ⟨⟨cs⟩,rfl,-⟩:=okWide_struct Tryz.underlying31 hv
 obtain ⟨x,hx,hl⟩:=Z5.out enc W _ _ _ hf
 have hx:(aJ (aJ bc (ah 179 (aJ (ah 3 bc) (ah 172 (aJ bc (aJ bc (aJ bc bc))))))) (aJ (aJ (ah 184 (aJ bc (aJ (ah 4 nV) (ah 91 (ah 3 bc))))) (ah 187 (aJ bc (aJ (ah 163 (aJ bc (aJ bc (aJ bc bc)))) bc)))) (aJ (ah 133 (aJ bc (aJ bc bc))) CY))).rd (hp W) cs x:=hx
 obtain ⟨_,_,rfl,⟨_,_,rfl,rfl,r0⟩,⟨_,_,rfl,⟨_,_,rfl,r1,r2⟩,⟨_,_,rfl,r3,rfl⟩⟩⟩:=hx
 obtain ⟨v0,rfl⟩:=yM r0 rfl
 obtain ⟨v1,rfl⟩:=yM r1 rfl
 obtain ⟨v2,rfl⟩:=yM r2 rfl
 obtain ⟨v3,rfl⟩:=yM r3 rfl
 exact ⟨x,v0,v1,v2,v3,rfl,hl,r0,r1,r2,r3⟩
theorem ZF {W:World} {base:Nat} {z:Value} {H:Type} {enc:TypeId×Value->H} {d:DataW H} {p:List MemPlace} (hv:Value.okWide Tryz.prog W .any base 3 z) (h:DataW.Trod enc Tryz.prog W 0 (fun _=>true) true 3 z d p) :
  ∃(x:Int),z= .int .i64 x/\Data.lim x:=by
 obtain ⟨fuel,hf⟩:=h
 obtain ⟨n,rfl⟩:=okWide_int Tryz.underlying3 hv
 obtain ⟨x,hx,hl⟩:=op3.out enc W _ _ _ hf
 exact ⟨x,(List.cons.inj (show [_] = [_] from hx)).1,hl⟩
end D
open D (Data)
theorem xq {H:Type} {enc:TypeId×Value->H} {a:Assume} {C:Checked} {os:Os} {f:FuncId} {fn:Func} {s:ChangeSpec} {conds:List PathCond} {apart fresh handsOn again:Bool} {X:World->Array Value->Prop}
  (hX: ∀(w w':World) (args:Array Value),w.heap=w'.heap->X w args->X w' args)
  (own:ownKnob C.prog.godebug=none) (started:os.Started) (noInit:C.prog.inits.idxOf? f=none) (hfn:C.prog.funcs[f]? =some fn)
  (witness: ∃(w:World) (tape:Tape) (i:Input),w.os=os/\(w.forCall tape i).Shaped C.prog/\i.vars= [] /\Input.okWide C.prog (w.forCall tape i) .any w.heap.size f i /\
   ((s.pre enc C.prog fn conds apart (w.forCall tape i).memory i.args/\X (w.forCall tape i).memory i.args)/\sizedMet enc C.prog fn (OpenSpec.ofChange s) apart (w.forCall tape i).memory i.args)/\a.holds C.prog (lone (Frame.enter C.prog f i.args .normal) [] (w.forCall tape i)))
  (contract: ∀(W:World) (base:Nat) (args:Array Value) (ds gs:List (DataW H)) (before:List MemPlace),
   (∀(j:Nat) t v,fn.params[j]? =some t->args[j]? =some v->Value.okWide C.prog W .any base t v)->
   DataW.Whole enc C.prog fn.params.toList s.vars apart W args.toList ds gs before->X W args->W.ShapedOpen C.prog->
   Calls C.prog f args W fun e W'=> ∃v,e= .returned v/\s.post enc C.prog fn apart fresh handsOn again W args v W') :
  ReturnsInHanded a C os f .any (fun w args=>(s.pre enc C.prog fn conds apart w args/\X w args)/\sizedMet enc C.prog fn (OpenSpec.ofChange s) apart w args) (s.post enc C.prog fn apart fresh handsOn again):=by
 refine returnsInHanded_of_calls own started noInit witness ?_
 intro w tape i _ hsh _ hok hpre _
 obtain ⟨_,_,_,fn',hfn',_,_,_,_,hval⟩:=hok
 have e:fn'=fn:=ae (hfn'.symm.trans hfn)
 subst e
 obtain ⟨⟨⟨ds,gs,before,hw,hc⟩,hx⟩,_⟩:=hpre
 have hw':=DataW.Whole.of_heap (w':=w.forCall tape i) (by rfl) hw
 refine (contract (w.forCall tape i) w.heap.size i.args ds gs before hval hw' (hX (w.forCall tape i).memory (w.forCall tape i) _ rfl hx) hsh).mono fun e W' ⟨v,he,hp⟩=>?_
 subst he
 exact ChangeSpec.post_blind hp
theorem TL (u:TypeId) (h:Tryz.prog.typeName? 3 u=some "*errors.errorString"):u=362:=
 typeName_ptr_named (nm:= "errors.errorString") (by kernel_rfl) (by kernel_rfl) (by decide) u h
theorem wt {W:World} (h:laidMetH Tryz.prog Rows.fnExactEngineSubscribeRow.laid W) (hsh:W.ShapedOpen Tryz.prog):D.LayW Tryz.prog W:=by
 rw[MakeChecks.laidMetH_plain _ _ _ (by kernel_rfl)] at h
 obtain ⟨a5,s5,hv5,-⟩:=laid_sentinel (g:=2) (ti:=243) (tp:=362) (te:=364) (ts:=9) (h.tail.tail.tail.tail) (by kernel_rfl) (by kernel_rfl) Tryz.underlying243 TL Tryz.underlying362 Tryz.underlying364 rfl rfl Tryz.underlying9 (by kernel_rfl) (by kernel_rfl)
 obtain ⟨a6,s6,hv6,-⟩:=laid_sentinel (g:=1) (ti:=243) (tp:=362) (te:=364) (ts:=9) (h.tail.tail.tail.tail.tail) (by kernel_rfl) (by kernel_rfl) Tryz.underlying243 TL Tryz.underlying362 Tryz.underlying364 rfl rfl Tryz.underlying9 (by kernel_rfl) (by kernel_rfl)
 have ht:Lib.TabIs Tryz.prog W "internal/strconv.uint64pow10" .u64 Lib.pow10Tab:=Lib.tabIs_of_head (g:=3) (by kernel_rfl) (by kernel_rfl) Tryz.underlying343 Tryz.underlying321 (by kernel_rfl) (by kernel_rfl) (h.tail.tail)
 exact ⟨⟨0,(R.Wb.s1_3 W hsh).imp fun m hm=>⟨by kernel_rfl,hm⟩⟩,ht,⟨_,_,hv6⟩,⟨_,_,hv5⟩⟩
theorem uR (W:World) (hL:laidMetH Tryz.prog Rows.fnExactEngineSubscribeRow.laid W) (hsh:W.ShapedOpen Tryz.prog) (args:Array Value) (H:Type) (enc:TypeId×Value->H) (base:Nat) (ds gs:List (DataW H)) (before:List MemPlace)
  (hval: ∀(j:Nat) t v,Tryz.f8.params[j]? =some t->args[j]? =some v->Value.okWide Tryz.prog W .any base t v)
  (hW:DataW.Whole enc Tryz.prog Tryz.f8.params.toList Rows.fnExactEngineSubscribeSpec.vars false W args.toList ds gs before) :
  Calls Tryz.prog 8 args W fun e W'=> ∃v,e= .returned v/\Rows.fnExactEngineSubscribeSpec.post enc Tryz.prog Tryz.f8 false true false false W args v W':=by
 have hW':=hW
 obtain ⟨p,q,hA,hV,rfl,hfz,hnd⟩:=hW
 rw[Tryz.params8] at hA hval
 obtain ⟨z0,vs0,d0,ds0,p0,q0,hargs,rfl,rfl,h0,r0⟩:=trodAll_cons hA
 obtain ⟨z1,vs1,d1,ds1,p1,q1,rfl,rfl,rfl,h1,r1⟩:=trodAll_cons r0
 obtain ⟨z2,vs2,d2,ds2,p2,q2,rfl,rfl,rfl,h2,r2⟩:=trodAll_cons r1
 obtain ⟨rfl,rfl,rfl⟩:=trodAll_nil r2
 obtain rfl:args= #[z0,z1,z2]:=by cases args;simp_all
 obtain ⟨rfl,rfl⟩:=trodVars_none hV
 obtain ⟨x0,v0_0,v0_1,v0_2,v0_3,rfl,l0,r0_0,r0_1,r0_2,r0_3⟩:=D.Za (hval 0 _ _ rfl rfl) h0
 obtain ⟨x1,rfl,l1⟩:=D.ZF (hval 1 _ _ rfl rfl) h1
 obtain ⟨x2,rfl,l2⟩:=D.ZF (hval 2 _ _ rfl rfl) h2
 have hc:=D.nZ x0 x1 x2 true (D.wo x0 x1 x2 l0 l1 l2) (I:=D.hp W) (w0:=W) v0_0 v0_1 v0_2 v0_3 r0_0 r0_1 r0_2 r0_3 (D.Lay.of (wt hL hsh)) W [] (D.St.init W)
 refine hc.mono fun e W' ⟨v,he,hv,hs⟩=>?_
 subst he;subst hv
 exact ⟨_,rfl,Sr (f:=Tryz.f8) (s:=Rows.fnExactEngineSubscribeSpec) 4 Tryz.underlying4 rfl (by kernel_rfl) rfl hW' rfl rfl rfl (D.St.below hs)⟩
set_option maxRecDepth 100000 in
theorem ra (os:Os) (started:os.Started) (H:Type) (enc:TypeId×Value->H) :
  ReturnsInHanded {} Tryz.checked os 8 .any (fun w args=>(Rows.fnExactEngineSubscribeSpec.pre enc Tryz.prog Tryz.f8 [] false w args/\laidMetH Tryz.prog Rows.fnExactEngineSubscribeRow.laid w)/\sizedMet enc Tryz.prog Tryz.f8 (OpenSpec.ofChange Rows.fnExactEngineSubscribeSpec) false w args) (Rows.fnExactEngineSubscribeSpec.post enc Tryz.prog Tryz.f8 false true false false):=by
 refine xq (C:=Tryz.checked) (X:=fun w _=>laidMetH Tryz.prog Rows.fnExactEngineSubscribeRow.laid w) (fun _ _ _ hh h=>h.of_heap hh) own started (by kernel_rfl) Tryz.func8
  (ChangeSpec.witness_shaped (enc:=enc) (C:=Tryz.checked) (os:=os) (X:=fun w _=>laidMetH Tryz.prog Rows.fnExactEngineSubscribeRow.laid w) false (World.laidAll Tryz.prog os Rows.fnExactEngineSubscribeRow.laid) #[.agg #[.int .i64 0,.slice none 0 0,.slice none 0 0,.slice none 0 0,.slice none 0 0,.string ⟨#[]⟩],.int .i64 0,.int .i64 0] 8 (World.laidAll_os _ _ _) (World.shaped_of_ZipB (by kernel_rfl) (by kernel_rfl)) (by kernel_rfl) (by kernel_rfl) (by kernel_rfl) (by rw[MakeChecks.laidMetH_plain _ _ _ (by kernel_rfl)];exact laidMet_laidAll _ (by kernel_rfl) (by kernel_rfl))) ?_
 intro W base args ds gs before hval hW hL hsh
 exact uR W hL hsh args H enc base ds gs before hval hW
theorem sq:Rows.FnExactEngineSubscribeSaid:=
 OpenClaim.holds_of_wide 8 Tryz.f8 rfl rfl rfl rfl rfl rfl rfl ⟨rfl,rfl,rfl,rfl,rfl⟩ rfl rfl rfl rfl rfl (by kernel_rfl) Tryz.func8 closedLEngineSubscribe
  (of_decide_eq_true (by kernel_rfl)) (by unfold Func.isWrapper;first | (rw[if_pos (by decide +kernel)];kernel_rfl) | (rw[if_neg (by decide +kernel)];exact ⟨rfl,rfl⟩))
  (fun os started H enc _=>ra os started H enc)
theorem cardLEngineSubscribe:Rows.FnExactEngineSubscribeCardSaid:=
 Claim7.holds_tied_plain_at .later [] [.data,.data,.data,.data,.sentinel,.sentinel,.pinned] true (true,"cff0790423b5df951cc606f0fc8fb4ad82e67faf05c9a9573691dcb8680664a3") true
  sq (fun _ h=>by cases h) (by kernel_rfl) (fun _ h=>by cases h) fnExactEngineSubscribe_row_tie rfl ⟨rfl,rfl⟩ kf4EngineSubscribe rfl
  (fun f fn hf hfn=>by
   obtain rfl:f=8:=ae (kf1EngineSubscribe.symm.trans hf) |>.symm
   obtain rfl:fn=Tryz.f8:=(ae (Tryz.func8.symm.trans hfn)).symm
   exact ⟨kf2EngineSubscribe,fun j t ht=>by
    rw[Tryz.params8] at ht
    have hm:t ∈ [31,3,3]:=by simpa using Array.mem_of_getElem? ht
    have hall:([31,3,3].all fun u=> !Tryz.prog.wantsStandIn u)=true:=by kernel_rfl
    exact (show Tryz.prog.wantsStandIn t=false by simpa using List.all_eq_true.1 hall t hm)⟩)
  kf3EngineSubscribe
end Go.Proofs.YtilionjghdjbdaaGreatDoor
