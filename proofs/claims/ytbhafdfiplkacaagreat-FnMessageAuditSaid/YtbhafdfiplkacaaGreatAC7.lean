/- FnMessageAudit: for every input the law returns true and changes nothing that was there. Part 8 of 8. -/
import Derived.Test.YtbhafdfiplkacaaGreatAC6
set_option linter.unusedVariables false
set_option linter.unusedSimpArgs false
set_option linter.unnecessarySimpa false
set_option linter.unusedSectionVars false
set_option maxRecDepth 1000000
namespace Go.Proofs.YtbhafdfiplkacaaGreat
open Go.IntKind (i64)
set_option synthInstance.maxSize 20000
set_option synthInstance.maxHeartbeats 2000000
namespace D
open Go.RowKit
theorem Kq {R:Type} {f:Bool×Int->Option (Out R (Bool×Int))} {l:PsT} {d:Pr->Bool} {b0:Bool} (hN:l.length<=9223372036854775807) (h: ∀b i (hi:i<l.length),f (b,(i:Int))=some (.nxt (b&&d l[i],((i+1:Nat):Int)))) (he: ∀b,f (b,(l.length:Int))=some (.brk (b,(l.length:Int)))):aA f aT (b0,0)=some (.brk (b0&&l.all d,(l.length:Int))):=by
 obtain ⟨s,e,rfl⟩:=dO (f:=f) (fun i s=>s=(b0&&(l.take i).all d,(i:Int))) l.length (fun i s hi hI=>by
  subst hI
  refine ⟨_,h _ i hi,?_⟩
  rw[List.take_succ_eq_append_getElem hi,List.all_append,Bool.and_assoc];simp) (fun s hI=>by
  subst hI
  rw[he]) (s:=(b0,0)) (by simp) (gx _ hN)
 rw[e,List.take_of_length_le (aG _)]
theorem Su (l:List Pr) (f:Pr->Bool):(y6 [] (l.filter f)).length<=l.length:=by
 have g1:=pP (l.filter f) []
 have g2:=List.length_filter_le f l
 rw[ax] at g1
 omega
theorem PC (l:PsT) (h:l.length<=1048576):ez l=some l:=by
 unfold ez
 rw[aH (by simp only[ax];omega)];rfl
theorem CA (l:PsT) (h:l.length<=1048576):bM 16 ([] :PsT) l=some l:=by
 rw[aH (by simp only[ax];omega)];rfl
theorem pj {l:PsT} {d:PsT×PsT} (hl:l.length<=1048576) (h1:d.1.length<=1048576) (h2:d.2.length<=1048576): ∃x:PsT×Bool,iL l d=some x/\mV l d=some x/\x.1.length<=l.length+d.1.length:=by
 obtain ⟨b,ds,di⟩:=y7 h1 h2
 obtain ⟨c,ei⟩:=vJ l (by omega)
 have es:=rA (l:=l)
 rw[ei] at es
 unfold iL mV
 simp only[iN,ds,di,ae,es,ei]
 rw[show ((if b=true then some c else some false:Option Bool).bind fun s1=>aO (aA (cV l d) aT (s1,0)) (fun r=>some r) (fun s5=>aO (aA (cW l d) aT (s5.1,0)) (fun r=>some r) (fun s9=>if s9.1 then ((dj l d.2).bind fun r11=>(iK r11 d.1).bind fun r12=>some (r12,true)) else ((bM 16 ([] :List (Int×Int)) l).bind fun z1=>some (z1,false)))))=aO (aA (cV l d) aT (b&&c,0)) (fun r=>some r) (fun s5=>aO (aA (cW l d) aT (s5.1,0)) (fun r=>some r) (fun s9=>if s9.1 then ((dj l d.2).bind fun r11=>(iK r11 d.1).bind fun r12=>some (r12,true)) else ((bM 16 ([] :List (Int×Int)) l).bind fun z1=>some (z1,false)))) from by cases b <;> rfl]
 have L0:=Kq (f:=cV l d) (l:=d.1) (d:=fun x=> !decide (x∈l)) (b0:=b&&c) (by omega) (fun b i hi=>by
  unfold cV
  rw[cF hi,if_pos rfl]
  cases b with
  | true =>
   rw[if_pos rfl,aM hi]
   simp only[ae,iN]
   rw[LX (by omega)]
   simp only[ae,Bool.true_and,ah (show i<9223372036854775807 by omega)]
  | false=>rw[if_neg (by simp),ah (by omega),Bool.false_and]) (fun b=>by
  unfold cV
  rw[cm];rfl)
 rw[ai L0]
 have L1:=Kq (f:=cW l d) (l:=d.2) (d:=fun x=>decide (x∈l)) (b0:=(b&&c)&&d.1.all fun x=> !decide (x∈l)) (by omega) (fun b i hi=>by
  unfold cW
  rw[cF hi,if_pos rfl]
  cases b with
  | true =>
   rw[if_pos rfl,aM hi]
   simp only[ae,iN]
   rw[LX (by omega)]
   simp only[ae,Bool.true_and,ah (show i<9223372036854775807 by omega)]
  | false=>rw[if_neg (by simp),ah (by omega),Bool.false_and]) (fun b=>by
  unfold cW
  rw[cm];rfl)
 rw[ai L1]
 simp only[PC l hl,CA l hl,ae,Kl (l:=l) (m:=d.1) (by omega) (by omega),YI (a:=d.2) (b:=l) (by omega) (by omega),yu (a:=l) (b:=d.2) (by omega) (by omega),YI (a:=l) (b:=d.2) (by omega) (by omega)]
 have hK0:=Su l (fun x=> !decide (x∈d.2))
 have hK:(y6 [] (l.filter fun x=> !decide (x∈d.2))).length<=1048576:=Nat.le_trans hK0 hl
 rw[Ww (by omega) (by omega),Z8 (by omega) (by omega)]
 have hM:(y6 [] (y6 [] (l.filter fun x=> !decide (x∈d.2))++d.1)).length<=l.length+d.1.length:=by
  have g1:=pP (y6 [] (l.filter fun x=> !decide (x∈d.2))++d.1) []
  rw[ax,aj] at g1
  omega
 simp only[ae]
 cases b with
 | false=>exact ⟨(l,false),rfl,rfl,by show l.length<=_;omega⟩
 | true =>
  cases c with
  | false=>exact ⟨(l,false),rfl,rfl,by show l.length<=_;omega⟩
  | true =>
   simp only[Bool.true_and,if_true]
   by_cases hc: ∃x,x∈l/\x∈d.1
   ·have ha:(d.1.all fun x=> !decide (x∈l))=false:=by
     obtain ⟨x,h3,h4⟩:=hc
     rw[List.all_eq_false]
     exact ⟨x,h4,by simp[h3]⟩
    rw[ha,decide_eq_true hc]
    exact ⟨(l,false),rfl,rfl,by show l.length<=_;omega⟩
   ·have ha:(d.1.all fun x=> !decide (x∈l))=true:=by
     rw[List.all_eq_true]
     intro x hx
     have:x∉l:=fun h=>hc ⟨x,h,hx⟩
     simp[this]
    rw[ha,decide_eq_false hc]
    simp only[Bool.true_and,Bool.false_eq_true,if_false]
    by_cases hr: ∀x,x∈d.2->x∈l
    ·have h5:(d.2.all fun x=>decide (x∈l))=true:=by
      rw[List.all_eq_true];exact fun x hx=>decide_eq_true (hr x hx)
     have h6:(d.2.filter fun x=> !decide (x∈l))= []:=by
      rw[List.filter_eq_nil_iff]
      intro x hx
      simp[hr x hx]
     rw[h5,h6]
     exact ⟨_,rfl,rfl,hM⟩
    ·have h5:(d.2.all fun x=>decide (x∈l))=false:=by
      rw[List.all_eq_false]
      have: ∃x,x∈d.2/\x∉l:=Classical.byContradiction fun h=>hr fun x hx=>Classical.byContradiction fun hn=>h ⟨x,hx,hn⟩
      obtain ⟨x,h3,h4⟩:=this
      exact ⟨x,h3,by simp[h4]⟩
     have h6: ¬(y6 [] (d.2.filter fun x=> !decide (x∈l))).length=0:=fun h0=>hr fun x hx=>Classical.byContradiction fun hn=>by
      have hm:x∈y6 [] (d.2.filter fun x=> !decide (x∈l)):=zQ.2 (.inr (List.mem_filter.2 ⟨hx,by simp[hn]⟩))
      rw[List.eq_nil_of_length_eq_zero h0] at hm
      cases hm
     rw[h5,if_neg (by simp),if_pos (decide_eq_true (by omega))]
     exact ⟨(l,false),rfl,rfl,by show l.length<=_;omega⟩
theorem pQ {l:PsT} {m:MsT} (hl:l.length<=1048576) (h1:m.2.2.1.length<=1048576) (h2:m.2.2.2.length<=1048576): ∃x:PsT×Bool,cO l m=some x/\iE l m=some x/\x.1.length<=l.length+m.2.2.1.length:=by
 obtain ⟨x,d1,d2,d3⟩:=pj (l:=l) (d:=m.2.2) hl h1 h2
 obtain ⟨c,ei⟩:=vJ m.2.2.1 (by omega)
 have es:=rA (l:=m.2.2.1)
 rw[ei] at es
 unfold cO iE
 simp only[iN,d1,d2,es,ei,PC l hl,CA l hl,PC m.2.2.1 h1,CA m.2.2.1 h1,ae]
 split
 ·split
  ·split
   ·exact ⟨_,rfl,rfl,by show l.length<=_;omega⟩
   ·exact ⟨_,rfl,rfl,by show m.2.2.1.length<=_;omega⟩
  ·exact ⟨_,rfl,rfl,by show l.length<=_;omega⟩
 ·exact ⟨_,rfl,rfl,d3⟩
end D
set_option synthInstance.maxSize 20000
set_option synthInstance.maxHeartbeats 2000000
namespace D
open Go.RowKit
theorem G9 {r:qd} (hr:Data.sm r) (id:Int): ∃c:Bool,∀g:GrT,Data.sm g-> ∃(l:List (Int×Int)) (b:Bool),aS g=some b/\bd r g id=some (l,c&&b)/\cx r g id=some (l,c&&b)/\l.length<=150:=by
 obtain ⟨⟨a,q⟩,es,ei,sa⟩:=Dr hr id
 refine ⟨q,fun g hg=>?_⟩
 obtain ⟨b,e1,k1⟩:=EJ g (bf hg.1).1 (bf hg.2).1
 have es:dC (r.1,r.2) id=_:=es
 have ei:eP (r.1,r.2) id=_:=ei
 have e2:bc (g.1,g.2)=some b:=by rw[ny];exact e1
 have e1':aS (g.1,g.2)=_:=e1
 obtain ⟨l,f1,f2,hl⟩:=Kj g a hg sa
 have f1:gl (g.1,g.2) (a.1,a.2.1,a.2.2)=_:=f1
 have f2:fh (g.1,g.2) (a.1,a.2.1,a.2.2)=_:=f2
 unfold bd cx
 rw[es,ei,e1',e2];simp only[ae]
 rw[f1,f2]
 cases q with
 | false=>exact ⟨[],b,rfl,rfl,rfl,by decide⟩
 | true =>
  cases b with
  | false=>exact ⟨[],false,rfl,rfl,rfl,by decide⟩
  | true=>exact ⟨l,true,rfl,rfl,rfl,hl⟩
theorem IS {h:tj} (hh:Data.sm h) (hv:bz h=some true): ∀g∈h.2,aS g=some true:=by
 obtain ⟨hl,hs⟩:=bf hh.2
 have ki:=scan (f:=cL h) h.2 (okG h) false (by omega) (fun i hi=>by
  have hg:=hs _ (bI (xs:=h.2) (i:=(i:Int)) (by omega) (by omega))
  obtain ⟨b,e⟩:=tX hg
  have er:=xf (nth h.2 (i:Int)).1 (nth h.2 0).1 (by have:=(bf hg.1).1;omega)
  have e':aS ((nth h.2 (i:Int)).1,(nth h.2 (i:Int)).2)=some b:=e
  have hk:okG h (nth h.2 (i:Int))↔b=true/\(nth h.2 (i:Int)).1=(nth h.2 0).1:=by unfold okG;rw[e];simp
  unfold cL
  rw[if_pos (by simp;omega),az (by omega) (by omega)];simp only[ae]
  rw[e',az (xs:=h.2) (i:=0) (by omega) (by omega)];simp only[ae]
  rw[er,ah (by omega)];simp only[ae]
  cases b with
  | false=>rw[if_neg (by decide),if_neg (fun c=>by cases (hk.1 c).1)]
  | true =>
   rw[if_pos rfl]
   by_cases c:(nth h.2 (i:Int)).1=(nth h.2 0).1
   ·rw[if_pos (decide_eq_true c),if_pos (hk.2 ⟨rfl,c⟩)]
   ·rw[if_neg (by simpa using c),if_neg (fun k=>c (hk.1 k).2)]) (by unfold cL;simp)
 rcases ki with ⟨ei,k⟩ | ⟨ei,k⟩
 ·exact fun g hg=>(k g hg).1
 ·unfold bz at hv
  rw[Ey,Ey] at hv;simp only[ae] at hv
  rw[bs ei] at hv
  split at hv
  ·split at hv
   ·cases hv
   ·cases hv
  ·cases hv
theorem EX {h:tj} (hh:Data.sm h) {v:Int} {g:GrT} (e:iw h v=some (g,true)):aS g=some true:=by
 obtain ⟨b,es,ei,k⟩:=qS h hh
 have ei':bz (h.1,h.2)=_:=ei
 unfold iw at e
 rw[ei'] at e;simp only[ae] at e
 cases b with
 | false=>cases e
 | true =>
  obtain ⟨-,l2⟩:=qT es ei (k rfl)
  have l2:fp (h.1,h.2)=_:=l2
  simp only[if_true,l2,ae,Ey,decide_eq_true_eq] at e
  by_cases c:h.1<=v/\v<=IR h
  ·have c':=c
   have kk:=k rfl
   unfold IR at c'
   have hm:=(bf hh.2).2 _ (bI (xs:=h.2) (i:=v - h.1) (by omega) (by omega))
   have e2:jQ ((nth h.2 (v - h.1)).1,(nth h.2 (v - h.1)).2)=_:=PB _ hm
   rw[if_pos c,bH (n:=v - h.1) (by omega) (by omega),az (by omega) (by omega)] at e;simp only[ae] at e
   rw[e2] at e
   have e:nth h.2 (v - h.1)=g:=(Prod.mk.inj (af e)).1
   rw[<-e]
   exact IS hh ei _ (bI (by omega) (by omega))
  ·rw[if_neg c] at e;cases e
theorem aaM (x y:List (Int×Int)) (hN:x.length<=1048576*4):kp x y=some (decide (x=y))/\mW x y=some (decide (x=y)):=by
 have h1:kp x y=some (decide (x=y)):=by
  unfold kp
  exact eqL (f:=jR x y) x y (by omega) (fun i h h'=>by
   simp only[jR,cF h,if_true,aM h,aM h',ae,ah (show i<9223372036854775807 by omega),YF]
   by_cases c:x[i] =y[i] <;> simp[c]) (by simp only[jR,cm];rfl)
 have h2:dw x y=some (decide (x=y)):=by
  unfold dw
  exact eqL (f:=cU x y) x y (by omega) (fun i h h'=>by
   simp only[cU,cF h,if_true,aM h,aM h',ae,ah (show i<9223372036854775807 by omega),YF]
   by_cases c:x[i] =y[i] <;> simp[c]) (by simp only[cU,cm];rfl)
 exact ⟨h1,by unfold mW;rw[h2];rfl⟩
section
variable {h:tj} (hh:Data.sm h) {r:qd} (hr:Data.sm r) {id:Int} (hc: ∀g:GrT,Data.sm g-> ∃(l:List (Int×Int)) (b:Bool),aS g=some b/\bd r g id=some (l,b)/\cx r g id=some (l,b)/\l.length<=150)
 {ms:List B3} (hm:Data.sm ms)
include hh hr hc hm
theorem yw {now:List (Int×Int)} {v:Int} {k:Nat} (hn:now.length<=150) (hk:k<=ms.length) :
  ∃o,aW h r id ms (now,v,(k:Int))=some o/\eZ h r id ms (now,v,(k:Int))=some o/\ ∀s',o= .nxt s'->k<ms.length/\s'.1.length<=150/\s'.2.2=((k+1:Nat):Int):=by
 unfold aW eZ
 simp only
 have hml:=(bf hm).1
 by_cases c:k<ms.length
 ·rw[if_pos (by simp only[decide_eq_true_eq];omega),if_pos (by simp only[decide_eq_true_eq];omega),az (by omega) (by omega)];simp only[ae]
  have sm:=(bf hm).2 _ (bI (xs:=ms) (i:=(k:Int)) (by omega) (by omega))
  generalize nth ms (k:Int)=m at sm
  obtain ⟨x,a1,a2,hx⟩:=pQ (l:=now) (m:=m) (by omega) (bf sm.2.2.1).1 (bf sm.2.2.2).1
  have a1:cO now (m.1,m.2.1,(m.2.2.1,m.2.2.2))=_:=a1
  have a2:iE now (m.1,m.2.1,(m.2.2.1,m.2.2.2))=_:=a2
  obtain ⟨g,q,g1,g2,sg,-,-⟩:=tk h hh m.1
  have g1:dD (h.1,h.2) m.1=_:=g1
  have g2':iw (h.1,h.2) m.1=_:=g2
  obtain ⟨l,b,ev,q1,q2,hl⟩:=hc g sg
  have q1:bd (r.1,r.2) (g.1,g.2) id=_:=q1
  have q2:cx (r.1,r.2) (g.1,g.2) id=_:=q2
  have ea:fe (h.1,h.2) (r.1,r.2) id m.1=some (if q then l else [],if q then b else false):=by
   unfold fe
   rw[g2'];simp only[ae]
   cases q with
   | false=>rfl
   | true=>simp only[if_true];rw[q2];rfl
  rw[a1,a2,g1,ea];simp only[ae]
  rw[q1];simp only[ae]
  rcases x with ⟨x,xo⟩
  have hxl:=(bf sm.2.2.1).1
  have hx:x.length<=now.length+m.2.2.1.length:=hx
  cases xo with
  | false=>exact ⟨_,rfl,rfl,fun s' e=>by cases e⟩
  | true =>
   cases q with
   | false=>exact ⟨_,rfl,rfl,fun s' e=>by cases e⟩
   | true =>
    have hb:=EX hh g2
    rw[ev] at hb
    obtain rfl:b=true:=af hb
    simp only[if_true]
    by_cases c2:m.1<=v
    ·rw[if_pos (decide_eq_true c2),if_pos (decide_eq_true c2)]
     exact ⟨_,rfl,rfl,fun s' e=>by cases e⟩
    ·obtain ⟨p1,p2⟩:=aaM x l (by omega)
     rw[if_neg (by simpa using c2),if_neg (by simpa using c2),p1,p2];simp only[ae]
     by_cases c3:x=l
     ·rw[if_pos (decide_eq_true c3),ah (by omega)]
      refine ⟨_,rfl,rfl,fun s' e=>?_⟩
      cases e
      exact ⟨c,by rw[c3];exact hl,rfl⟩
     ·rw[if_neg (by simpa using c3)]
      exact ⟨_,rfl,rfl,fun s' e=>by cases e⟩
 ·rw[if_neg (by simp only[decide_eq_true_eq];omega),if_neg (by simp only[decide_eq_true_eq];omega)]
  exact ⟨_,rfl,rfl,fun s' e=>by cases e⟩
theorem LZ {now:List (Int×Int)} {v:Int} (hn:now.length<=150): ∃b:Bool,aO (aA (aW h r id ms) aT (now,v,0)) (fun r=>some r) (fun _=>some true)=some b/\aO (aA (eZ h r id ms) aT (now,v,0)) (fun r=>some r) (fun _=>some true)=some b:=by
 have hml:=(bf hm).1
 obtain ⟨o,e,hq⟩:=cz (f:=aW h r id ms) (fun i s=>s.1.length<=150/\s.2.2=(i:Int)/\i<=ms.length) (fun o=> ∀s',o≠ .nxt s') ms.length (s:=(now,v,0)) (by
  rintro i ⟨now,v,k⟩ hi ⟨h1,h2,h3⟩
  obtain rfl:k=(i:Int):=h2
  obtain ⟨o,e1,e2,k⟩:=yw hh hr hc hm (v:=v) h1 h3
  cases o with
  | nxt s' =>
   obtain ⟨k1,k2,k3⟩:=k s' rfl
   exact .inl ⟨k1,s',e1,k2,k3,by omega⟩
  | brk s'=>exact .inr ⟨_,e1,(fun s' e=>by cases e),fun s' e=>by cases e⟩
  | ret s'=>exact .inr ⟨_,e1,(fun s' e=>by cases e),fun s' e=>by cases e⟩) ⟨hn,rfl,by omega⟩ (lu (by omega))
 have k:=BS (f:=aW h r id ms) (f':=eZ h r id ms) (fun s=>s) (fun s=>s.1.length<=150/\ ∃k:Nat,s.2.2=(k:Int)/\k<=ms.length) (by
  rintro ⟨now,v,k⟩ ⟨h1,i,h2,h3⟩
  obtain rfl:k=(i:Int):=h2
  obtain ⟨o,e1,e2,-⟩:=yw hh hr hc hm (v:=v) h1 h3
  rw[e1,e2]
  cases o <;> rfl) (by
  rintro ⟨now,v,k⟩ s' ⟨h1,i,h2,h3⟩ hf
  obtain rfl:k=(i:Int):=h2
  obtain ⟨o,e1,e2,k⟩:=yw hh hr hc hm (v:=v) h1 h3
  rw[e1] at hf
  obtain ⟨k1,k2,k3⟩:=k s' (af hf)
  exact ⟨k2,i+1,k3,by omega⟩) aT (now,v,0) ⟨hn,0,rfl,by omega⟩
 rw[k,e]
 cases o with
 | nxt s'=>exact absurd rfl (hq s')
 | brk s'=>exact ⟨true,rfl,rfl⟩
 | ret b=>exact ⟨b,rfl,rfl⟩
end
theorem BY (h:tj) (hh:Data.sm h) {r:qd} (hr:Data.sm r) (id v:Int) (ms:List B3) (hm:Data.sm ms): ∃b:Bool,gU h r id v ms=some b/\gT h r id v ms=some b:=by
 obtain ⟨c,hc⟩:=G9 hr id
 obtain ⟨g,q,g1,g2,sg,-,-⟩:=tk h hh v
 obtain ⟨l,b,ev,q1,q2,hl⟩:=hc g sg
 have g1:dD (h.1,h.2) v=_:=g1
 have g2':iw (h.1,h.2) v=_:=g2
 have q1:bd (r.1,r.2) (g.1,g.2) id=_:=q1
 have q2:cx (r.1,r.2) (g.1,g.2) id=_:=q2
 have ea:fe (h.1,h.2) (r.1,r.2) id v=some (if q then l else [],if q then c&&b else false):=by
  unfold fe
  rw[g2'];simp only[ae]
  cases q with
  | false=>rfl
  | true=>simp only[if_true];rw[q2];rfl
 unfold gU gT
 rw[g1,ea];simp only[ae]
 rw[q1];simp only[ae]
 cases q with
 | false=>exact ⟨false,rfl,rfl⟩
 | true =>
  simp only[if_true]
  cases c with
  | false=>exact ⟨false,rfl,rfl⟩
  | true =>
   simp only[Bool.true_and] at hc⊢
   cases b with
   | false=>exact ⟨false,rfl,rfl⟩
   | true =>
    simp only[if_true]
    exact LZ hh hr hc hm hl
end D
namespace D
open Go.RowKit
theorem Kr (x:Int):0<=qe x 255/\qe x 255<=255:=by
 have h:(BitVec.ofInt 64 x &&& BitVec.ofInt 64 255).toNat<=255:=by
  rw[BitVec.toNat_and]
  exact Nat.le_trans Nat.and_le_right (by decide)
 unfold qe
 rw[bH (by omega) (by omega)]
 omega
def iZ (xs:List Int) (i:Int):Prop:=0<=i/\i<=(xs.length:Int)
section
variable {xs:List Int} {i h:Int}
theorem Z9 (hl:xs.length<=1048576): ∃r:Int×Int,wu xs=some r/\iZ xs r.1:=by
 have key: ∃s,aA (py xs) aT (i64.wrap (10101+(xs.length:Int)),0)=some (.brk s):=by
  obtain ⟨o,e,s,rfl⟩:=cz (f:=py xs) (fun j s=>s.2=(j:Int)) (fun o=> ∃s,o= .brk s) xs.length (fun j s hj hb=>by
   obtain ⟨a,b⟩:=s
   obtain rfl:b=(j:Int):=hb
   unfold py
   simp only
   rw[VY]
   by_cases c0:j<xs.length
   ·rw[if_pos (by simpa using c0)]
    by_cases c:((j:Nat):Int)<4000
    ·rw[if_pos (by simpa using c),az (by omega) (by omega)];simp only[ae]
     exact .inl ⟨c0,_,rfl,by show i64.wrap ((j:Int)+1)=_;rw[bH (by omega) (by omega)];omega⟩
    ·rw[if_neg (by simpa using c)]
     exact .inr ⟨_,rfl,(fun s' e=>by cases e),_,rfl⟩
   ·rw[if_neg (by simpa using c0)]
    exact .inr ⟨_,rfl,(fun s' e=>by cases e),_,rfl⟩) (s:=(i64.wrap (10101+(xs.length:Int)),0)) rfl (lu (by omega))
  exact ⟨s,e⟩
 obtain ⟨s,hs⟩:=key
 unfold wu
 rw[ai hs]
 exact ⟨_,rfl,by show (0:Int)<=0;omega,by show (0:Int)<=_;omega⟩
theorem Ha (hl:xs.length<=1048576) (hc:iZ xs i): ∃r:Int×Int×Int,kR (xs,i,h)=some r/\(0<=r.1/\r.1<=255)/\iZ xs r.2.1:=by
 unfold kR
 simp only
 by_cases c:i<(xs.length:Int)
 ·rw[if_pos (by simpa using c),az hc.1 c];simp only[ae]
  refine ⟨_,rfl,Kr _,?_⟩
  show iZ xs (i64.wrap (i+1))
  have:=hc.1
  rw[bH (by omega) (by omega)]
  exact ⟨by omega,by omega⟩
 ·rw[if_neg (by simpa using c)];simp only[ae]
  exact ⟨_,rfl,Kr _,hc⟩
theorem bR (hl:xs.length<=1048576) (hc:iZ xs i) {n:Int} (hn:0<n): ∃r:Int×Int×Int,aL (xs,i,h) n=some r/\(0<=r.1/\r.1<n)/\iZ xs r.2.1:=by
 unfold aL
 simp only
 rw[if_neg (by simpa using hn)]
 have hck:chk (n≠0)=some ():=by unfold chk;rw[if_pos (by omega)]
 by_cases c:n<=256
 ·rw[if_pos (by simpa using c)]
  obtain ⟨r,e,h1,h2⟩:=Ha (h:=h) hl hc
  rw[e,hck];simp only[ae]
  exact ⟨_,rfl,⟨Int.tmod_nonneg _ h1.1,Int.tmod_lt_of_pos _ hn⟩,h2⟩
 ·rw[if_neg (by simpa using c)]
  obtain ⟨r1,e1,h1,k1⟩:=Ha (h:=h) hl hc
  rw[e1];simp only[ae]
  obtain ⟨r2,e2,h2,k2⟩:=Ha (h:=r1.2.2) hl k1
  rw[e2];simp only[ae]
  obtain ⟨r3,e3,h3,k3⟩:=Ha (h:=r2.2.2) hl k2
  rw[e3];simp only[ae]
  obtain ⟨r4,e4,h4,k4⟩:=Ha (h:=r3.2.2) hl k3
  rw[e4,hck];simp only[ae]
  have w1:i64.wrap (r1.1*16777216)=r1.1*16777216:=bH (by omega) (by omega)
  have w2:i64.wrap (r2.1*65536)=r2.1*65536:=bH (by omega) (by omega)
  have w3:i64.wrap (r3.1*256)=r3.1*256:=bH (by omega) (by omega)
  have w4:i64.wrap (r1.1*16777216+r2.1*65536)=r1.1*16777216+r2.1*65536:=bH (by omega) (by omega)
  have w5:i64.wrap (r1.1*16777216+r2.1*65536+r3.1*256)=r1.1*16777216+r2.1*65536+r3.1*256:=bH (by omega) (by omega)
  have w6:i64.wrap (r1.1*16777216+r2.1*65536+r3.1*256+r4.1)=r1.1*16777216+r2.1*65536+r3.1*256+r4.1:=bH (by omega) (by omega)
  rw[w1,w2,w3,w4,w5,w6]
  exact ⟨_,rfl,⟨Int.tmod_nonneg _ (by omega),Int.tmod_lt_of_pos _ hn⟩,k4⟩
theorem qU (hl:xs.length<=1048576) (hc:iZ xs i) {n:Int} (hn:0<n): ∃r:Bool×Int×Int,bu (xs,i,h) n=some r/\iZ xs r.2.1:=by
 obtain ⟨r,e,-,k⟩:=bR (h:=h) hl hc hn
 unfold bu
 simp only
 rw[e]
 exact ⟨_,rfl,k⟩
theorem dI (hl:xs.length<=1048576) (hc:iZ xs i) {l:List Int} (h0:l≠ []): ∃r:Int×Int×Int,bq (xs,i,h) l=some r/\r.1∈l/\iZ xs r.2.1:=by
 have hp:0<(l.length:Int):=by have:=List.length_pos_iff.2 h0;omega
 obtain ⟨r,e,h1,k⟩:=bR (h:=h) hl hc hp
 unfold bq
 simp only
 rw[e];simp only[ae]
 rw[az h1.1 h1.2];simp only[ae]
 exact ⟨_,rfl,bI h1.1 h1.2,k⟩
theorem YJ (hl:xs.length<=1048576) (hc:iZ xs i) {l:List ByteArray} (h0:l≠ []): ∃r:ByteArray×Int×Int,tG (xs,i,h) l=some r/\r.1∈l/\iZ xs r.2.1:=by
 have hp:0<(l.length:Int):=by have:=List.length_pos_iff.2 h0;omega
 obtain ⟨r,e,h1,k⟩:=bR (h:=h) hl hc hp
 unfold tG
 simp only
 rw[e];simp only[ae]
 rw[az h1.1 h1.2];simp only[ae]
 exact ⟨_,rfl,bI h1.1 h1.2,k⟩
end
end D
namespace D
open Go.RowKit
def aaN (x:Tr Tok):Prop:= ∀(n:Nat) (p:Dm),(flat x).length<=n->p.2.2.2.1.length=p.1.length->p.1.length+(flat x).length<=100000->
 ∃(nu:Bool) (fi la:Int) (q:Dm),cG n p (flat x)=some ((nu,fi,la),q)/\q.2.2.2.1.length=q.1.length/\q.1.length<=p.1.length+(flat x).length
theorem Sv {x:Tr Tok} (h:WT x):aaN x:=by
 refine WT.ind (p:=aaN) ?_ ?_ ?_ h
 ·intro t e n p hn hF hl
  rw[Bz] at hn hl⊢
  simp only[au,ax] at hl
  match n,hn with
  | n+1,_ =>
   rw[cG]
   have:=(kG (A:=[]) (t:=t) (by simp)).1
   rw[List.nil_append] at this
   rw[this];simp only[ae,iN]
   rcases mI (show 0<=ar t by omega) with ⟨k,_⟩ | ⟨k,_⟩ | ⟨_,k⟩
   ·omega
   ·omega
   rcases k with k | k | k
   ·exact ⟨false,0,0,p,by simp[k],hF,by simp⟩
   ·exact ⟨true,0,0,p,by simp[k],hF,by simp⟩
   ·refine ⟨false,vM 1 (p.1.length:Int),vM 1 (p.1.length:Int),(p.1++ [t.2.1],p.2.1,p.2.2.1,p.2.2.2.1++ [0],p.2.2.2.2),?_,by simp[hF],by simp⟩
    rw[if_neg (by simp[k]),if_pos (by simp[k]),aH (by simp;omega)];simp only[ae]
    rw[aH (by simp;omega)];rfl
 ·intro t a e wa ih n p hn hF hl
  rw[Cz] at hn hl⊢
  simp only[aj,au,ax] at hn hl
  match n,hn with
  | n+1,hn =>
   rw[cG];simp only[iN]
   obtain ⟨l1,l2⟩:=kG (A:=flat a) (t:=t) (by omega)
   rw[l1];simp only[ae]
   obtain ⟨nu,fi,la,q,hs,hq1,hq2⟩:=ih n p (by omega) hF (by omega)
   rcases OR e with ⟨k1,k2⟩ | ⟨k1,k2,k3⟩
   ·have g2:(t.1==2)=false:=by simp[k2]
    have g3:(t.1==3)=false:=by simp[k2]
    have g4:(t.1==4)=false:=by simp[k2]
    have g5:(t.1==5)=false:=by simp[k2]
    simp only[g2,g3,g4,g5,k1,Bool.false_eq_true,if_false,if_true]
    rw[l2,Int.toNat_natCast,List.take_left,jF (by simp only[aj,au,ax];omega)];simp only[ae]
    rw[hs];simp only[ae,iN]
    rw[J8 (by omega)];simp only[ae]
    refine ⟨true,fi,la,_,rfl,?_,?_⟩
    ·simp only[xe];exact hq1
    ·simp only[aj,au,ax];omega
   ·have g2:(t.1==2)=false:=by simp[k3]
    have g3:(t.1==3)=false:=by simp[k3]
    have g4:(t.1==4)=false:=by simp[k3]
    have g5:(t.1==5)=false:=by simp[k3]
    simp only[g2,g3,g4,g5,k1,Bool.false_eq_true,if_false]
    exact ⟨false,0,0,p,rfl,hF,by omega⟩
 ·intro t a b e wa wb iha ihb n p hn hF hl
  rw[ue] at hn hl⊢
  have hl2:((flat a++flat b)++ [t]).length<=1000000:=by omega
  obtain ⟨p1,p2,p3,p4⟩:=xb (a:=a) (t:=t) wb hl2
  simp only[aj,au,ax] at hn hl
  match n,hn with
  | n+1,hn =>
   have hpa:=wa.pos
   have hpb:=wb.pos
   rw[cG];simp only[iN]
   obtain ⟨l1,l2⟩:=kG (A:=flat a++flat b) (t:=t) (by rw[aj];omega)
   rw[l1];simp only[ae]
   obtain ⟨nu,fi,la,q,hs,hq1,hq2⟩:=iha n p (by omega) hF (by omega)
   obtain ⟨nu2,fi2,la2,q2,hs2,hq3,hq4⟩:=ihb n q (by omega) hq1 (by omega)
   rcases mI (show 0<=ar t by omega) with ⟨_,k⟩ | ⟨k,_⟩ | ⟨k,_⟩
   ·rcases k with k | k
    ·have g2:(t.1==2)=false:=by simp[k]
     have g3:(t.1==3)=false:=by simp[k]
     have g4:(t.1==4)=true:=by simp[k]
     have g5:(t.1==5)=false:=by simp[k]
     simp only[g2,g3,g4,g5,Bool.false_eq_true,if_false,if_true]
     rw[l2,p1,p2,jF (by simp only[aj,au,ax];omega)];simp only[ae]
     rw[jF (by simp only[aj,au,ax];omega),p3,p4,hs];simp only[ae]
     rw[jF (by simp only[aj,au,ax];omega)];simp only[ae,iN]
     rw[hs2];simp only[ae,iN]
     rw[J8 (by omega)];simp only[ae]
     refine ⟨nu&&nu2,if nu then orI fi fi2 else fi,if nu2 then orI la la2 else la2,(q2.1,q2.2.1,q2.2.2.1,lk q2.2.2.2.1 la fi2 q2.2.2.2.1.length,q2.2.2.2.2),?_,?_,?_⟩
     ·cases nu <;> cases nu2 <;> rfl
     ·simp only[xe];exact hq3
     ·simp only[aj,au,ax];omega
    ·have g2:(t.1==2)=false:=by simp[k]
     have g3:(t.1==3)=false:=by simp[k]
     have g4:(t.1==4)=false:=by simp[k]
     have g5:(t.1==5)=true:=by simp[k]
     simp only[g2,g3,g4,g5,Bool.false_eq_true,if_false,if_true]
     rw[l2,p1,p2,jF (by simp only[aj,au,ax];omega)];simp only[ae]
     rw[jF (by simp only[aj,au,ax];omega),p3,p4,hs];simp only[ae]
     rw[jF (by simp only[aj,au,ax];omega)];simp only[ae,iN]
     rw[hs2];simp only[ae,iN]
     refine ⟨nu || nu2,orI fi fi2,orI la la2,q2,?_,hq3,?_⟩
     ·cases nu <;> simp
     ·simp only[aj,au,ax];omega
   ·omega
   ·omega
theorem PD {e:List Tok} (he:e.length<=1048576):iH e=some (B1 e):=by
 have hF:=pf
 unfold iH B1
 rw[BB he];simp only[ae]
 by_cases c:(decide (e.length<=24)&&isX e)=true
 ·rw[if_pos c,if_pos c]
  rw[ak] at c
  obtain ⟨x,h1,hw,rfl⟩:=JY c.2
  have h24:(flat x).length<=24:=by simpa using c.1
  have hr:=fD hw
  rw[tU hw,Tw hw fJ (by omega) (by omega)];simp only[ae]
  by_cases c2:5000<szX x
  ·simp only[gt_iff_lt,c2,decide_true,if_true]
  ·simp only[gt_iff_lt,c2,decide_false,if_false,Bool.false_eq_true]
   have hl:=BC hw (by omega)
   rw[JZ hw fJ (by omega) (by omega) (by omega)];simp only[ae]
   by_cases c3:400<(flat (ry x)).length
   ·have c3':decide (((flat (ry x)).length:Int)>400)=true:=decide_eq_true (by omega)
    simp only[c3',c3,if_true]
   ·have c3':decide (((flat (ry x)).length:Int)>400)=false:=decide_eq_false (by omega)
    simp only[c3',c3,if_false,Bool.false_eq_true]
 ·rw[if_neg c,if_neg c]
theorem IU {e:List Tok} (he:e.length<=1048576): ∃r:Dm×Bool,dA e=some r/\r.1.2.2.2.1.length=r.1.1.length/\r.1.1.length<=400:=by
 have hF:=pf
 unfold dA
 rw[PD he];simp only[ae]
 by_cases c:(B1 e).2=true
 ·obtain ⟨y,wy,ey,ly⟩:=OV c
  rw[if_pos c,ai (Yh (by rw[ey];omega))]
  simp only
  by_cases d:(E3 (B1 e).1 (B1 e).1.length:Int)>20
  ·have d':decide ((E3 (B1 e).1 (B1 e).1.length:Int)>20)=true:=decide_eq_true d
   simp only[d',if_true]
   exact ⟨_,rfl,rfl,by simp⟩
  ·have d':decide ((E3 (B1 e).1 (B1 e).1.length:Int)>20)=false:=decide_eq_false d
   simp only[d',Bool.false_eq_true,if_false]
   rw[ey]
   obtain ⟨nu,fi,la,q,hs,hq1,hq2⟩:=Sv wy fJ ([],0,0,[],false) (by omega) rfl (by simp;omega)
   rw[hs];simp only[ae]
   exact ⟨_,rfl,hq1,by simp at hq2;show q.1.length<=_;omega⟩
 ·rw[if_neg c]
  exact ⟨_,rfl,rfl,by simp⟩
theorem PE {p:Dm} (h1:p.2.2.2.1.length=p.1.length) (h2:p.1.length<=100000): ∃r:AutT×Bool,dZ p 12=some r/\(r.2=true-> ∃N,N<=12/\bfE (nxS p) 1 N/\r.1=(0,(bfS (nxS p) 1 N).map (tc p),bfR (nxS p) 1 N)/\VA r.1 N):=by
 have d1:=Yg (p:=p) (most:=12) h1 (by omega) (by omega) (by omega)
 have d1:dZ p 12=_:=d1
 rw[d1]
 rcases ID (nx:=nxS p) (first:=1) (acc:=tc p) (most:=12) (12+2) 0 (fun j hj=>by omega) (by simp[bfS]) with e | ⟨N,hN,hNm,e⟩
 ·exact ⟨_,rfl,fun h=>by rw[e] at h;cases h⟩
 ·rw[e]
  have V:=Pc (acc:=tc p) (BE p) hN
  exact ⟨_,rfl,fun _=>⟨N,hNm,hN,rfl,V⟩⟩
end D
namespace D
open Go.RowKit
def Ks:List ByteArray:=[⟨#[97]⟩,⟨#[97,32,98,32,46]⟩,⟨#[97,32,42]⟩,⟨#[97,32,98,32,124,32,42]⟩,⟨#[97,32,97,45,32,46]⟩,⟨#[97,32,42,32,98,32,46]⟩,⟨#[97,32,98,32,42,32,46,32,99,32,46]⟩,⟨#[97,32,97,32,124,32,42]⟩,⟨#[97,32,98,32,46,32,42]⟩,⟨#[48,32,97,32,46,32,42]⟩,⟨#[97,32,49,32,46,32,98,32,46]⟩,⟨#[97,32,123,48,44,50,125]⟩,⟨#[97,32,98,32,124,32,123,49,44,51,125]⟩,⟨#[40,41]⟩,⟨#[33]⟩,⟨#[97,45,32,42,32,97,32,46]⟩,⟨#[97,32,98,45,32,46,32,42,32,99,32,124]⟩,⟨#[97,32,42,32,97,32,42,32,46]⟩,⟨#[97,32,48,32,124,32,42,32,98,32,46]⟩,⟨#[97,32,97,32,46,32,42]⟩,⟨#[97,32,98,32,46,32,98,32,97,32,46,32,124,32,42]⟩]
def PF (t:ByteArray):Bool:=match jN t with
 | some r=>r.2&&Nat.ble 1 r.1.length&&Nat.ble r.1.length 24
 | none=>false
theorem PG:Ks.all PF=true:=by kernel_rfl
theorem Sw {t:ByteArray} (h:t∈Ks): ∃r:List Tok×Bool,jN t=some r/\r.2=true/\1<=r.1.length/\r.1.length<=24:=by
 have h1:PF t=true:=List.all_eq_true.1 PG t h
 unfold PF at h1
 split at h1
 ·rename_i r hr
  rw[ak,ak] at h1
  exact ⟨r,hr,h1.1.1,bC h1.1.2,bC h1.2⟩
 ·cases h1
section
variable {xs:List Int} {i h:Int}
theorem PH (hl:xs.length<=1048576) (hc:iZ xs i): ∃r:List Tok×Int×Int,oN (xs,i,h)=some r/\(1<=r.1.length/\r.1.length<=24)/\iZ xs r.2.1:=by
 obtain ⟨r,e,h1,k⟩:=YJ (h:=h) hl hc (l:=Ks) (by unfold Ks;simp)
 obtain ⟨q,e2,-,h2⟩:=Sw h1
 unfold oN
 have hb:=congrArg (fun o:Option (ByteArray×Int×Int)=>Option.bind o (fun r0:ByteArray×Int×Int=>(jN r0.1).bind fun r1=>some (r1.1,r0.2.1,r0.2.2))) e
 refine ⟨(q.1,r.2.1,r.2.2),hb.trans ?_,h2,k⟩
 show (jN r.1).bind _=_
 rw[e2];rfl
theorem Hb (hl:xs.length<=1048576): ∀(d n:Nat) (i h:Int),d<n->d<=3->iZ xs i-> ∃r:List Tok×Int×Int,eO n (xs,i,h) (d:Int)=some r/\(1<=r.1.length/\r.1.length+1<=2 ^ (d+1))/\iZ xs r.2.1
 | 0,n+1,i,h,_,_,hc=>by
  rw[eO];simp only
  rw[if_pos (by decide)]
  obtain ⟨r,e,k⟩:=qU (h:=h) hl hc (n:=12) (by omega)
  rw[e];simp only[ae]
  by_cases c:r.1=true
  ·rw[if_pos c]
   obtain ⟨q,e2,-,k2⟩:=dI (h:=r.2.2) hl k (l:=[1,2]) (by simp)
   rw[e2];simp only[ae]
   exact ⟨_,rfl,⟨aG _,aG _⟩,k2⟩
  ·rw[if_neg c]
   obtain ⟨q,e2,-,k2⟩:=dI (h:=r.2.2) hl k (l:=[0,0,2,2,1,4,3,6,7]) (by simp)
   rw[e2];simp only[ae]
   exact ⟨_,rfl,⟨aG _,aG _⟩,k2⟩
 | d+1,n+1,i,h,hd,h3,hc=>by
  have hp:2 ^ (d+1+1)=2*2 ^ (d+1):=by rw[Nat.pow_succ,Nat.mul_comm]
  have hb:2 ^ (d+1)<=8:=by
   have:d<=2:=by omega
   match d,this with
   | 0,_=>decide
   | 1,_=>decide
   | 2,_=>decide
  rw[eO];simp only
  rw[if_neg (by simp;omega)]
  have hw:i64.wrap (((d+1:Nat):Int) - 1)=(d:Int):=by rw[bH (by omega) (by omega)];omega
  rw[hw]
  obtain ⟨r,e,-,k⟩:=bR (h:=h) hl hc (n:=6) (by omega)
  rw[e];simp only[ae]
  have two: ∀(t:Tok) (i h:Int),iZ xs i-> ∃r:List Tok×Int×Int,((eO n (xs,i,h) (d:Int)).bind fun r7=>(eO n (xs,r7.2.1,r7.2.2) (d:Int)).bind fun r8=>(fl r7.1 r8.1 t).bind fun r9=>some (r9,r8.2.1,r8.2.2))=some r/\(1<=r.1.length/\r.1.length+1<=2 ^ (d+1+1))/\iZ xs r.2.1:=fun t i h hc=>by
   obtain ⟨r7,e7,h7,k7⟩:=Hb hl d n i h (by omega) (by omega) hc
   rw[e7];simp only[ae]
   obtain ⟨r8,e8,h8,k8⟩:=Hb hl d n r7.2.1 r7.2.2 (by omega) (by omega) k7
   rw[e8];simp only[ae]
   rw[BD (by omega)];simp only[ae]
   refine ⟨_,rfl,?_,k8⟩
   simp only[aj,au,ax]
   omega
  have one: ∀(t:Tok) (i h:Int),iZ xs i-> ∃r:List Tok×Int×Int,((eO n (xs,i,h) (d:Int)).bind fun r14=>(fl r14.1 ([] :List Yq1) t).bind fun r15=>some (r15,r14.2.1,r14.2.2))=some r/\(1<=r.1.length/\r.1.length+1<=2 ^ (d+1+1))/\iZ xs r.2.1:=fun t i h hc=>by
   obtain ⟨r7,e7,h7,k7⟩:=Hb hl d n i h (by omega) (by omega) hc
   rw[e7];simp only[ae]
   rw[BD (by simp only[ax];omega)];simp only[ae]
   refine ⟨_,rfl,?_,k7⟩
   simp only[aj,au,ax]
   omega
  have if2: ∀(p q:Bool),(if p then (some p) else (some q):Option Bool)=some (p || q):=fun p q=>by cases p <;> rfl
  rw[if2];simp only[ae]
  by_cases c1:(r.1==0 || r.1==1)=true
  ·rw[if_pos c1]
   exact two _ _ _ k
  ·rw[if_neg c1,if2];simp only[ae]
   by_cases c2:(r.1==2 || r.1==3)=true
   ·rw[if_pos c2]
    exact two _ _ _ k
   ·rw[if_neg c2]
    by_cases c3:(r.1==4)=true
    ·rw[if_pos c3]
     exact one _ _ _ k
    ·rw[if_neg c3]
     obtain ⟨q,e2,h2,k2⟩:=bR (h:=r.2.2) hl k (n:=3) (by omega)
     rw[e2];simp only[ae]
     obtain ⟨r7,e7,h7,k7⟩:=Hb hl d n q.2.1 q.2.2 (by omega) (by omega) k2
     rw[e7];simp only[ae]
     have w:i64.wrap (i64.wrap (1+q.1)+1)=q.1+2:=by
      rw[bH (n:=1+q.1) (by omega) (by omega),bH (by omega) (by omega)];omega
     obtain ⟨u,e3,-,k3⟩:=bR (h:=r7.2.2) hl k7 (n:=q.1+2) (by omega)
     rw[w,e3];simp only[ae]
     rw[BD (by simp only[ax];omega)];simp only[ae]
     refine ⟨_,rfl,?_,k3⟩
     simp only[aj,au,ax]
     omega
theorem YK (hl:xs.length<=1048576) (hc:iZ xs i): ∃r:List Tok×Int×Int,tH (xs,i,h)=some r/\(1<=r.1.length/\r.1.length<=24)/\iZ xs r.2.1:=by
 have hF:=pf
 unfold tH
 simp only
 obtain ⟨r,e,k⟩:=qU (h:=h) hl hc (n:=2) (by omega)
 rw[e];simp only[ae]
 by_cases c:r.1=true
 ·rw[if_pos c]
  obtain ⟨q,e2,h2,k2⟩:=PH (h:=r.2.2) hl k
  rw[e2]
  exact ⟨_,rfl,h2,k2⟩
 ·rw[if_neg c]
  obtain ⟨q,e2,h2,k2⟩:=bR (h:=r.2.2) hl k (n:=3) (by omega)
  rw[e2];simp only[ae]
  have w:i64.wrap (1+q.1)=(((q.1.toNat+1:Nat)):Int):=by rw[bH (by omega) (by omega)];omega
  obtain ⟨u,e3,h3,k3⟩:=Hb hl (q.1.toNat+1) fJ q.2.1 q.2.2 (by omega) (by omega) k2
  rw[w,e3]
  refine ⟨_,rfl,⟨h3.1,?_⟩,k3⟩
  have:q.1.toNat<=2:=by omega
  have h4:=h3.2
  show u.1.length<=24
  generalize q.1.toNat=z at this h4
  match z,this with
  | 0,_=>simp at h4;omega
  | 1,_=>simp at h4;omega
  | 2,_=>simp at h4;omega
def AutD (a:AutT):Prop:=(1<=a.2.1.length/\a.2.1.length<=12)/\(1<=a.2.2.length/\a.2.2.length<=12)/\ ∀r∈a.2.2,r.length=9
theorem AutD.sm {a:AutT} (h:AutD a):Data.sm a:=⟨trivial,⟨by have:=h.1.2;omega,fun _ _=>trivial⟩,by have:=h.2.1.2;omega,fun r hr=>⟨by rw[h.2.2 r hr];decide,fun _ _=>trivial⟩⟩
theorem VA.autD {a:AutT} {n:Nat} (V:VA a n) (hn:n<=12):AutD a:=by
 have h0:=V.pos
 have h1:=V.len
 have h2:=V.nlen
 exact ⟨by omega,by omega,V.row⟩
theorem aaa (hl:xs.length<=1048576) {p:List Int×Int×Int} {r0:Int×Int×Int} (hp:p.1=xs) (hr:0<=r0.1/\r0.1<4) (hc:iZ xs i): ∃s,aA (iB p r0) aT (([] :List Int),0,i,h)=some (.brk s)/\s.1.length=9/\iZ xs s.2.2.1:=by
 have w:i64.wrap (1+r0.1)=1+r0.1:=bH (by omega) (by omega)
 obtain ⟨s,e,h1,h2,h3⟩:=dO (f:=iB p r0) (fun j s=>s.2.1=(j:Int)/\s.1.length=j/\iZ xs s.2.2.1) 9 (fun j s hj hI=>by
  obtain ⟨h1,h2,h3⟩:=hI
  unfold iB
  rw[h1,hp,if_pos (by simp;omega)]
  obtain ⟨r,e,k⟩:=qU (h:=s.2.2.2) hl h3 (n:=3) (by omega)
  rw[e];simp only[ae]
  have key: ∃q:Int×Int×Int,(if r.1 then (some ((-1),r.2.1,r.2.2)) else ((aL (xs,r.2.1,r.2.2) (i64.wrap (1+r0.1))).bind fun r8=>some (r8.1,r8.2.1,r8.2.2)):Option (Int×Int×Int))=some q/\iZ xs q.2.1:=by
   by_cases c:r.1=true
   ·rw[if_pos c];exact ⟨_,rfl,k⟩
   ·rw[if_neg c,w]
    obtain ⟨q,e2,-,k2⟩:=bR (h:=r.2.2) hl k (n:=1+r0.1) (by omega)
    rw[e2];exact ⟨_,rfl,k2⟩
  obtain ⟨q,e2,k2⟩:=key
  rw[e2];simp only[ae]
  have e4: ∃z:Int,(if decide ((j:Int)>3) then (some (-1)) else (some q.1):Option Int)=some z:=by
   by_cases c:decide ((j:Int)>3)=true
   ·exact ⟨_,if_pos c⟩
   ·exact ⟨_,if_neg c⟩
  obtain ⟨z,e4⟩:=e4
  rw[e4];simp only[ae]
  rw[aH (by simp only[au,ax];omega)];simp only[ae]
  refine ⟨_,rfl,?_,?_,k2⟩
  ·show i64.wrap ((j:Int)+1)=((j+1:Nat):Int)
   rw[bH (by omega) (by omega)];omega
  ·simp only[aj,au,ax];omega) (fun s hI=>by
  unfold iB
  rw[hI.1,if_neg (by simp)]
  obtain ⟨a,b,c,d⟩:=s
  obtain rfl:b=_:=hI.1
  rfl) (s:=(([] :List Int),0,i,h)) ⟨rfl,rfl,hc⟩ (lu (by omega))
 exact ⟨s,e,h2,h3⟩
theorem Kt (hl:xs.length<=1048576) (hc:iZ xs i): ∃r:AutT×Int×Int,lG (xs,i,h)=some r/\AutD r.1/\iZ xs r.2.1:=by
 unfold lG
 simp only
 obtain ⟨r0,e0,h0,k0⟩:=bR (h:=h) hl hc (n:=4) (by omega)
 rw[e0];simp only[ae]
 have w:i64.wrap (1+r0.1)=((r0.1.toNat+1:Nat):Int):=by rw[bH (by omega) (by omega)];omega
 obtain ⟨r1,e1,-,k1⟩:=bR (h:=r0.2.2) hl k0 (n:=((r0.1.toNat+1:Nat):Int)) (by omega)
 rw[w,e1];simp only[ae]
 obtain ⟨s,e,h1,h2,h3,h4,h5⟩:=dO (f:=kz (xs,i,h) r0) (fun j s=>s.1=(j:Int)/\s.2.2.1.length=j/\s.2.2.2.1.length=j/\(∀r∈s.2.2.2.1,r.length=9)/\iZ xs s.2.2.2.2.1) (r0.1.toNat+1) (fun j s hj hI=>by
  obtain ⟨h1,h2,h3,h4,h5⟩:=hI
  unfold kz
  rw[h1,w,if_pos (by simp;omega)]
  obtain ⟨q,e,hq,k⟩:=aaa (p:=(xs,i,h)) (r0:=r0) (i:=s.2.2.2.2.1) (h:=s.2.2.2.2.2) hl rfl h0 h5
  rw[ai e]
  simp only
  obtain ⟨o,e2,k2⟩:=qU (h:=q.2.2.2) hl k (n:=3) (by omega)
  rw[e2];simp only[ae]
  rw[aH (by simp only[au,ax];omega)];simp only[ae]
  rw[aH (by simp only[au,ax];omega)];simp only[ae]
  refine ⟨_,rfl,?_,by simp[h2],by simp[h3],fun r hr=>?_,k2⟩
  ·show i64.wrap ((j:Int)+1)=((j+1:Nat):Int)
   rw[bH (by omega) (by omega)];omega
  ·rcases aI hr with hr | hr
   ·exact h4 r hr
   ·obtain rfl:=aw hr
    exact hq) (fun s hI=>by
  unfold kz
  rw[hI.1,w,if_neg (by simp)]
  obtain ⟨a,b⟩:=s
  obtain rfl:a=_:=hI.1
  rfl) (s:=(0,r1.1,([] :List Bool),([] :List (List Int)),r1.2.1,r1.2.2)) ⟨rfl,rfl,rfl,fun r hr=>(by cases hr),k1⟩ (lu (by omega))
 rw[ai e]
 refine ⟨_,rfl,⟨?_,?_,h4⟩,h5⟩
 ·show 1<=s.2.2.1.length/\s.2.2.1.length<=12
  omega
 ·show 1<=s.2.2.2.1.length/\s.2.2.2.1.length<=12
  omega
theorem aab (hl:xs.length<=1048576) (hc:iZ xs i): ∃r:AutT×Int×Int,tI (xs,i,h)=some r/\AutD r.1/\iZ xs r.2.1:=by
 unfold tI
 simp only
 obtain ⟨r,e,k⟩:=qU (h:=h) hl hc (n:=3) (by omega)
 rw[e];simp only[ae]
 by_cases c:r.1=true
 ·rw[if_pos c]
  obtain ⟨q,e2,h2,k2⟩:=Kt (h:=r.2.2) hl k
  rw[e2]
  exact ⟨_,rfl,h2,k2⟩
 ·rw[if_neg c]
  obtain ⟨q,e2,h2,k2⟩:=YK (h:=r.2.2) hl k
  rw[e2];simp only[ae]
  obtain ⟨p,e3,p1,p2⟩:=IU (e:=q.1) (by omega)
  rw[e3];simp only[ae]
  obtain ⟨a,e4,h4⟩:=PE (p:=p.1) p1 (by omega)
  have e4:dZ (p.1.1,p.1.2.1,p.1.2.2.1,p.1.2.2.2.1,p.1.2.2.2.2) 12=some a:=e4
  rw[e4];simp only[ae]
  by_cases c2:a.2=true
  ·rw[if_pos c2]
   obtain ⟨N,hN,-,-,V⟩:=h4 c2
   exact ⟨_,rfl,V.autD hN,k2⟩
  ·rw[if_neg c2]
   obtain ⟨u,e5,h5,k5⟩:=Kt (h:=q.2.2) hl k2
   rw[e5]
   exact ⟨_,rfl,h5,k5⟩
end
end D
namespace D
open Go.RowKit
section
variable {xs:List Int} {i h:Int}
theorem YL (hl:xs.length<=1048576) {p:List Int×Int×Int} (hp:p.1=xs) (hc:iZ xs i) {n:Int} (hn:0<=n/\n<=5): ∃s:Int×Int×Int×List Int×List Yq1,aA (eh p) aT (n,i,h,([] :List Int),([] :List Yq1))=some (.brk s)/\s.2.2.2.1.length=n.toNat/\s.2.2.2.2= [] /\iZ xs s.2.1:=by
 obtain ⟨s,e,h1,h2,h3,h4⟩:=dO (f:=eh p) (fun j s=>s.1=n - (j:Int)/\s.2.2.2.1.length=j/\s.2.2.2.2= [] /\iZ xs s.2.1) n.toNat (fun j s hj hI=>by
  obtain ⟨h1,h2,h3,h4⟩:=hI
  unfold eh
  rw[h1,hp,if_pos (by simp;omega)]
  obtain ⟨r,e,-,k⟩:=bR (h:=s.2.2.1) hl h4 (n:=3) (by omega)
  rw[e];simp only[ae]
  rw[aH (by simp only[au,ax];omega)];simp only[ae]
  refine ⟨_,rfl,?_,by simp[h2],h3,k⟩
  show i64.wrap (n - (j:Int) - 1)=n - ((j+1:Nat):Int)
  rw[bH (by omega) (by omega)];omega) (fun s hI=>by
  unfold eh
  rw[hI.1,if_neg (by simp;omega)]
  obtain ⟨a,b⟩:=s
  obtain rfl:a=_:=hI.1
  rfl) (s:=(n,i,h,([] :List Int),([] :List Yq1))) ⟨by show n=n - 0;omega,rfl,rfl,hc⟩ (lu (by omega))
 exact ⟨s,e,h2,h3,h4⟩
def GrD (g:GrT):Prop:=(1<=g.1.length/\g.1.length<=5)/\g.2.length<=11
theorem GrD.sm {g:GrT} (h:GrD g):Data.sm g:=⟨⟨by have:=h.1.2;omega,fun _ _=>trivial⟩,by have:=h.2;omega,fun _ _=>⟨trivial,trivial,trivial,trivial⟩⟩
theorem Wx (hl:xs.length<=1048576) (hc:iZ xs i): ∃r:GrT×Int×Int,kI (xs,i,h)=some r/\GrD r.1/\iZ xs r.2.1:=by
 unfold kI
 simp only
 obtain ⟨r0,e0,h0,k0⟩:=dI (h:=h) hl hc (l:=[2,3,4,4,5]) (by simp)
 rw[e0];simp only[ae]
 have h0:2<=r0.1/\r0.1<=5:=by simp at h0;omega
 obtain ⟨s,e,h1,h2,h3⟩:=YL (p:=(xs,i,h)) (h:=r0.2.2) hl rfl k0 (n:=r0.1) (by omega)
 rw[ai e]
 obtain ⟨r10,e10,h10,k10⟩:=dI (h:=s.2.2.1) hl h3 (l:=[4,8,11]) (by simp)
 rw[e10];simp only[ae]
 have h10:4<=r10.1/\r10.1<=11:=by simp at h10;omega
 obtain ⟨r11,e11,h11,k11⟩:=bR (h:=r10.2.2) hl k10 (n:=r10.1) (by omega)
 rw[e11];simp only[ae]
 obtain ⟨q,eq,q1,q2,q3,q4⟩:=dO (f:=gj (xs,i,h)) (fun j z=>z.2.1=r11.1 - (j:Int)/\z.2.2.2.2.1=s.2.2.2.1/\z.2.2.2.2.2.length=j/\iZ xs z.2.2.1) r11.1.toNat (fun j z hj hI=>by
  obtain ⟨z1,z2,z3,z4⟩:=hI
  unfold gj
  rw[z1,z2,if_pos (by simp;omega)]
  obtain ⟨a,ea,-,ka⟩:=bR (h:=z.2.2.2.1) hl z4 (n:=3) (by omega)
  rw[ea];simp only[ae]
  obtain ⟨b,eb,-,kb⟩:=bR (h:=a.2.2) hl ka (n:=(s.2.2.2.1.length:Int)) (by omega)
  rw[eb];simp only[ae]
  obtain ⟨c,ec,-,kc⟩:=bR (h:=b.2.2) hl kb (n:=(s.2.2.2.1.length:Int)) (by omega)
  rw[ec];simp only[ae]
  obtain ⟨d,ed,-,kd⟩:=dI (h:=c.2.2) hl kc (l:=[0,0,1,2]) (by simp)
  rw[ed];simp only[ae]
  rw[aH (by simp only[au,ax];omega)];simp only[ae]
  refine ⟨_,rfl,?_,rfl,by simp[z3],kd⟩
  show i64.wrap (r11.1 - (j:Int) - 1)=r11.1 - ((j+1:Nat):Int)
  rw[bH (by omega) (by omega)];omega) (fun z hI=>by
  unfold gj
  rw[hI.1,if_neg (by simp;omega)]
  obtain ⟨a,b,c⟩:=z
  obtain rfl:b=_:=hI.1
  rfl) (s:=(0,r11.1,r11.2.1,r11.2.2,s.2.2.2.1,s.2.2.2.2)) ⟨by show r11.1=r11.1 - 0;omega,rfl,by rw[h2];rfl,k11⟩ (lu (by omega))
 rw[ai eq]
 refine ⟨_,rfl,⟨?_,?_⟩,q4⟩
 ·show 1<=q.2.2.2.2.1.length/\q.2.2.2.2.1.length<=5
  rw[q2];omega
 ·show q.2.2.2.2.2.length<=11
  omega
theorem YM (hl:xs.length<=1048576) (hc:iZ xs i): ∃r:GrT×Int×Int,wx (xs,i,h)=some r/\Data.sm r.1/\iZ xs r.2.1:=by
 unfold wx
 simp only
 obtain ⟨g,e,hg,k⟩:=Wx (h:=h) hl hc
 rw[e];simp only[ae]
 obtain ⟨q,e2,-,k2⟩:=bR (h:=g.2.2) hl k (n:=14) (by omega)
 rw[e2];simp only[ae]
 have hsm:=hg.sm
 obtain ⟨⟨hl1,hl2⟩,hl3⟩:=hg
 by_cases c0:(q.1==0)=true
 ·rw[if_pos c0]
  obtain ⟨r,e3,-,k3⟩:=dI (h:=q.2.2) hl k2 (l:=[(-1),3,2]) (by simp)
  rw[e3];simp only[ae]
  rw[az (by omega) (by omega)];simp only[ae]
  exact ⟨_,rfl,⟨⟨by rw[List.length_set];omega,fun _ _=>trivial⟩,hsm.2⟩,k3⟩
 ·rw[if_neg c0]
  by_cases c1:(q.1==1)=true
  ·rw[if_pos c1]
   obtain ⟨r,e3,-,k3⟩:=dI (h:=q.2.2) hl k2 (l:=[0,1,99,100]) (by simp)
   rw[e3];simp only[ae]
   obtain ⟨r4,e4,-,k4⟩:=bR (h:=r.2.2) hl k3 (n:=6) (by omega)
   rw[e4];simp only[ae]
   obtain ⟨r5,e5,-,k5⟩:=bR (h:=r4.2.2) hl k4 (n:=6) (by omega)
   rw[e5];simp only[ae]
   obtain ⟨r6,e6,-,k6⟩:=bR (h:=r5.2.2) hl k5 (n:=4) (by omega)
   rw[e6];simp only[ae]
   rw[aH (by simp only[au,ax];omega)];simp only[ae]
   exact ⟨_,rfl,⟨hsm.1,by simp;omega,fun _ _=>⟨trivial,trivial,trivial,trivial⟩⟩,k6⟩
  ·rw[if_neg c1]
   by_cases c2:(q.1==2)=true
   ·rw[if_pos c2];simp only[ae]
    exact ⟨_,rfl,⟨⟨Nat.zero_le _,fun _ h=>by cases h⟩,hsm.2⟩,k2⟩
   ·rw[if_neg c2];simp only[ae]
    exact ⟨_,rfl,hsm,k2⟩
end
end D
namespace D
open Go.RowKit
section
variable {xs:List Int} {i h:Int}
theorem Wy (hl:xs.length<=1048576) {p:List Int×Int×Int} (hp:p.1=xs) (hc:iZ xs i) {n:Int} (hn:0<=n/\n<=5): ∃s:Int×Int×Int×List Int×List Yq1,aA (eh p) aT (n,i,h,([] :List Int),([] :List Yq1))=some (.brk s)/\(s.2.2.2.1.length=n.toNat/\ ∀v∈s.2.2.2.1,0<=v/\v<=2)/\s.2.2.2.2= [] /\iZ xs s.2.1:=by
 obtain ⟨s,e,h1,h2,h3,h4⟩:=dO (f:=eh p) (fun j s=>s.1=n - (j:Int)/\(s.2.2.2.1.length=j/\ ∀v∈s.2.2.2.1,0<=v/\v<=2)/\s.2.2.2.2= [] /\iZ xs s.2.1) n.toNat (fun j s hj hI=>by
  obtain ⟨h1,⟨h2,h2'⟩,h3,h4⟩:=hI
  unfold eh
  rw[h1,hp,if_pos (by simp;omega)]
  obtain ⟨r,e,hr,k⟩:=bR (h:=s.2.2.1) hl h4 (n:=3) (by omega)
  rw[e];simp only[ae]
  rw[aH (by simp only[au,ax];omega)];simp only[ae]
  refine ⟨_,rfl,?_,⟨by simp[h2],fun v hv=>?_⟩,h3,k⟩
  ·show i64.wrap (n - (j:Int) - 1)=n - ((j+1:Nat):Int)
   rw[bH (by omega) (by omega)];omega
  ·rcases aI hv with hv | hv
   ·exact h2' v hv
   ·rw[aw hv];omega) (fun s hI=>by
  unfold eh
  rw[hI.1,if_neg (by simp;omega)]
  obtain ⟨a,b⟩:=s
  obtain rfl:a=_:=hI.1
  rfl) (s:=(n,i,h,([] :List Int),([] :List Yq1))) ⟨by show n=n - 0;omega,⟨rfl,fun v hv=>by cases hv⟩,rfl,hc⟩ (lu (by omega))
 exact ⟨s,e,h2,h3,h4⟩
def EdD (n:Nat) (w:Int) (l:List Yq1):Prop:=(∀e∈l,(1<=e.1/\e.1<=w)/\(0<=e.2.1/\e.2.1<(n:Int))/\(0<=e.2.2.1/\e.2.2.1<(n:Int))/\0<=e.2.2.2/\e.2.2.2<=2)/\l.Pairwise fun a b=>a.1<b.1
theorem EdD.snoc {n:Nat} {w:Int} {l:List Yq1 } (H:EdD n w l) {e:Int×Int×Int×Int} (h0:0<=w) (hw:w<e.1) (h1:0<=e.2.1/\e.2.1<(n:Int)) (h2:0<=e.2.2.1/\e.2.2.1<(n:Int)) (h3:0<=e.2.2.2/\e.2.2.2<=2):EdD n e.1 (l++ [e]):=by
 refine ⟨fun u hu=>?_,?_⟩
 ·rcases aI hu with hu | hu
  ·have:=H.1 u hu
   exact ⟨by omega,this.2⟩
  ·rw[aw hu]
   exact ⟨by omega,h1,h2,h3⟩
 ·rw[List.pairwise_append]
  refine ⟨H.2,List.pairwise_singleton _ _,fun a ha b hb=>?_⟩
  rw[aw hb]
  have:=(H.1 a ha).1
  omega
theorem Sx (hl:xs.length<=1048576) (hc:iZ xs i): ∃r:GrT×Int×Int,kI (xs,i,h)=some r/\(Data.sm r.1/\Yr r.1)/\iZ xs r.2.1:=by
 unfold kI
 simp only
 obtain ⟨r0,e0,h0,k0⟩:=dI (h:=h) hl hc (l:=[2,3,4,4,5]) (by simp)
 rw[e0];simp only[ae]
 have h0:2<=r0.1/\r0.1<=5:=by simp at h0;omega
 obtain ⟨s,e,⟨h1,hv⟩,h2,h3⟩:=Wy (p:=(xs,i,h)) (h:=r0.2.2) hl rfl k0 (n:=r0.1) (by omega)
 rw[ai e]
 obtain ⟨r10,e10,h10,k10⟩:=dI (h:=s.2.2.1) hl h3 (l:=[4,8,11]) (by simp)
 rw[e10];simp only[ae]
 have h10:4<=r10.1/\r10.1<=11:=by simp at h10;omega
 obtain ⟨r11,e11,h11,k11⟩:=bR (h:=r10.2.2) hl k10 (n:=r10.1) (by omega)
 rw[e11];simp only[ae]
 obtain ⟨q,eq,q1,q2,q3,q4,q5,q6⟩:=dO (f:=gj (xs,i,h)) (fun j z=>z.2.1=r11.1 - (j:Int)/\z.2.2.2.2.1=s.2.2.2.1/\z.2.2.2.2.2.length=j/\(0<=z.1/\z.1<=3*(j:Int))/\EdD s.2.2.2.1.length z.1 z.2.2.2.2.2/\iZ xs z.2.2.1) r11.1.toNat (fun j z hj hI=>by
  obtain ⟨z1,z2,z3,z5,z6,z4⟩:=hI
  unfold gj
  rw[z1,z2,if_pos (by simp;omega)]
  obtain ⟨a,ea,ha,ka⟩:=bR (h:=z.2.2.2.1) hl z4 (n:=3) (by omega)
  rw[ea];simp only[ae]
  obtain ⟨b,eb,hb,kb⟩:=bR (h:=a.2.2) hl ka (n:=(s.2.2.2.1.length:Int)) (by omega)
  rw[eb];simp only[ae]
  obtain ⟨c,ec,hcc,kc⟩:=bR (h:=b.2.2) hl kb (n:=(s.2.2.2.1.length:Int)) (by omega)
  rw[ec];simp only[ae]
  obtain ⟨d,ed,hd,kd⟩:=dI (h:=c.2.2) hl kc (l:=[0,0,1,2]) (by simp)
  rw[ed];simp only[ae]
  have hd:0<=d.1/\d.1<=2:=by simp at hd;omega
  rw[aH (by simp only[au,ax];omega)];simp only[ae]
  have ew:i64.wrap (i64.wrap (z.1+1)+a.1)=z.1+1+a.1:=by
   rw[bH (n:=z.1+1) (by omega) (by omega),bH (by omega) (by omega)]
  rw[ew]
  refine ⟨_,rfl,?_,rfl,by simp[z3],?_,?_,kd⟩
  ·show i64.wrap (r11.1 - (j:Int) - 1)=r11.1 - ((j+1:Nat):Int)
   rw[bH (by omega) (by omega)];omega
  ·show 0<=z.1+1+a.1/\z.1+1+a.1<=3*((j+1:Nat):Int)
   omega
  ·exact EdD.snoc (e:=(z.1+1+a.1,b.1,c.1,d.1)) z6 z5.1 (by show z.1<z.1+1+a.1;omega) hb hcc hd) (fun z hI=>by
  unfold gj
  rw[hI.1,if_neg (by simp;omega)]
  obtain ⟨a,b,c⟩:=z
  obtain rfl:b=_:=hI.1
  rfl) (s:=(0,r11.1,r11.2.1,r11.2.2,s.2.2.2.1,s.2.2.2.2)) ⟨by show r11.1=r11.1 - 0;omega,rfl,by rw[h2];rfl,⟨Int.le_refl _,by show (0:Int)<=3*0;omega⟩,by rw[h2];exact ⟨fun e he=>(by cases he),List.Pairwise.nil⟩,k11⟩ (lu (by omega))
 rw[ai eq]
 have hlen:q.2.2.2.2.1.length=r0.1.toNat:=by rw[q2,h1]
 refine ⟨_,rfl,⟨⟨⟨?_,fun _ _=>trivial⟩,?_,fun _ _=>⟨trivial,trivial,trivial,trivial⟩⟩,⟨?_,?_,?_,?_,?_,?_⟩,?_⟩,q6⟩
 ·show q.2.2.2.2.1.length<=_
  rw[hlen];omega
 ·show q.2.2.2.2.2.length<=_
  omega
 ·show 1<=q.2.2.2.2.1.length
  rw[hlen];omega
 ·show q.2.2.2.2.1.length<=5
  rw[hlen];omega
 ·show q.2.2.2.2.2.length<=12
  omega
 ·show∀v∈q.2.2.2.2.1,_
  rw[q2];exact hv
 ·intro u hu
  have:=(q5.1 u hu).2
  show (0<=u.2.1/\u.2.1<(q.2.2.2.2.1.length:Int))/\(0<=u.2.2.1/\u.2.2.1<(q.2.2.2.2.1.length:Int))/\0<=u.2.2.2/\u.2.2.2<=2
  rw[q2];exact this
 ·intro j hj
  have hj:j+1<q.2.2.2.2.2.length:=hj
  have:=List.pairwise_iff_getElem.1 q5.2 j (j+1) (by omega) hj (by omega)
  show (nth q.2.2.2.2.2 (j:Int)).1<(nth q.2.2.2.2.2 ((j+1:Nat):Int)).1
  rw[cw (by omega),cw hj];exact this
 ·intro u hu
  have:=(q5.1 u hu).1
  omega
end
end D
set_option synthInstance.maxSize 20000
set_option synthInstance.maxHeartbeats 2000000
namespace D
open Go.RowKit
abbrev YN:=Int×Int×Int×Int
abbrev PI:=Bool×YN
theorem aac (g:GrT) (id:Int) (hl:g.2.length<=1048576): ∃k:Int,dB g id=some k/\(k= -1\/ ∃(i:Nat) (hi:i<g.2.length),k=(i:Int)):=by
 have hs:=yt (f:=fO g id) g.2 (fun u=>u.1==id) (fun i=>(i:Int)) (by omega) (fun i hi=>by
  unfold fO
  rw[cF hi,if_pos rfl,aM hi]
  simp only[ae,ah (show i<9223372036854775807 by omega)]
  split <;> rfl) (by
  unfold fO
  rw[cm];rfl)
 unfold dB
 rcases hs with ⟨i,hi1,h1,h2,e1⟩ | ⟨h1,e1⟩
 ·rw[bs e1]
  exact ⟨_,rfl,.inr ⟨i,hi1,rfl⟩⟩
 ·rw[ai e1]
  exact ⟨_,rfl,.inl rfl⟩
theorem aa0 (g:GrT) (e:YN):qn g e=mA e (g.1.length:Int):=by
 unfold qn mA
 simp only[Is,Ey,ae]
theorem YO {α:Type} [Data α] {xs:List α} {y:α} (h:Data.sm xs) (hy:Data.sm y) (i:Nat) (hl:xs.length<=1048575):Data.sm (xs.take i++([y] ++xs.drop i)):=by
 obtain ⟨h1,h2⟩:=bf h
 refine ⟨by simp only[aj,aB,au,ax,aY];omega,fun x hx=>?_⟩
 rcases aI hx with hx | hx
 ·exact h2 x (List.mem_of_mem_take hx)
 ·rcases aI hx with hx | hx
  ·obtain rfl:=aw hx;exact hy
  ·exact h2 x (List.mem_of_mem_drop hx)
theorem Wz {α:Type} [Data α] {xs:List α} (h:Data.sm xs) (i:Nat):Data.sm (xs.take i++xs.drop (i+1)):=by
 obtain ⟨h1,h2⟩:=bf h
 refine ⟨by simp only[aj,aB,aY];omega,fun x hx=>?_⟩
 rcases aI hx with hx | hx
 ·exact h2 x (List.mem_of_mem_take hx)
 ·exact h2 x (List.mem_of_mem_drop hx)
theorem aa1 (x:GrT) (hx:Data.sm x) (e:YN): ∃r:GrT×Bool,mP x e=some r/\Data.sm r.1:=by
 obtain ⟨h1,h1'⟩:=bf hx.1
 obtain ⟨h2,h2'⟩:=bf hx.2
 obtain ⟨b,ev,kv⟩:=xj x h1 h2
 obtain ⟨k,k1,hk⟩:=aac x e.1 h2
 have eo:=TM e (n:=x.1.length) h1
 unfold mP
 simp only[iN,ny,ev,rB x hx,aa0,eo,k1,ae]
 cases b with
 | false=>exact ⟨(x,false),rfl,hx⟩
 | true =>
  have G:=kv.1 rfl
  have g12:=G.1.m
  simp only[if_true]
  by_cases c1:decide (edgeP e (x.1.length:Int))=true
  ·by_cases c2:decide (k≥0)=true
   ·simp only[if_pos c1,if_pos c2];exact ⟨(x,false),rfl,hx⟩
   ·by_cases c3:((x.2.length:Int)==12)=true
    ·simp only[if_pos c1,if_neg c2,if_pos c3];exact ⟨(x,false),rfl,hx⟩
    ·simp only[if_pos c1,if_neg c2,if_neg c3]
     have lp: ∃i:Nat,i<=x.2.length/\aA (jO x e) aT 0=some (.brk (i:Int)):=by
      obtain ⟨o,eo,i,hi,rfl⟩:=cz (f:=jO x e) (fun i s=>s=(i:Int)) (fun o=> ∃i:Nat,i<=x.2.length/\o= .brk (i:Int)) x.2.length (fun i s hi hI=>by
       subst hI
       unfold jO
       by_cases h1:i<x.2.length
       ·simp only[cF h1,if_true,aM h1,ae,ah (show i<9223372036854775807 by omega)]
        by_cases h2:x.2[i].1<e.1
        ·exact .inl ⟨h1,_,by simp[h2],rfl⟩
        ·exact .inr ⟨.brk (i:Int),by simp[h2],(fun s' e=>by cases e),i,hi,rfl⟩
       ·obtain rfl:i=x.2.length:=by omega
        exact .inr ⟨.brk (x.2.length:Int),by simp only[cm,Bool.false_eq_true,if_false],(fun s' e=>by cases e),_,hi,rfl⟩) (s:=0) rfl (gx _ (by omega))
      exact ⟨i,hi,eo⟩
     obtain ⟨i,hi,l1⟩:=lp
     simp only[l1,aO]
     have hs:=YO (y:=e) hx.2 ⟨trivial,trivial,trivial,trivial⟩ i (by omega)
     have q1:(chk (0<=(i:Int)/\(i:Int)<=(x.2.length:Int)))=some ():=if_pos (by omega)
     have a0:bM 8 ([] :List Int) x.1=some x.1:=by rw[aH (by simp only[ax];omega)];rfl
     have a1:bM 32 ([] :List Yq1) (x.2.take i)=some (x.2.take i):=by rw[aH (by simp only[ax,aB];omega)];rfl
     have a2:bM 32 (x.2.take i) [e] =some (x.2.take i++ [e]):=aH (by simp only[aB,au,ax];omega)
     have a3:bM 32 (x.2.take i++ [e]) (x.2.drop i)=some (x.2.take i++([e] ++x.2.drop i)):=by
      rw[aH (by simp only[aj,aB,aY,au,ax];omega),al]
     simp only[q1,ae,Int.toNat_natCast,a0,a1,a2,a3]
     exact ⟨_,rfl,⟨hx.1,hs⟩⟩
  ·simp only[if_neg c1];exact ⟨(x,false),rfl,hx⟩
theorem aa2 (x:GrT) (hx:Data.sm x) (id:Int): ∃r:GrT×Bool,mQ x id=some r/\Data.sm r.1:=by
 obtain ⟨h1,h1'⟩:=bf hx.1
 obtain ⟨h2,h2'⟩:=bf hx.2
 obtain ⟨b,ev,kv⟩:=xj x h1 h2
 obtain ⟨k,k1,hk⟩:=aac x id h2
 unfold mQ
 simp only[iN,ny,ev,rB x hx,k1,ae]
 cases b with
 | false=>exact ⟨(x,false),rfl,hx⟩
 | true =>
  by_cases c:decide (k<0)=true
  ·simp only[if_pos c];exact ⟨(x,false),rfl,hx⟩
  ·simp only[if_neg c]
   rcases hk with rfl | ⟨i,hi,rfl⟩
   ·exact absurd rfl c
   ·have hw:i64.wrap ((i:Int)+1)=((i+1:Nat):Int):=ah (by omega)
    have c1:(0:Int)<=(i:Int)/\(i:Int)<=(x.2.length:Int):=by omega
    have c2:(0:Int)<=((i+1:Nat):Int)/\((i+1:Nat):Int)<=(x.2.length:Int):=by omega
    have q1:(chk (0<=(i:Int)/\(i:Int)<=(x.2.length:Int)))=some ():=if_pos c1
    have q2:(chk (0<=((i+1:Nat):Int)/\((i+1:Nat):Int)<=(x.2.length:Int)))=some ():=if_pos c2
    have a0:bM 8 ([] :List Int) x.1=some x.1:=by rw[aH (by simp only[ax];omega)];rfl
    have a1:bM 32 ([] :List Yq1) (x.2.take i)=some (x.2.take i):=by rw[aH (by simp only[ax,aB];omega)];rfl
    have a2:bM 32 (x.2.take i) (x.2.drop (i+1))=some (x.2.take i++x.2.drop (i+1)):=aH (by simp only[aB,aY];omega)
    simp only[if_true,hw,q1,q2,ae,Int.toNat_natCast,a0,a1,a2]
    exact ⟨_,rfl,⟨hx.1,Wz hx.2 i⟩⟩
theorem Ku (g:GrT) (hg:Data.sm g) (b:List PI): ∃r:GrT×Bool,eS g b=some r/\Data.sm r.1:=by
 unfold eS
 simp only[iN,rB g hg,ae]
 obtain ⟨o,e,hQ⟩:=cz (f:=pY g b) (fun i s=> ∃x:GrT,s=((i:Int),x)/\Data.sm x) (fun o=>o= .ret (g,false)\/ ∃(n:Int) (x:GrT),o= .brk (n,x)/\Data.sm x) 7 (fun i s hi hI=>by
  obtain ⟨x,rfl,hx⟩:=hI
  have h2:=(bf hx.2).1
  unfold pY
  simp only[iN]
  by_cases h:i<b.length
  ·by_cases h7:i<7
   ·rw[if_pos (by simpa using h),if_pos (decide_eq_true (show (i:Int)<=6 by omega)),aM h]
    simp only[ae]
    obtain ⟨r,r1,r3⟩:=aa1 x hx b[i].2
    obtain ⟨d,d1,d3⟩:=aa2 x hx b[i].2.1
    obtain ⟨k,k1,hk⟩:=aac x b[i].2.1 h2
    have hw:i64.wrap ((i:Int)+1)=((i+1:Nat):Int):=ah (by omega)
    simp only[r1,d1,k1,rB g hg,hw,ae]
    generalize b[i] =ch at *
    by_cases c:ch.1=true
    ·simp only[if_pos c]
     by_cases c2:r.2=true
     ·simp only[if_pos c2,ae,zW]
      exact .inl ⟨h7,_,rfl,_,rfl,r3⟩
     ·simp only[if_neg c2,ae,zW]
      exact .inr ⟨_,rfl,(fun s' h=>by simp at h),.inl rfl⟩
    ·simp only[if_neg c]
     rcases hk with rfl | ⟨j,hj,rfl⟩
     ·rw[if_pos (by decide)]
      simp only[ae,zW]
      exact .inr ⟨_,rfl,(fun s' h=>by simp at h),.inl rfl⟩
     ·rw[if_neg (by simp),aM hj]
      simp only[ae]
      split
      ·by_cases c2:d.2=true
       ·simp only[if_pos c2,ae,zW]
        exact .inl ⟨h7,_,rfl,_,rfl,d3⟩
       ·simp only[if_neg c2,ae,zW]
        exact .inr ⟨_,rfl,(fun s' h=>by simp at h),.inl rfl⟩
      ·simp only[ae,zW]
       exact .inr ⟨_,rfl,(fun s' h=>by simp at h),.inl rfl⟩
   ·rw[if_pos (by simpa using h),if_neg (by simp;omega)]
    exact .inr ⟨_,rfl,(fun s' h=>by simp at h),.inr ⟨_,x,rfl,hx⟩⟩
  ·rw[if_neg (by simpa using h)]
   exact .inr ⟨_,rfl,(fun s' h=>by simp at h),.inr ⟨_,x,rfl,hx⟩⟩) (s:=(0,g)) ⟨g,rfl,hg⟩ (gx _ (by omega))
 rw[e]
 rcases hQ with rfl | ⟨n,x,rfl,hx⟩
 ·exact ⟨_,rfl,hg⟩
 ·exact ⟨_,rfl,hx⟩
theorem YP (g:GrT) (hg:Data.sm g) (b:List PI): ∃r:GrT×Bool,kj g b=some r/\Data.sm r.1:=by
 obtain ⟨v,ev⟩:=tX hg
 obtain ⟨r,er,hr⟩:=Ku g hg b
 unfold kj
 simp only[iN,ny,ev,rB g hg,er,ae]
 cases v with
 | false=>exact ⟨(g,false),rfl,hg⟩
 | true =>
  simp only[if_true]
  by_cases c:decide ((b.length:Int)>6)=true
  ·simp only[if_pos c];exact ⟨(g,false),rfl,hg⟩
  ·simp only[if_neg c];exact ⟨_,rfl,hr⟩
theorem T3 (h:tj) (hh:Data.sm h):qo h=some h:=by
 obtain ⟨hl,hs⟩:=bf hh.2
 have e:=aU (f:=lH h) (fun i=>((i:Int),h.1,h.2.take i)) h.2.length (fun i hi=>by
  have e:bY (h.2[i].1,h.2[i].2)=some h.2[i]:=rB h.2[i] (hs _ (List.getElem_mem hi))
  have hx: ∀z:GrT,bM 48 (h.2.take i) [z] =some (h.2.take i++ [z]):=fun z=>aH (by rw[aB];simp only[au,ax];omega)
  unfold lH
  simp only[]
  rw[cF hi,if_pos rfl,aM hi]
  simp only[ae]
  rw[e]
  simp only[ae]
  rw[hx,ah (by omega),List.take_succ_eq_append_getElem hi];rfl) (by
  unfold lH
  simp only[]
  rw[cm];rfl) (gx _ (by omega))
 rw[List.take_length] at e
 have e:aA (lH h) aT (0,h.1,[])=_:=e
 unfold qo
 rw[ai e]
def WW (h:tj):Prop:=Data.sm h/\1<=h.2.length
theorem y8 {n:Int} {l:List GrT} (hl:l.length<=1048576) (h: ∀g∈l,Data.sm g):Data.sm ((n,l):tj):=⟨trivial,hl,h⟩
theorem aa3 (h:tj) (hh:Data.sm h): ∃v,aX h=some v:=by
 obtain ⟨b,es,ei,k⟩:=qS h hh
 cases b with
 | true=>exact ⟨_,(qT es ei (k rfl)).1⟩
 | false =>
  unfold aX
  have es:a8 (h.1,h.2)=_:=es
  rw[es]
  exact ⟨_,rfl⟩
theorem WA (h:tj) (hh:WW h) (b:List PI): ∃r:tj×Bool,jk h b=some r/\WW r.1:=by
 obtain ⟨hs,h1⟩:=hh
 obtain ⟨v,es,ei,k⟩:=qS h hs
 obtain ⟨hl,hm⟩:=bf hs.2
 unfold jk
 simp only[iN,T3 h hs,es,ae]
 cases v with
 | false=>exact ⟨(h,false),rfl,hs,h1⟩
 | true =>
  obtain ⟨k8,-⟩:=k rfl
  simp only[if_true,(qT es ei (k rfl)).1,ae]
  by_cases c:(IR h==999)=true
  ·rw[if_pos c];exact ⟨(h,false),rfl,hs,h1⟩
  ·rw[if_neg c,bH (by omega) (by omega),az (by omega) (by omega)];simp only[ae]
   have hg:=hm _ (bI (xs:=h.2) (i:=(h.2.length:Int) - 1) (by omega) (by omega))
   obtain ⟨r,e,hr⟩:=YP _ hg b
   have e:kj ((nth h.2 ((h.2.length:Int) - 1)).1,(nth h.2 ((h.2.length:Int) - 1)).2) b=_:=e
   rw[e];simp only[ae]
   by_cases c2:r.2=true
   ·rw[if_pos c2,aH (by simp only[au,ax];omega)];simp only[ae]
    have ha: ∀g∈h.2++ [(r.1.1,r.1.2)],Data.sm g:=fun g hg=>by
     rcases aI hg with hg | hg
     ·exact hm g hg
     ·rw[aw hg];exact hr
    have hal:(h.2++ [(r.1.1,r.1.2)]).length=h.2.length+1:=by simp
    have hal2:(h.2++ [r.1]).length=h.2.length+1:=by simp
    by_cases c3:decide (((h.2++ [(r.1.1,r.1.2)]).length:Int)>8)=true
    ·rw[if_pos c3,show chk (And ((0:Int)<=1) (1<=((h.2++ [(r.1.1,r.1.2)]).length:Int)))=some () from if_pos (by omega)]
     refine ⟨_,rfl,y8 ?_ fun g hg=>ha g (List.mem_of_mem_drop hg),?_⟩
     ·rw[aY];omega
     ·show 1<=((h.2++ [(r.1.1,r.1.2)]).drop 1).length
      rw[aY];omega
    ·rw[if_neg c3]
     refine ⟨_,rfl,y8 (by omega) ha,?_⟩
     show 1<=(h.2++ [(r.1.1,r.1.2)]).length
     omega
   ·rw[if_neg c2];exact ⟨(h,false),rfl,hs,h1⟩
theorem Sy (h:tj) (hs:Data.sm h) (v:Int): ∃r:tj×Bool,fV h v=some r/\Data.sm r.1:=by
 obtain ⟨b,es,ei,k⟩:=qS h hs
 obtain ⟨hl,hm⟩:=bf hs.2
 unfold fV
 simp only[iN,T3 h hs,es,ae]
 cases b with
 | false=>exact ⟨(h,false),rfl,hs⟩
 | true =>
  obtain ⟨k8,-⟩:=k rfl
  simp only[if_true,(qT es ei (k rfl)).1,ae,Is]
  by_cases c:h.1<=v/\v<=IR h
  ·have c':=c
   unfold IR at c'
   rw[if_pos (decide_eq_true c),bH (n:=v - h.1) (by omega) (by omega),show chk (And (0<=v - h.1) (v - h.1<=(h.2.length:Int)))=some () from if_pos (by omega)]
   exact ⟨_,rfl,y8 (by rw[aY];omega) fun g hg=>hm g (List.mem_of_mem_drop hg)⟩
  ·rw[if_neg (by simpa using c)];exact ⟨(h,false),rfl,hs⟩
theorem aa4 {g:GrT} (hg:Data.sm g) (G:Yr g) {v:Int} (hv:1<=v/\v<=4):kh g v=some ((v,[g]),true):=by
 have hw:bc g=some true:=by
  obtain ⟨b,e,k⟩:=xj g (bf hg.1).1 (bf hg.2).1
  rw[ny,e,k.2 G]
 have hw:bc (g.1,g.2)=_:=hw
 obtain ⟨c,ec,kc⟩:=BF g.1 g.1 (bf hg.1).1
 obtain rfl:=kc.2 rfl
 have L:=aU (f:=cn (v,[g])) (fun i=>(i:Int)) 1 (fun i hi=>by
  obtain rfl:i=0:=by omega
  unfold cn
  have g0:aQ [g] 0=some g:=by rw[az (by omega) (by simp)];rfl
  simp only[au,ax,Int.natCast_zero,g0,ae,hw,ec,if_true]
  rfl) (by
  unfold cn
  rfl) (lu (by omega))
 have L:aA (cn (v,[g])) aT 0=_:=L
 have hvh:a8 (v,[g])=some true:=by
  unfold a8
  rw[ai L,Is,Is];simp only[ae]
  have ew:i64.wrap (i64.wrap (999 - ((0+1:Nat):Int))+1)=999:=by decide
  rw[if_pos (decide_eq_true (show (1:Int)<=(([g] :List GrT).length:Int)/\(([g] :List GrT).length:Int)<=8 by simp))]
  refine congrArg some (decide_eq_true ⟨hv.1,?_⟩)
  show v<=i64.wrap (i64.wrap (999 - ((0+1:Nat):Int))+1)
  rw[ew];omega
 unfold kh
 simp only[iN,rB g hg,ae]
 rw[hvh];rfl
end D
namespace D
open Go.RowKit
section
variable {xs:List Int} {i h:Int}
theorem YQ (hl:xs.length<=1048576) (hc:iZ xs i) (g:GrT): ∃r:YN×Int×Int,qp (xs,i,h) g=some r/\iZ xs r.2.1:=by
 unfold qp
 simp only
 obtain ⟨r4,e4,-,k4⟩:=bR (h:=h) hl hc (n:=40) (by omega)
 rw[e4];simp only[ae]
 obtain ⟨r5,e5,-,k5⟩:=bR (h:=r4.2.2) hl k4 (n:=Max.max 1 (g.1.length:Int)) (by omega)
 rw[e5];simp only[ae]
 obtain ⟨r6,e6,-,k6⟩:=bR (h:=r5.2.2) hl k5 (n:=Max.max 1 (g.1.length:Int)) (by omega)
 rw[e6];simp only[ae]
 obtain ⟨r7,e7,-,k7⟩:=bR (h:=r6.2.2) hl k6 (n:=3) (by omega)
 rw[e7];simp only[ae]
 obtain ⟨r8,e8,-,k8⟩:=bR (h:=r7.2.2) hl k7 (n:=16) (by omega)
 rw[e8];simp only[ae]
 by_cases c0:(r8.1==0)=true
 ·rw[if_pos c0]
  obtain ⟨q,eq,-,kq⟩:=dI (h:=r8.2.2) hl k8 (l:=[0,99,100]) (by simp)
  rw[eq]
  exact ⟨_,rfl,kq⟩
 ·rw[if_neg c0]
  by_cases c1:(r8.1==1)=true
  ·rw[if_pos c1]
   obtain ⟨q,eq,-,kq⟩:=dI (h:=r8.2.2) hl k8 (l:=[(-1),5]) (by simp)
   rw[eq]
   exact ⟨_,rfl,kq⟩
  ·rw[if_neg c1]
   by_cases c2:(r8.1==2)=true
   ·rw[if_pos c2]
    obtain ⟨q,eq,-,kq⟩:=dI (h:=r8.2.2) hl k8 (l:=[(-1),3]) (by simp)
    rw[eq]
    exact ⟨_,rfl,kq⟩
   ·rw[if_neg c2]
    exact ⟨_,rfl,k8⟩
abbrev BaS:=Int×Int×List Int×List YN×List PI
def WX (xs:List Int) (n:Nat) (s:BaS):Prop:=iZ xs s.1/\Data.sm ((s.2.2.1,s.2.2.2.1):GrT)/\s.2.2.2.2.length<=n
theorem EY (hl:xs.length<=1048576) (hc:iZ xs i) {x:GrT} (hx:Data.sm x) {B:List PI} (hB:B.length<=1000) (d:PI): ∃s:BaS,((eS (x.1,x.2) [(d.1,d.2.1,d.2.2.1,d.2.2.2.1,d.2.2.2.2)]).bind fun r18=>if r18.2 then ((bM 40 B [(d.1,d.2.1,d.2.2.1,d.2.2.2.1,d.2.2.2.2)]).bind fun z19=>some (i,h,r18.1.1,r18.1.2,z19)) else ((bu (xs,i,h) 12).bind fun r20=>if r20.1 then ((bM 40 B [(d.1,d.2.1,d.2.2.1,d.2.2.2.1,d.2.2.2.2)]).bind fun z21=>some (r20.2.1,r20.2.2,r18.1.1,r18.1.2,z21)) else (some (r20.2.1,r20.2.2,x.1,x.2,B))))=some s/\WX xs (B.length+1) s:=by
 obtain ⟨r,e,hr⟩:=Ku x hx [(d.1,d.2.1,d.2.2.1,d.2.2.2.1,d.2.2.2.2)]
 have e:eS (x.1,x.2) [(d.1,d.2.1,d.2.2.1,d.2.2.2.1,d.2.2.2.2)] =_:=e
 have ea:bM 40 B [(d.1,d.2.1,d.2.2.1,d.2.2.2.1,d.2.2.2.2)] =some (B++ [(d.1,d.2.1,d.2.2.1,d.2.2.2.1,d.2.2.2.2)]):=aH (by simp only[au,ax];omega)
 rw[e];simp only[ae]
 rw[ea];simp only[ae]
 by_cases c:r.2=true
 ·rw[if_pos c]
  exact ⟨_,rfl,hc,hr,by simp⟩
 ·rw[if_neg c]
  obtain ⟨q,eq,kq⟩:=qU (h:=h) hl hc (n:=12) (by omega)
  rw[eq];simp only[ae]
  by_cases c2:q.1=true
  ·rw[if_pos c2]
   exact ⟨_,rfl,kq,hr,by simp⟩
  ·rw[if_neg c2]
   exact ⟨_,rfl,kq,hx,by show B.length<=_;omega⟩
theorem Sz (hl:xs.length<=1048576) (hc:iZ xs i) {p:List Int×Int×Int} (hp:p.1=xs) {x:GrT} (hx:Data.sm x) {B:List PI} (hB:B.length<=1000) {n:Nat} (hn:n+1<1000): ∃s:BaS,iI p (((n+1:Nat):Int),i,h,x.1,x.2,B)=some (.nxt ((n:Int),s.1,s.2.1,s.2.2.1,s.2.2.2.1,s.2.2.2.2))/\WX xs (B.length+1) s:=by
 subst hp
 unfold iI
 simp only
 rw[if_pos (decide_eq_true (show ((n+1:Nat):Int)>0 by omega)),show i64.wrap (((n+1:Nat):Int) - 1)=(n:Int) from by rw[bH (by omega) (by omega)];omega]
 obtain ⟨r5,e5,k5⟩:=YQ (h:=h) hl hc x
 have e5:qp (p.1,i,h) (x.1,x.2)=_:=e5
 rw[e5];simp only[ae]
 suffices hs: ∀(o:Option BaS),(∃s,o=some s/\WX p.1 (B.length+1) s)-> ∃s:BaS,(o.bind fun s40=>some (Out.nxt ((n:Int),s40.1,s40.2.1,s40.2.2.1,s40.2.2.2.1,s40.2.2.2.2):Out ((List PI)×Int×Int) (Int×BaS)))=some (.nxt ((n:Int),s.1,s.2.1,s.2.2.1,s.2.2.2.1,s.2.2.2.2))/\WX p.1 (B.length+1) s by
  refine hs _ ?_
  have part2: ∀ {i h:Int} (_:iZ p.1 i) (d:PI),∃s:BaS,(if decide ((B.length:Int)>0)=true then ((bu (p.1,i,h) 4).bind fun r12=>Option.bind ((if r12.1 then ((aQ B (i64.wrap ((B.length:Int) - 1))).bind fun x13=>some (cond.match_1 (fun (u14:Bool)=>Bool) x13.1 (fun (u15:Unit)=>false) (fun (u16:Unit)=>true),x13.2.1,x13.2.2.1,x13.2.2.2.1,x13.2.2.2.2)) else (some (d.1,d.2.1,d.2.2.1,d.2.2.2.1,d.2.2.2.2)):Option PX)) (fun s17=>(eS (x.1,x.2) ([(s17.1,s17.2.1,s17.2.2.1,s17.2.2.2.1,s17.2.2.2.2)])).bind fun r18=>if r18.2 then ((bM 40 B ([(s17.1,s17.2.1,s17.2.2.1,s17.2.2.2.1,s17.2.2.2.2)])).bind fun z19=>some (r12.2.1,r12.2.2,r18.1.1,r18.1.2,z19)) else ((bu (p.1,r12.2.1,r12.2.2) 12).bind fun r20=>if r20.1 then ((bM 40 B ([(s17.1,s17.2.1,s17.2.2.1,s17.2.2.2.1,s17.2.2.2.2)])).bind fun z21=>some (r20.2.1,r20.2.2,r18.1.1,r18.1.2,z21)) else (some (r20.2.1,r20.2.2,x.1,x.2,B))))) else ((eS (x.1,x.2) ([(d.1,d.2.1,d.2.2.1,d.2.2.2.1,d.2.2.2.2)])).bind fun r22=>if r22.2 then ((bM 40 B ([(d.1,d.2.1,d.2.2.1,d.2.2.2.1,d.2.2.2.2)])).bind fun z23=>some (i,h,r22.1.1,r22.1.2,z23)) else ((bu (p.1,i,h) 12).bind fun r24=>if r24.1 then ((bM 40 B ([(d.1,d.2.1,d.2.2.1,d.2.2.2.1,d.2.2.2.2)])).bind fun z25=>some (r24.2.1,r24.2.2,r22.1.1,r22.1.2,z25)) else (some (r24.2.1,r24.2.2,x.1,x.2,B)))))=some s/\WX p.1 (B.length+1) s:=by
   intro i h hc d
   by_cases cb:(B.length:Int)>0
   ·rw[if_pos (by simpa using cb)]
    obtain ⟨q,eq,kq⟩:=qU (h:=h) hl hc (n:=4) (by omega)
    rw[eq];simp only[ae]
    by_cases c2:q.1=true
    ·rw[if_pos c2,bH (by omega) (by omega),az (by omega) (by omega)];simp only[ae]
     exact EY hl kq hx hB (cond.match_1 (fun (u14:Bool)=>Bool) (nth B ((B.length:Int) - 1)).1 (fun (u15:Unit)=>false) (fun (u16:Unit)=>true),(nth B ((B.length:Int) - 1)).2)
    ·rw[if_neg c2];simp only[ae]
     exact EY hl kq hx hB d
   ·rw[if_neg (by simpa using cb)]
    exact EY hl hc hx hB d
  by_cases c1:(x.2.length:Int)>0
  ·rw[if_pos (by simpa using c1)]
   obtain ⟨q,eq,kq⟩:=qU (h:=r5.2.2) hl k5 (n:=2) (by omega)
   rw[eq];simp only[ae]
   by_cases c2:q.1=true
   ·rw[if_pos c2]
    obtain ⟨w,ew,hw,kw⟩:=bR (h:=q.2.2) hl kq (n:=(x.2.length:Int)) c1
    rw[ew];simp only[ae]
    rw[az hw.1 hw.2];simp only[ae]
    exact part2 kw (false,nth x.2 w.1)
   ·rw[if_neg c2];simp only[ae]
    exact part2 kq (true,r5.1)
  ·rw[if_neg (by simpa using c1)]
   exact part2 k5 (true,r5.1)
 rintro o ⟨s,rfl,hs⟩
 exact ⟨s,rfl,hs⟩
theorem Kv (hl:xs.length<=1048576) {p:List Int×Int×Int} (hp:p.1=xs): ∀(n:Nat) (f:Nat) {i h:Int} {x:GrT} {B:List PI},n<900->n<f->iZ xs i->Data.sm x->B.length+n<=900-> ∃s:BaS,aA (iI p) f ((n:Int),i,h,x.1,x.2,B)=some (.brk (0,s))/\WX xs (B.length+n) s
 | 0,f+1,i,h,x,B,_,_,hc,hx,hb=>by
  refine ⟨(i,h,x.1,x.2,B),?_,hc,hx,aG _⟩
  have:iI p (((0:Nat):Int),i,h,x.1,x.2,B)=some (.brk (0,i,h,x.1,x.2,B)):=by
   unfold iI
   simp only
   rw[if_neg (by simp)];rfl
  rw[aA,this]
 | n+1,f+1,i,h,x,B,hn,hf,hc,hx,hb=>by
  obtain ⟨s,e,h1,h2,h3⟩:=Sz (h:=h) hl hc hp hx (B:=B) (by omega) (n:=n) (by omega)
  obtain ⟨t,e2,h4,h5,h6⟩:=Kv hl hp n f (h:=s.2.1) (x:=(s.2.2.1,s.2.2.2.1)) (B:=s.2.2.2.2) (by omega) (by omega) h1 h2 (by omega)
  refine ⟨t,?_,h4,h5,by omega⟩
  rw[aA,e]
  exact e2
theorem WB (hl:xs.length<=1048576) (hc:iZ xs i) {g:GrT} (hg:Data.sm g) {m:Nat} (hm:m<=8): ∃r:(List PI)×Int×Int,oP (xs,i,h) g (m:Int)=some r/\r.1.length<=m/\iZ xs r.2.1:=by
 unfold oP
 simp only
 have ec:bY (g.1,g.2)=_:=rB g hg
 rw[ec,bH (by omega) (by omega)];simp only[ae]
 obtain ⟨r,e,hr,kr⟩:=bR (h:=h) hl hc (n:=(m:Int)+1) (by omega)
 rw[e];simp only[ae]
 obtain ⟨k,hk⟩: ∃k:Nat,r.1=(k:Int):=⟨r.1.toNat,by omega⟩
 obtain ⟨s,es,h1,h2,h3⟩:=Kv hl (p:=(xs,i,h)) rfl k aT (h:=r.2.2) (x:=g) (B:=[]) (by omega) (by unfold aT;omega) kr hg (by simp only[ax];omega)
 rw[hk,ai es]
 exact ⟨_,rfl,by have:s.2.2.2.2.length<=0+k:=h3;show s.2.2.2.2.length<=m;omega,h1⟩
end
end D
set_option synthInstance.maxSize 20000
set_option synthInstance.maxHeartbeats 2000000
namespace D
open Go.RowKit
def prQ (q:QT):Int×List Tok:=(q.1,q.2.1)
theorem PJ {qs ps:List QT} (h:qs.map prQ=ps.map prQ) (i:Int):(aQ qs i=none/\aQ ps i=none)\/ ∃x y,aQ qs i=some x/\aQ ps i=some y/\x.1=y.1/\x.2.1=y.2.1:=by
 have hl:qs.length=ps.length:=by
  have:=congrArg List.length h
  simpa using this
 by_cases c:0<=i/\i<qs.length
 ·refine .inr ⟨nth qs i,nth ps i,az c.1 c.2,az c.1 (by omega),?_⟩
  obtain ⟨k,rfl⟩: ∃k:Nat,i=(k:Int):=⟨i.toNat,by omega⟩
  rw[cw (by omega),cw (by omega)]
  have h1:(qs.map prQ)[k]'(by simp;omega)=(ps.map prQ)[k]'(by simp;omega):=by simp only[h]
  simp only[List.getElem_map,prQ,Prod.mk.injEq] at h1
  exact h1
 ·have:aQ qs i=none:=by
   unfold aQ
   split
   ·rename_i h0
    rw[List.getElem?_eq_none];omega
   ·rfl
  have h2:aQ ps i=none:=by
   unfold aQ
   split
   ·rename_i h0
    rw[List.getElem?_eq_none];omega
   ·rfl
  exact .inl ⟨this,h2⟩
theorem PK {qs ps:List QT} (h:qs.map prQ=ps.map prQ):bA qs=bA ps:=by
 have hl:qs.length=ps.length:=by
  have:=congrArg List.length h
  simpa using this
 funext s
 unfold bA
 rw[hl]
 rcases PJ h s.1 with ⟨e1,e2⟩ | ⟨x,y,e1,e2,k1,k2⟩
 ·simp only[e1,e2,Option.bind_none]
 ·rcases PJ h (i64.wrap (s.1 - 1)) with ⟨f1,f2⟩ | ⟨u,v,f1,f2,j1,j2⟩
  ·simp only[e1,e2,f1,f2,ae,Option.bind_none,k1,k2]
  ·simp only[e1,e2,f1,f2,ae,k1,k2,j1,j2]
theorem SA {qs ps:List QT} (h:qs.map prQ=ps.map prQ):cH qs=cH ps:=by
 have hl:qs.length=ps.length:=by
  have:=congrArg List.length h
  simpa using this
 unfold cH
 rw[PK h,hl]
theorem WC (l:List AutT) (a:AutT) (hl:l.length<=1048576) (hs: ∀x∈l,Data.sm x):(fg l a=some (-1)/\ ¬a∈l)\/ ∃(i:Nat) (hi:i<l.length),fg l a=some (i:Int)/\l[i] =a:=by
 have hf:=yt (f:=eE l a) l (fun u=>decide (u=a)) (fun i=>(i:Int)) (by omega) (fun i h=>by
  simp only[eE,cF h,if_true,aM h,ae,iN,vH l[i] a (hs _ (List.getElem_mem h)),ah (show i<9223372036854775807 by omega)]
  by_cases c:l[i] =a <;> simp[c]) (by simp only[eE,cm];rfl)
 unfold fg
 rcases hf with ⟨i,hi,h1,-,e⟩ | ⟨h1,e⟩
 ·rw[bs e]
  exact .inr ⟨i,hi,rfl,of_decide_eq_true h1⟩
 ·rw[ai e]
  exact .inl ⟨rfl,fun h=>by simpa using h1 a h⟩
structure BIn (qs:List QT) (i:Nat) (A:List AutT) (Q:List QT):Prop where
 le:i<=qs.length
 pr:Q.map prQ=(qs.take i).map prQ
 len:A.length<=i
 sm: ∀a∈A,Data.sm a
 at_: ∀q∈Q,∃(j:Nat) (hj:j<A.length),q.2.2=(j:Int)/\m_s_CompileExpr q.2.1=some (A[j],true)
 nd:A.Nodup
 cmp: ∀a∈A,∃e:List Tok,e.length<=1048576/\m_s_CompileExpr e=some (a,true)
 rng: ∀j (hj:j<qs.length),j<i->1<=qs[j].1/\qs[j].1<=99
 asc: ∀j (hj:j+1<qs.length),j+1<i->qs[j].1<qs[j+1].1
theorem SB {qs:List QT} (hq:Data.sm qs) {i:Nat} {A:List AutT} {Q:List QT} (hB:BIn qs i A Q) (hi:i<qs.length) :
  bA qs ((i:Int),A,Q)=some (.ret (([],[]),false))\/ ∃A' Q',bA qs ((i:Int),A,Q)=some (.nxt (((i+1:Nat):Int),A',Q'))/\BIn qs (i+1) A' Q':=by
 obtain ⟨hn,hs⟩:=bf hq
 have hqi:=hs _ (List.getElem_mem hi)
 have hQl:Q.length=i:=by
  have:=congrArg List.length hB.pr
  simp only[List.length_map,aB] at this
  omega
 have hAl:=hB.len
 obtain ⟨r,es,-,hr⟩:=BL (e:=qs[i].2.1) hqi.2.1.1
 have a1:bM 56 A [r.1] =some (A++ [r.1]):=aH (by simp;omega)
 have a2: ∀y,bM 40 Q [y] =some (Q++ [y]):=fun y=>aH (by simp;omega)
 have a3:fM qs[i].2.1=some qs[i].2.1:=by unfold fM;rw[aH (by have:=hqi.2.1.1;simp;omega)];rfl
 have hpr: ∀k:Int,(Q++ [(qs[i].1,qs[i].2.1,k)]).map prQ=(qs.take (i+1)).map prQ:=fun k=>by
  rw[aN,hB.pr,List.take_succ_eq_append_getElem hi,aN];rfl
 have main:r.2=true->(1<=qs[i].1/\qs[i].1<=99)->(∀h:0<i,qs[i - 1].1<qs[i].1)-> ∃k A',(k= -1/\A'=A++ [r.1] \/ ∃j:Nat,k=(j:Int)/\A'=A)/\fg A r.1=some k/\BIn qs (i+1) A' (Q++ [(qs[i].1,qs[i].2.1,if k<0 then (A.length:Int) else k)]):=fun c1 c2 c3=>by
  have hrt:m_s_CompileExpr qs[i].2.1=some (r.1,true):=by rw[es,<-c1]
  have hrng: ∀j (hj:j<qs.length),j<i+1->1<=qs[j].1/\qs[j].1<=99:=fun j hj hji=>by
   by_cases e:j=i
   ·subst e;exact c2
   ·exact hB.rng j hj (by omega)
  have hasc: ∀j (hj:j+1<qs.length),j+1<i+1->qs[j].1<qs[j+1].1:=fun j hj hji=>by
   by_cases e:j+1=i
   ·subst e
    exact c3 (by omega)
   ·exact hB.asc j hj (by omega)
  rcases WC A r.1 (by omega) hB.sm with ⟨e,hno⟩ | ⟨j,hj,e,hja⟩
  ·refine ⟨-1,A++ [r.1],.inl ⟨rfl,rfl⟩,e,by omega,hpr _,by simp;omega,fun a ha=>?_,fun q hq'=>?_,?_,fun a ha=>?_,hrng,hasc⟩
   ·rcases aI ha with ha | ha
    ·exact hB.sm a ha
    ·rw[aw ha];exact hr
   ·rcases aI hq' with hq' | hq'
    ·obtain ⟨j,hj,k1,k2⟩:=hB.at_ q hq'
     exact ⟨j,by simp;omega,k1,by rw[List.getElem_append_left hj];exact k2⟩
    ·rw[aw hq']
     exact ⟨A.length,by simp,rfl,by simpa using hrt⟩
   ·rw[List.nodup_append]
    refine ⟨hB.nd,by simp,fun a ha b hb=>?_⟩
    rw[aw hb]
    rintro rfl;exact hno ha
   ·rcases aI ha with ha | ha
    ·exact hB.cmp a ha
    ·rw[aw ha];exact ⟨_,hqi.2.1.1,hrt⟩
  ·refine ⟨(j:Int),A,.inr ⟨j,rfl,rfl⟩,e,by omega,hpr _,by omega,hB.sm,fun q hq'=>?_,hB.nd,hB.cmp,hrng,hasc⟩
   rcases aI hq' with hq' | hq'
   ·exact hB.at_ q hq'
   ·rw[aw hq']
    exact ⟨j,hj,(by show (if (j:Int)<0 then (A.length:Int) else (j:Int))=(j:Int);exact if_neg (by omega)),by rw[hja];exact hrt⟩
 have fin:r.2=true->(1<=qs[i].1/\qs[i].1<=99)->(∀h:0<i,qs[i - 1].1<qs[i].1)-> ∃A' Q',(((fg A r.1).bind fun r22=>Option.bind ((if decide (r22<0) then ((bM 56 A ([r.1])).bind fun z14=>some ((A.length:Int),z14,Q)) else (some (r22,A,Q)):Option (Int×List AutT×List QT))) (fun s9=>(bM 40 s9.2.2 ([(qs[i].1,qs[i].2.1,s9.1)])).bind fun z15=>some (Out.nxt (((i+1:Nat):Int),s9.2.1,z15)))):Option (Out (qd×Bool) (Int×List AutT×List QT)))=some (.nxt (((i+1:Nat):Int),A',Q'))/\BIn qs (i+1) A' Q':=fun c1 c2 c3=>by
  obtain ⟨k,A',hk,e,hB'⟩:=main c1 c2 c3
  refine ⟨A',_,?_,hB'⟩
  rw[e];simp only[ae]
  rcases hk with ⟨rfl,rfl⟩ | ⟨j,rfl,rfl⟩
  ·rw[if_pos (show decide ((-1:Int)<0)=true from rfl),a1,if_pos (show (-1:Int)<0 from by decide)];simp only[ae,a2]
  ·have h0: ¬(j:Int)<0:=by omega
   rw[if_neg (show¬decide ((j:Int)<0)=true by simpa using h0),if_neg h0];simp only[ae,a2]
 unfold bA
 simp only[cF hi,if_true,aM hi,ae,es,Is,iN,a3,ah (show i<9223372036854775807 by omega)]
 by_cases c1:r.2=true
 case neg =>
  simp only[c1,Bool.false_eq_true,if_false];exact .inl trivial
 simp only[c1,if_true]
 by_cases c2:1<=qs[i].1/\qs[i].1<=99
 case neg =>
  simp only[c2,decide_false,Bool.false_eq_true,if_false];exact .inl trivial
 simp only[c2,and_self,decide_true,if_true]
 by_cases c3:(i:Int)>0
 ·have hp:i - 1<qs.length:=by omega
  have hw:i64.wrap ((i:Int) - 1)=((i - 1:Nat):Int):=by rw[nt (by omega)];omega
  simp only[c3,decide_true,if_true,hw,aM hp,ae]
  by_cases c4:qs[i - 1].1≥qs[i].1
  ·simp only[c4,decide_true,if_true];exact .inl (by first | trivial | rfl | simp)
  ·simp only[c4,decide_false,Bool.false_eq_true,if_false]
   exact .inr (fin c1 c2 fun _=>by omega)
 ·simp only[c3,decide_false,Bool.false_eq_true,if_false]
  exact .inr (fin c1 c2 fun h=>absurd (by omega) c3)
theorem Kw {qs:List QT} (hq:Data.sm qs) {x:qd} (e:cH qs=some (x,true)):qs.length<=4/\BIn qs qs.length x.1 x.2:=by
 unfold cH at e
 by_cases c:(qs.length:Int)>4
 ·rw[if_pos (decide_eq_true c)] at e
  simp at e
 rw[if_neg (by simpa using c)] at e
 refine ⟨by omega,?_⟩
 obtain ⟨o,e2,ho⟩:=cz (f:=bA qs) (fun i s=> ∃A Q,s=((i:Int),A,Q)/\BIn qs i A Q) (fun o=>o= .ret (([],[]),false)\/ ∃A Q,o= .brk ((qs.length:Int),A,Q)/\BIn qs qs.length A Q) qs.length (fun i s hi hI=>by
  obtain ⟨A,Q,rfl,hB⟩:=hI
  by_cases h:i<qs.length
  ·rcases SB hq hB h with e | ⟨A',Q',e,hB'⟩
   ·exact .inr ⟨_,e,(fun s' h=>by simp at h),.inl rfl⟩
   ·exact .inl ⟨h,_,e,A',Q',rfl,hB'⟩
  ·obtain rfl:i=qs.length:=by have:=hB.le;omega
   refine .inr ⟨.brk ((qs.length:Int),A,Q),?_,(fun s' h=>by simp at h),.inr ⟨A,Q,rfl,hB⟩⟩
   unfold bA
   simp only[cm,Bool.false_eq_true,if_false]) (s:=(0,[],[])) ⟨[],[],rfl,Nat.zero_le _,rfl,aG _,(fun _ h=>by cases h),(fun _ h=>by cases h),List.nodup_nil,(fun _ h=>by cases h),(fun j hj h=>absurd h (Nat.not_lt_zero _)),(fun j hj h=>absurd h (Nat.not_lt_zero _))⟩ (gx _ (by omega))
 rw[e2] at e
 rcases ho with rfl | ⟨A,Q,rfl,hB⟩
 ·simp[aO] at e
 ·simp only[aO,Option.some.injEq,Prod.mk.injEq] at e
  obtain ⟨rfl,-⟩:=e
  exact hB
end D
set_option synthInstance.maxSize 20000
set_option synthInstance.maxHeartbeats 2000000
namespace D
open Go.RowKit
theorem WD (r:qd) (hr:Data.sm r):mr r=some r:=by
 obtain ⟨h1,h2⟩:=bf hr.1
 obtain ⟨h3,h4⟩:=bf hr.2
 unfold mr
 have a:=aU (f:=ke r) (fun i=>((i:Int),r.1.take i,([] :List QT))) r.1.length (fun i hi=>by
  unfold ke
  simp only[cF hi,if_true,aM hi,ae,iN,Pf _ (h2 _ (List.getElem_mem hi)),ah (show i<9223372036854775807 by omega)]
  rw[aH (by simp;omega)]
  simp only[ae]
  rw[List.take_succ_eq_append_getElem hi]) (by
  unfold ke
  simp only[cm,Bool.false_eq_true,if_false]) (gx _ (by omega))
 have e:aA (ke r) aT (0,[],[])=_:=a
 rw[e]
 simp only[aO,List.take_length]
 have a:=aU (f:=kg r) (fun i=>((i:Int),r.1,r.2.take i)) r.2.length (fun i hi=>by
  unfold kg
  have c:fM r.2[i].2.1=some r.2[i].2.1:=by unfold fM;rw[aH (by have:=(h4 _ (List.getElem_mem hi)).2.1.1;simp;omega)];rfl
  simp only[cF hi,if_true,aM hi,ae,iN,c,ah (show i<9223372036854775807 by omega)]
  rw[aH (by simp;omega)]
  simp only[ae]
  rw[List.take_succ_eq_append_getElem hi]) (by
  unfold kg
  simp only[cm,Bool.false_eq_true,if_false]) (gx _ (by omega))
 have e:aA (kg r) aT (0,r.1,[])=_:=a
 rw[e]
 simp only[List.take_length]
theorem PL {r:qd} (hr:Data.sm r) (h:dR r=some true):r.2.length<=4:=by
 obtain ⟨x,b,e1,e2,hx⟩:=zN hr.2
 unfold dR at h
 rw[e2] at h
 by_cases c:(r.2.length:Int)<=4
 ·omega
 ·simp[c] at h
end D
set_option synthInstance.maxSize 20000
set_option synthInstance.maxHeartbeats 2000000
namespace D
open Go.RowKit
theorem T4 {α:Type} [Data α] {xs:List α} {y:α} (h:Data.sm xs) (hy:Data.sm y) (i:Nat) (hl:xs.length<=1048575):Data.sm (xs.take i++([y] ++xs.drop i)):=by
 obtain ⟨h1,h2⟩:=bf h
 refine ⟨?_,fun x hx=>?_⟩
 ·simp only[aj,aB,aY,au,ax];omega
 ·rcases aI hx with hx | hx
  ·exact h2 _ (List.mem_of_mem_take hx)
  ·rcases aI hx with hx | hx
   ·rw[aw hx];exact hy
   ·exact h2 _ (List.mem_of_mem_drop hx)
end D
set_option synthInstance.maxSize 20000
set_option synthInstance.maxHeartbeats 2000000
namespace D
open Go.RowKit
end D
set_option synthInstance.maxSize 20000
set_option synthInstance.maxHeartbeats 2000000
namespace D
open Go.RowKit
theorem IV {r:qd} (hr:Data.sm r):cq r=some true↔cH r.2=some (r,true):=by
 obtain ⟨x,b,e1,-,hx⟩:=zN hr.2
 unfold cq
 by_cases c:(r.2.length:Int)>4
 ·rw[if_pos c] at e1
  rw[e1];simp
 ·rw[if_neg c] at e1
  rw[e1];simp only[ae,iN]
  cases b with
  | false=>simp
  | true =>
   simp only[if_true]
   rw[xi x r hx.1];simp only[ae,Option.some.injEq,decide_eq_true_eq,Prod.mk.injEq,and_true]
theorem WE {r:qd} (hr:Data.sm r) (id:Int) {e:List Tok} (he:Data.sm e): ∃x:qd×Bool,gN r id e=some x/\Data.sm x.1/\(x.2=true->cH r.2=some (r,true)/\ ∃i:Nat,i<=r.2.length/\cH (r.2.take i++([(id,e,0)] ++r.2.drop i))=some (x.1,true))/\(x.2=false->x.1=r):=by
 obtain ⟨hn,hq⟩:=bf hr.2
 obtain ⟨k,f1,f2,hk⟩:=BN r id hn
 obtain ⟨b,v1,v2,hv⟩:=yp hr
 have hvb:=IV hr
 unfold gN
 simp only[f1,v1,ae,iN,WD r hr]
 cases b with
 | false=>exact ⟨(r,false),rfl,hr,(fun h=>by cases h),fun _=>rfl⟩
 | true =>
  have hvb:=hvb.1 v1
  simp only[if_true]
  by_cases hk0:k≥0
  ·exact ⟨(r,false),by simp[hk0],hr,(fun h=>by cases h),fun _=>rfl⟩
  ·have h4:=PL hr v2
   have hk0:decide (k≥0)=false:=by simpa using hk0
   simp only[hk0,Bool.false_eq_true,if_false]
   have lp: ∀f:Int->Option (Out (qd×Bool) Int),(∀s,f s=if decide (s<(r.2.length:Int)) then ((aQ r.2 s).bind fun x5=>if decide (x5.1<id) then (some (.nxt (i64.wrap (s+1)))) else (some (.brk s))) else (some (.brk s)))-> ∃i:Nat,i<=r.2.length/\aA f aT 0=some (.brk (i:Int)):=by
    intro f hf
    obtain ⟨o,e,i,hi,rfl⟩:=cz (f:=f) (fun i s=>s=(i:Int)) (fun o=> ∃i:Nat,i<=r.2.length/\o= .brk (i:Int)) r.2.length (fun i s hi hI=>by
     subst hI
     rw[hf]
     by_cases h1:i<r.2.length
     ·simp only[cF h1,if_true,aM h1,ae,ah (show i<9223372036854775807 by omega)]
      by_cases h2:r.2[i].1<id
      ·exact .inl ⟨h1,_,by simp[h2],rfl⟩
      ·exact .inr ⟨.brk (i:Int),by simp[h2],(fun s' e=>by cases e),i,hi,rfl⟩
     ·obtain rfl:i=r.2.length:=by omega
      exact .inr ⟨.brk (r.2.length:Int),by simp only[cm,Bool.false_eq_true,if_false],(fun s' e=>by cases e),_,hi,rfl⟩) (s:=0) rfl (gx _ (by omega))
    exact ⟨i,hi,e⟩
   obtain ⟨i,hi,l1⟩:=lp (nI r id) (fun s=>rfl)
   simp only[l1,aO]
   have hy:Data.sm ((id,e,(0:Int)):QT):=⟨trivial,he,trivial⟩
   have hs:=T4 (y:=((id,e,(0:Int)):QT)) hr.2 hy i (by omega)
   obtain ⟨x,c,e1,e2,hx⟩:=zN hs
   have e1':=e1
   have q1:(chk (0<=(i:Int)/\(i:Int)<=(r.2.length:Int)))=some ():=if_pos (by omega)
   have a1:bM 40 ([] :List QT) (r.2.take i)=some (r.2.take i):=by rw[aH (by simp only[ax,aB];omega)];rfl
   have a2:bM 40 (r.2.take i) [((id,e,(0:Int)):QT)] =some (r.2.take i++ [(id,e,0)]):=aH (by simp only[aB,au,ax];omega)
   have a3:bM 40 (r.2.take i++ [((id,e,(0:Int)):QT)]) (r.2.drop i)=some (r.2.take i++([(id,e,0)] ++r.2.drop i)):=by
    rw[aH (by simp only[aj,aB,aY,au,ax];omega),al]
   simp only[q1,ae,Int.toNat_natCast,a1,a2,a3,e1]
   by_cases hl:((r.2.take i++([((id,e,(0:Int)):QT)] ++r.2.drop i)).length:Int)>4
   ·have hl': ¬((r.2.take i++([((id,e,(0:Int)):QT)] ++r.2.drop i)).length:Int)<=4:=by omega
    simp only[hl,if_true,ae,Bool.false_eq_true,if_false,hl',decide_false,Bool.and_false]
    exact ⟨_,rfl,hr,(fun h=>by cases h),fun _=>rfl⟩
   ·have hl':((r.2.take i++([((id,e,(0:Int)):QT)] ++r.2.drop i)).length:Int)<=4:=by omega
    rw[if_neg hl] at e1'
    simp only[hl,if_false,ae,hl',decide_true,Bool.and_true]
    cases c with
    | true=>exact ⟨_,rfl,hx.1,fun _=>⟨hvb,i,hi,e1'⟩,fun c=>by cases c⟩
    | false=>exact ⟨_,rfl,hr,(fun h=>by cases h),fun _=>rfl⟩
theorem SC {qs:List QT} (hq:Data.sm qs) {x:qd} (e:cH qs=some (x,true)):x.2.map prQ=qs.map prQ/\x.2.length=qs.length/\cH x.2=some (x,true):=by
 obtain ⟨-,hB⟩:=Kw hq e
 have h1:=hB.pr
 rw[List.take_length] at h1
 refine ⟨h1,by simpa using congrArg List.length h1,?_⟩
 rw[SA h1];exact e
end D
namespace D
open Go.RowKit
theorem PN {l:List Tok} (h:l.length<=1048576):Data.sm l:=⟨h,fun _ _=>⟨trivial,trivial,trivial,trivial⟩⟩
section
variable {xs:List Int} {i h:Int}
theorem Hc (hl:xs.length<=1048576) {p:List Int×Int×Int} (hp:p.1=xs): ∀(n:Nat) (f:Nat) {i h:Int} {r:qd},n<900->n<f->iZ xs i->Data.sm r->r.1.length<=4->r.2.length<=4-> ∃s:Int×Int×qd,aA (eN p) f ((n:Int),i,h,r.1,r.2)=some (.brk (0,s.1,s.2.1,s.2.2.1,s.2.2.2))/\iZ xs s.1/\Data.sm s.2.2/\s.2.2.1.length<=4
 | 0,f+1,i,h,r,_,_,hc,hr,hb,_=>by
  refine ⟨(i,h,r),?_,hc,hr,hb⟩
  have:eN p (((0:Nat):Int),i,h,r.1,r.2)=some (.brk (0,i,h,r.1,r.2)):=by
   unfold eN
   simp only
   rw[if_neg (by simp)];rfl
  rw[aA,this]
 | n+1,f+1,i,h,r,hn,hf,hc,hr,hb,hb2=>by
  obtain ⟨r7,e7,-,k7⟩:=bR (h:=h) hl hc (n:=6) (by omega)
  obtain ⟨r8,e8,l8,k8⟩:=PH (h:=r7.2.2) hl k7
  obtain ⟨x,ex,hx,hx1,hx2⟩:=WE hr (i64.wrap (1+r7.1)) (e:=r8.1) (PN (by omega))
  have hxl:x.1.1.length<=4/\x.1.2.length<=4:=by
   cases hk:x.2 with
   | false=>rw[hx2 hk];exact ⟨hb,hb2⟩
   | true =>
    obtain ⟨-,i0,hi0,e3⟩:=hx1 hk
    have h8:Data.sm r8.1:=PN (by omega)
    have hins:=T4 (y:=((i64.wrap (1+r7.1),r8.1,(0:Int)):QT)) hr.2 ⟨trivial,h8,trivial⟩ i0 (by omega)
    obtain ⟨q4,hB⟩:=Kw hins e3
    have:=hB.len
    have:=(SC hins e3).2.1
    omega
  have ex:gN (r.1,r.2) (i64.wrap (1+r7.1)) r8.1=_:=ex
  obtain ⟨t,e2,h4,h5⟩:=Hc hl hp n f (h:=r8.2.2) (r:=x.1) (by omega) (by omega) k8 hx hxl.1 hxl.2
  refine ⟨t,?_,h4,h5⟩
  have:eN p (((n+1:Nat):Int),i,h,r.1,r.2)=some (.nxt ((n:Int),r8.2.1,r8.2.2,x.1.1,x.1.2)):=by
   unfold eN
   simp only
   rw[if_pos (decide_eq_true (show ((n+1:Nat):Int)>0 by omega)),hp,e7];simp only[ae]
   rw[e8];simp only[ae]
   rw[ex];simp only[ae]
   rw[show i64.wrap (((n+1:Nat):Int) - 1)=(n:Int) from by rw[bH (by omega) (by omega)];omega]
  rw[aA,this]
  exact e2
theorem WG:Data.sm (([],[]):qd):=⟨⟨Nat.zero_le _,fun _ h=>by cases h⟩,Nat.zero_le _,fun _ h=>by cases h⟩
theorem Dv (hl:xs.length<=1048576) (hc:iZ xs i): ∃r:qd×Int×Int,jj (xs,i,h)=some r/\(Data.sm r.1/\r.1.1.length<=4)/\iZ xs r.2.1:=by
 unfold jj
 simp only
 obtain ⟨r,e,hr,kr⟩:=bR (h:=h) hl hc (n:=3) (by omega)
 rw[e];simp only[ae]
 obtain ⟨k,hk⟩: ∃k:Nat,i64.wrap (1+r.1)=(k:Int):=⟨(1+r.1).toNat,by rw[bH (by omega) (by omega)];omega⟩
 have hk3:k<=3:=by
  rw[bH (by omega) (by omega)] at hk;omega
 obtain ⟨s,es,h1,h2⟩:=Hc hl (p:=(xs,i,h)) rfl k aT (h:=r.2.2) (r:=([],[])) (by omega) (by unfold aT;omega) kr WG (Nat.zero_le _) (Nat.zero_le _)
 rw[hk,ai es]
 exact ⟨_,rfl,h2,h1⟩
theorem YR (hl:xs.length<=1048576) (hc:iZ xs i): ∃r:qd×Int×Int,oi (xs,i,h)=some r/\Data.sm r.1/\iZ xs r.2.1:=by
 unfold oi
 simp only
 obtain ⟨r0,e0,s0,k0⟩:=Dv (h:=h) hl hc
 rw[e0];simp only[ae]
 obtain ⟨r1,e1,-,k1⟩:=bR (h:=r0.2.2) hl k0 (n:=16) (by omega)
 rw[e1];simp only[ae]
 obtain ⟨⟨sa,sq⟩,la⟩:=s0
 obtain ⟨hq,hqs⟩:=bf sq
 have hset: ∀y:QT,Data.sm y->Data.sm (r0.1.2.set 0 y):=fun y hy=>⟨by rw[List.length_set];exact hq,fun q h=>by
  rcases List.mem_or_eq_of_mem_set h with h | rfl
  ·exact hqs q h
  ·exact hy⟩
 by_cases c0:(r1.1==0)=true
 ·rw[if_pos c0]
  by_cases c:(r0.1.2.length:Int)>0
  ·rw[if_pos (decide_eq_true c)]
   obtain ⟨r4,e4,-,k4⟩:=bR (h:=r1.2.2) hl k1 (n:=3) (by omega)
   rw[e4];simp only[ae]
   rw[az (by omega) c]
   have hm:=hqs _ (bI (xs:=r0.1.2) (i:=0) (by omega) c)
   exact ⟨_,rfl,⟨sa,hset _ ⟨trivial,hm.2.1,trivial⟩⟩,k4⟩
  ·rw[if_neg (by simpa using c)]
   exact ⟨_,rfl,⟨sa,sq⟩,k1⟩
 ·rw[if_neg c0]
  by_cases c1:(r1.1==1)=true
  ·rw[if_pos c1]
   by_cases c:(r0.1.2.length:Int)>0
   ·rw[if_pos (decide_eq_true c)]
    obtain ⟨r8,e8,-,k8⟩:=dI (h:=r1.2.2) hl k1 (l:=[0,100,99]) (by simp)
    rw[e8];simp only[ae]
    rw[az (by omega) c]
    have hm:=hqs _ (bI (xs:=r0.1.2) (i:=0) (by omega) c)
    exact ⟨_,rfl,⟨sa,hset _ ⟨trivial,hm.2.1,hm.2.2⟩⟩,k8⟩
   ·rw[if_neg (by simpa using c)]
    exact ⟨_,rfl,⟨sa,sq⟩,k1⟩
  ·rw[if_neg c1]
   by_cases c2:(r1.1==2)=true
   ·rw[if_pos c2]
    obtain ⟨r12,e12,h12,k12⟩:=aab (h:=r1.2.2) hl k1
    rw[e12];simp only[ae]
    obtain ⟨ha,has⟩:=bf sa
    rw[aH (by simp only[au,ax];omega)]
    refine ⟨_,rfl,⟨⟨?_,fun a h=>?_⟩,sq⟩,k12⟩
    ·show (r0.1.1++ [(r12.1.1,r12.1.2.1,r12.1.2.2)]).length<=_
     rw[aj];simp only[au,ax];omega
    ·rcases aI h with h | h
     ·exact has a h
     ·rw[aw h];exact h12.sm
   ·rw[if_neg c2]
    exact ⟨_,rfl,⟨sa,sq⟩,k1⟩
end
theorem aad {xs:List Int} {i h:Int} (hl:xs.length<=1048576) (hc:iZ xs i) (r:qd): ∃q:Int×Int×Int,qm (xs,i,h) r=some q/\iZ xs q.2.1:=by
 unfold qm
 simp only
 by_cases c:(r.2.length:Int)>0
 ·rw[if_pos (by simpa using c)]
  obtain ⟨q,e,k⟩:=qU (h:=h) hl hc (n:=4) (by omega)
  rw[e];simp only[ae]
  by_cases c2:q.1=true
  ·rw[if_pos c2]
   obtain ⟨q2,e2,-,k2⟩:=dI (h:=q.2.2) hl k (l:=[0,1,2,3,4,99,100]) (by simp)
   rw[e2]
   exact ⟨_,rfl,k2⟩
  ·rw[if_neg c2]
   obtain ⟨q2,e2,h2,k2⟩:=bR (h:=q.2.2) hl k (n:=(r.2.length:Int)) c
   rw[e2];simp only[ae]
   rw[az h2.1 h2.2]
   exact ⟨_,rfl,k2⟩
 ·rw[if_neg (by simpa using c)]
  obtain ⟨q2,e2,-,k2⟩:=dI (h:=h) hl hc (l:=[0,1,2,3,4,99,100]) (by simp)
  rw[e2]
  exact ⟨_,rfl,k2⟩
end D
set_option synthInstance.maxSize 20000
set_option synthInstance.maxHeartbeats 2000000
namespace D
open Go.RowKit
def MsOk (m:B3):Prop:=m.2.2.1.length<=150/\m.2.2.2.length<=150
theorem MsOk.sm {m:B3} (h:MsOk m):Data.sm m:=⟨trivial,trivial,⟨by have:=h.1;omega,fun _ _=>⟨trivial,trivial⟩⟩,by have:=h.2;omega,fun _ _=>⟨trivial,trivial⟩⟩
theorem YS (a b:List (Int×Int)) (ha:a.length<=1000000) (hb:b.length<=1000000): ∃d:Yq4×Yq4,kA a b=some d/\d.1.length<=b.length/\d.2.length<=a.length:=by
 unfold kA
 rw[yu (by omega) (by omega),yu (by omega) (by omega)]
 have k: ∀(l:List (Int×Int)) (f:Int×Int->Bool),(y6 [] (l.filter f)).length<=l.length:=fun l f=>by
  have:=pP (l.filter f) []
  have h2:=List.length_filter_le f l
  simp at this;omega
 exact ⟨_,rfl,k _ _,k _ _⟩
theorem YT (h:tj) (hh:Data.sm h) {r:qd} (hr:Data.sm r) (s:LY): ∃b,kK h r s=some b/\(b=true->aX h=some (IR h)):=by
 obtain ⟨b,es,ei,k⟩:=qS h hh
 obtain ⟨c,v1,-,-⟩:=yp hr
 obtain ⟨f,f1,-,-⟩:=BN r s.2.1 (bf hr.2).1
 have es':a8 (h.1,h.2)=_:=es
 have v1:cq (r.1,r.2)=_:=v1
 have f1:ij (r.1,r.2) s.2.1=_:=f1
 unfold kK
 rw[es',v1,f1];simp only[ae]
 cases b with
 | false=>exact ⟨false,rfl,fun c=>by cases c⟩
 | true =>
  obtain ⟨l1,l2⟩:=qT es ei (k rfl)
  have l1':aX (h.1,h.2)=_:=l1
  cases c with
  | false=>exact ⟨false,rfl,fun c=>by cases c⟩
  | true =>
   rw[l1'];simp only[if_true,ae]
   by_cases c1:f≥0
   ·by_cases c2:s.2.2≥0
    ·simp only[decide_eq_true c1,decide_eq_true c2,if_true]
     exact ⟨_,rfl,fun _=>(by first | exact l1 | trivial)⟩
    ·simp only[decide_eq_true c1,decide_eq_false c2,if_true,Bool.false_eq_true,if_false]
     exact ⟨false,rfl,fun c=>by cases c⟩
   ·simp only[decide_eq_false c1,Bool.false_eq_true,if_false]
    exact ⟨false,rfl,fun c=>by cases c⟩
theorem aaO (h:tj) (hh:Data.sm h) {r:qd} (hr:Data.sm r) (s:LY) (to:Int): ∃m:B3,gm h r s to=some m/\MsOk m:=by
 obtain ⟨g,q,l,b,e1,e2,-,hl,-⟩:=tY h hh hr s.2.1 to
 have e1:dD (h.1,h.2) to=_:=e1
 have e2:bd (r.1,r.2) (g.1,g.2) s.2.1=_:=e2
 unfold gm
 rw[e1];simp only[ae]
 rw[e2];simp only[ae]
 by_cases c:s.2.2<h.1
 ·rw[if_pos (decide_eq_true c)]
  exact ⟨_,rfl,hl,Nat.zero_le _⟩
 ·rw[if_neg (by simpa using c)]
  obtain ⟨g',q',l',b',d1,d2,-,hl',-⟩:=tY h hh hr s.2.1 s.2.2
  have d1:dD (h.1,h.2) s.2.2=_:=d1
  have d2:bd (r.1,r.2) (g'.1,g'.2) s.2.1=_:=d2
  rw[d1];simp only[ae]
  rw[d2];simp only[ae]
  obtain ⟨d,x1,k1,k2⟩:=YS l' l (by omega) (by omega)
  rw[x1]
  exact ⟨_,rfl,by show d.1.length<=150;omega,by show d.2.length<=150;omega⟩
theorem aae (h:tj) (hh:Data.sm h) {r:qd} (hr:Data.sm r) (s:LY): ∃x:B3×LY×Bool,ju h r s=some x/\MsOk x.1:=by
 obtain ⟨b,es,-⟩:=YT h hh hr s
 have es:kK (h.1,h.2) (r.1,r.2) (s.1,s.2.1,s.2.2)=_:=es
 unfold ju
 rw[es];simp only[ae]
 cases b with
 | false=>exact ⟨_,rfl,Nat.zero_le _,Nat.zero_le _⟩
 | true =>
  simp only[if_true]
  obtain ⟨m,x1,k⟩:=aaO h hh hr s (Max.max h.1 (i64.wrap (s.2.2+1)))
  have x1:gm (h.1,h.2) (r.1,r.2) (s.1,s.2.1,s.2.2) (Max.max h.1 (i64.wrap (s.2.2+1)))=_:=x1
  rw[x1]
  exact ⟨_,rfl,k⟩
theorem aaf (h:tj) (hh:Data.sm h) {r:qd} (hr:Data.sm r) (s:LY): ∃x:B3×LY×Bool,dE h r s=some x/\MsOk x.1:=by
 obtain ⟨b,es,k⟩:=YT h hh hr s
 have es:kK (h.1,h.2) (r.1,r.2) (s.1,s.2.1,s.2.2)=_:=es
 unfold dE
 rw[es];simp only[ae]
 cases b with
 | false=>exact ⟨_,rfl,Nat.zero_le _,Nat.zero_le _⟩
 | true =>
  have l1:aX (h.1,h.2)=_:=k rfl
  simp only[if_true]
  rw[l1];simp only[ae]
  obtain ⟨m,x1,k⟩:=aaO h hh hr s (IR h)
  have x1:gm (h.1,h.2) (r.1,r.2) (s.1,s.2.1,s.2.2) (IR h)=_:=x1
  rw[x1]
  exact ⟨_,rfl,k⟩
theorem YU (h:tj) (hh:Data.sm h) {r:qd} (hr:Data.sm r) (s:LY): ∃x:List B3×LY,fm h r s=some x/\x.1.length<=9/\ ∀m∈x.1,MsOk m:=by
 obtain ⟨o,e,hQ⟩:=cz (f:=gD h r) (fun i z=>z.2.1=(i:Int)/\z.1.length=i/\(∀m∈z.1,MsOk m)) (fun o=>(∃x:List B3×LY,o= .ret x/\x.1.length<=9/\ ∀m∈x.1,MsOk m)\/ ∃z,o= .brk z/\z.1.length<=9/\ ∀m∈z.1,MsOk m) 9 (fun i z hi hI=>by
  obtain ⟨z1,z2,z3⟩:=hI
  unfold gD
  by_cases c:i<=8
  ·rw[if_pos (by rw[z1];exact decide_eq_true (by omega))]
   obtain ⟨x,ex,kx⟩:=aae h hh hr (z.2.2.1,z.2.2.2.1,z.2.2.2.2)
   have ex:ju (h.1,h.2) (r.1,r.2) (z.2.2.1,z.2.2.2.1,z.2.2.2.2)=_:=ex
   rw[ex];simp only[ae]
   by_cases c2:x.2.2=true
   ·rw[if_pos c2,aH (by simp only[au,ax];omega)];simp only[ae]
    refine .inl ⟨by omega,_,rfl,?_,by simp[z2],fun m hm=>?_⟩
    ·show i64.wrap (z.2.1+1)=_
     rw[z1,ah (by omega)]
    ·rcases aI hm with hm | hm
     ·exact z3 m hm
     ·rw[aw hm];exact kx
   ·rw[if_neg c2]
    exact .inr ⟨_,rfl,(fun s' e=>by cases e),.inl ⟨_,rfl,by show z.1.length<=9;omega,z3⟩⟩
  ·rw[if_neg (by rw[z1];simp;omega)]
   exact .inr ⟨_,rfl,(fun s' e=>by cases e),.inr ⟨_,rfl,by show z.1.length<=9;omega,z3⟩⟩) (s:=(([] :List B3),0,s.1,s.2.1,s.2.2)) ⟨rfl,rfl,fun m hm=>by cases hm⟩ (lu (by omega))
 have e:aA (gD h r) aT (([] :List B3),0,s.1,s.2.1,s.2.2)=_:=e
 unfold fm
 rcases hQ with ⟨x,rfl,h1,h2⟩ | ⟨z,rfl,h1,h2⟩
 ·rw[bs e];exact ⟨_,rfl,h1,h2⟩
 ·rw[ai e];exact ⟨_,rfl,h1,h2⟩
end D
set_option synthInstance.maxSize 20000
set_option synthInstance.maxHeartbeats 2000000
namespace D
open Go.RowKit
section
variable {xs:List Int} {i h:Int}
theorem Kx (hl:xs.length<=1048576) {p:List Int×Int×Int} (hp:p.1=xs): ∀(n:Nat) (f:Nat) {i h:Int} {H:tj},n<900->n<f->iZ xs i->WW H-> ∃s:Int×Int×tj,aA (fP p) f ((n:Int),i,h,H.1,H.2)=some (.brk (0,s.1,s.2.1,s.2.2.1,s.2.2.2))/\iZ xs s.1/\WW s.2.2
 | 0,f+1,i,h,H,_,_,hc,hr=>by
  refine ⟨(i,h,H),?_,hc,hr⟩
  have:fP p (((0:Nat):Int),i,h,H.1,H.2)=some (.brk (0,i,h,H.1,H.2)):=by
   unfold fP
   simp only
   rw[if_neg (by simp)];rfl
  rw[aA,this]
 | n+1,f+1,i,h,H,hn,hf,hc,hr=>by
  obtain ⟨h1,h2⟩:=bf hr.1.2
  have hne:=hr.2
  have hg:=h2 _ (bI (xs:=H.2) (i:=(H.2.length:Int) - 1) (by omega) (by omega))
  obtain ⟨r12,e12,-,k12⟩:=WB (h:=h) hl hc hg (m:=4) (by decide)
  have e12:oP (xs,i,h) ((nth H.2 ((H.2.length:Int) - 1)).1,(nth H.2 ((H.2.length:Int) - 1)).2) 4=_:=e12
  obtain ⟨x,ex,hx⟩:=WA H hr r12.1
  have ex:jk (H.1,H.2) r12.1=_:=ex
  obtain ⟨t,e2,h4,h5⟩:=Kx hl hp n f (h:=r12.2.2) (H:=x.1) (by omega) (by omega) k12 hx
  refine ⟨t,?_,h4,h5⟩
  have:fP p (((n+1:Nat):Int),i,h,H.1,H.2)=some (.nxt ((n:Int),r12.2.1,r12.2.2,x.1.1,x.1.2)):=by
   unfold fP
   simp only
   rw[if_pos (decide_eq_true (show ((n+1:Nat):Int)>0 by omega)),bH (n:=(H.2.length:Int) - 1) (by omega) (by omega),az (by omega) (by omega)];simp only[ae]
   rw[hp,e12];simp only[ae]
   rw[ex];simp only[ae]
   rw[show i64.wrap (((n+1:Nat):Int) - 1)=(n:Int) from by rw[bH (by omega) (by omega)];omega]
  rw[aA,this]
  exact e2
theorem T5 (hl:xs.length<=1048576) (hc:iZ xs i): ∃r:tj×Int×Int,lI (xs,i,h)=some r/\WW r.1/\iZ xs r.2.1:=by
 unfold lI
 simp only
 obtain ⟨r0,e0,⟨sg,G⟩,k0⟩:=Sx (h:=h) hl hc
 rw[e0];simp only[ae]
 obtain ⟨r1,e1,h1,k1⟩:=bR (h:=r0.2.2) hl k0 (n:=4) (by omega)
 rw[e1];simp only[ae]
 rw[bH (n:=1+r1.1) (by omega) (by omega)]
 have e2:=aa4 sg G (v:=1+r1.1) (by omega)
 have e2:kh (r0.1.1,r0.1.2) (1+r1.1)=_:=e2
 rw[e2];simp only[ae]
 obtain ⟨r3,e3,h3,k3⟩:=dI (h:=r1.2.2) hl k1 (l:=[3,5,10]) (by simp)
 rw[e3];simp only[ae]
 have h3:3<=r3.1/\r3.1<=10:=by simp at h3;omega
 obtain ⟨r4,e4,h4,k4⟩:=bR (h:=r3.2.2) hl k3 (n:=r3.1) (by omega)
 rw[e4];simp only[ae]
 obtain ⟨k,hk⟩: ∃k:Nat,r4.1=(k:Int):=⟨r4.1.toNat,by omega⟩
 have hH:WW ((1+r1.1,[r0.1]):tj):=⟨y8 (by simp) (fun g hg=>by rw[aw hg];exact sg),aG _⟩
 obtain ⟨s,es,a1,a2⟩:=Kx hl (p:=(xs,i,h)) rfl k aT (h:=r4.2.2) (H:=((1+r1.1,[r0.1]):tj)) (by omega) (by unfold aT;omega) k4 hH
 rw[hk,ai es]
 exact ⟨_,rfl,a2,a1⟩
theorem WH (hl:xs.length<=1048576) (hc:iZ xs i): ∃r:tj×Int×Int,qq (xs,i,h)=some r/\Data.sm r.1/\iZ xs r.2.1:=by
 unfold qq
 simp only
 obtain ⟨r0,e0,hh,k0⟩:=T5 (h:=h) hl hc
 rw[e0];simp only[ae]
 obtain ⟨r1,e1,-,k1⟩:=bR (h:=r0.2.2) hl k0 (n:=14) (by omega)
 rw[e1];simp only[ae]
 obtain ⟨l1,l2⟩:=bf hh.1.2
 have hne:=hh.2
 by_cases c0:(r1.1==0)=true
 ·rw[if_pos c0]
  obtain ⟨r2,e2,-,k2⟩:=dI (h:=r1.2.2) hl k1 (l:=[0,999,998,1000]) (by simp)
  rw[e2]
  exact ⟨_,rfl,y8 l1 l2,k2⟩
 ·rw[if_neg c0]
  by_cases c1:(r1.1==1)=true
  ·rw[if_pos c1]
   obtain ⟨r5,e5,s5,k5⟩:=YM (h:=r1.2.2) hl k1
   rw[e5];simp only[ae]
   rw[bH (n:=(r0.1.2.length:Int) - 1) (by omega) (by omega),az (by omega) (by omega)]
   refine ⟨_,rfl,y8 (by rw[List.length_set];exact l1) (fun g hg=>?_),k5⟩
   rcases List.mem_or_eq_of_mem_set hg with hg | rfl
   ·exact l2 g hg
   ·exact s5
  ·rw[if_neg c1]
   by_cases c2:(r1.1==2)=true
   ·rw[if_pos c2]
    exact ⟨_,rfl,y8 (Nat.zero_le _) (fun g hg=>by cases hg),k1⟩
   ·rw[if_neg c2]
    exact ⟨_,rfl,y8 l1 l2,k1⟩
def YV (xs:List Int) (r:tj×qd×LY×Int×Int):Prop:=Data.sm r.1/\Data.sm r.2.1/\iZ xs r.2.2.2.1
theorem EZ (hl:xs.length<=1048576) {R:qd} (hR:Data.sm R) (s:tj×Int×Int) (hs:Data.sm s.1) (hc:iZ xs s.2.1): ∃r,((aL (xs,s.2.1,s.2.2) 5).bind fun r12=>(qm (xs,r12.2.1,r12.2.2) (R.1,R.2)).bind fun r13=>(aX (s.1.1,s.1.2)).bind fun r14=>(aL (xs,r13.2.1,r13.2.2) (Max.max 1 (i64.wrap (r14+1)))).bind fun r15=>(aL (xs,r15.2.1,r15.2.2) 20).bind fun r16=>Option.bind ((if r16.1==0 then ((qq (xs,r16.2.1,r16.2.2)).bind fun r17=>some (r17.2.1,r17.2.2,i64.wrap (1+r12.1),r13.1,r15.1,r17.1.1,r17.1.2,R.1,R.2)) else (if r16.1==1 then ((oi (xs,r16.2.1,r16.2.2)).bind fun r18=>some (r18.2.1,r18.2.2,i64.wrap (1+r12.1),r13.1,r15.1,s.1.1,s.1.2,r18.1.1,r18.1.2)) else (if r16.1==2 then ((bq (xs,r16.2.1,r16.2.2) ([(-1),1000])).bind fun r19=>some (r19.2.1,r19.2.2,i64.wrap (1+r12.1),r13.1,r19.1,s.1.1,s.1.2,R.1,R.2)) else (some (r16.2.1,r16.2.2,i64.wrap (1+r12.1),r13.1,r15.1,s.1.1,s.1.2,R.1,R.2)))):Option (Int×Int×Int×Int×Int×Int×(List GrT)×qd))) (fun s20=>some (((s20.2.2.2.2.2.1,s20.2.2.2.2.2.2.1),(s20.2.2.2.2.2.2.2.1,s20.2.2.2.2.2.2.2.2),(s20.2.2.1,s20.2.2.2.1,s20.2.2.2.2.1),s20.1,s20.2.1):tj×qd×LY×Int×Int)))=some r/\YV xs r:=by
 obtain ⟨r12,e12,-,k12⟩:=bR (h:=s.2.2) hl hc (n:=5) (by omega)
 rw[e12];simp only[ae]
 obtain ⟨r13,e13,k13⟩:=aad (h:=r12.2.2) hl k12 (R.1,R.2)
 rw[e13];simp only[ae]
 obtain ⟨r14,e14⟩:=aa3 s.1 hs
 have e14:aX (s.1.1,s.1.2)=_:=e14
 rw[e14];simp only[ae]
 obtain ⟨r15,e15,-,k15⟩:=bR (h:=r13.2.2) hl k13 (n:=Max.max 1 (i64.wrap (r14+1))) (by omega)
 rw[e15];simp only[ae]
 obtain ⟨r16,e16,-,k16⟩:=bR (h:=r15.2.2) hl k15 (n:=20) (by omega)
 rw[e16];simp only[ae]
 by_cases c0:(r16.1==0)=true
 ·rw[if_pos c0]
  obtain ⟨q,eq,sq,kq⟩:=WH (h:=r16.2.2) hl k16
  rw[eq]
  exact ⟨_,rfl,sq,hR,kq⟩
 ·rw[if_neg c0]
  by_cases c1:(r16.1==1)=true
  ·rw[if_pos c1]
   obtain ⟨q,eq,sq,kq⟩:=YR (h:=r16.2.2) hl k16
   rw[eq]
   exact ⟨_,rfl,hs,sq,kq⟩
  ·rw[if_neg c1]
   by_cases c2:(r16.1==2)=true
   ·rw[if_pos c2]
    obtain ⟨q,eq,-,kq⟩:=dI (h:=r16.2.2) hl k16 (l:=[(-1),1000]) (by simp)
    rw[eq]
    exact ⟨_,rfl,hs,hR,kq⟩
   ·rw[if_neg c2]
    exact ⟨_,rfl,hs,hR,k16⟩
theorem WI (hl:xs.length<=1048576) (hc:iZ xs i): ∃r,tJ (xs,i,h)=some r/\YV xs r:=by
 unfold tJ
 simp only
 obtain ⟨r0,e0,hh,k0⟩:=T5 (h:=h) hl hc
 rw[e0];simp only[ae]
 obtain ⟨r1,e1,⟨s1,-⟩,k1⟩:=Dv (h:=r0.2.2) hl k0
 rw[e1];simp only[ae]
 obtain ⟨r2,e2,k2⟩:=qU (h:=r1.2.2) hl k1 (n:=3) (by omega)
 rw[e2];simp only[ae]
 by_cases c:r2.1=true
 ·rw[if_pos c]
  by_cases c1:(r0.1.2.length:Int)>2
  ·rw[if_pos (decide_eq_true c1)]
   have hlen:=(bf hh.1.2).1
   rw[bH (n:=(r0.1.2.length:Int) - 1) (by omega) (by omega)]
   obtain ⟨r5,e5,-,k5⟩:=bR (h:=r2.2.2) hl k2 (n:=(r0.1.2.length:Int) - 1) (by omega)
   rw[e5];simp only[ae]
   obtain ⟨r6,e6,s6⟩:=Sy r0.1 hh.1 (i64.wrap (i64.wrap (r0.1.1+1)+r5.1))
   have e6:fV (r0.1.1,r0.1.2) (i64.wrap (i64.wrap (r0.1.1+1)+r5.1))=_:=e6
   rw[e6];simp only[ae]
   exact EZ hl s1 (r6.1,r5.2) s6 k5
  ·rw[if_neg (by simpa using c1)];simp only[ae]
   exact EZ hl s1 (r0.1,r2.2) hh.1 k2
 ·rw[if_neg c]
  exact EZ hl s1 (r0.1,r2.2) hh.1 k2
end
abbrev WY:=tj×qd×Int×Int×List B3
theorem IW {xs:List Int} (hl:xs.length<=1048576) {H:tj} (hH:Data.sm H) {R:qd} (hR:Data.sm R) {i h:Int} (hc:iZ xs i) (s:LY) {ms:List B3} (hm:ms.length<=9/\ ∀m∈ms,MsOk m): ∃r:WY,((bu (xs,i,h) 4).bind fun r10=>Option.bind ((if r10.1 then ((dE (H.1,H.2) (R.1,R.2) (s.1,s.2.1,s.2.2)).bind fun r11=>if r11.2.2 then (some ([(r11.1.1,r11.1.2.1,r11.1.2.2.1,r11.1.2.2.2)])) else (some ms)) else (some ms):Option (List B3))) (fun s12=>some (((H.1,H.2),(R.1,R.2),s.2.1,s.2.2,s12):WY)))=some r/\Data.sm r.1/\Data.sm r.2.1/\(r.2.2.2.2.length<=9/\ ∀m∈r.2.2.2.2,MsOk m):=by
 obtain ⟨r10,e10,-⟩:=qU (h:=h) hl hc (n:=4) (by omega)
 rw[e10];simp only[ae]
 by_cases c:r10.1=true
 ·rw[if_pos c]
  obtain ⟨x,ex,kx⟩:=aaf H hH hR s
  have ex:dE (H.1,H.2) (R.1,R.2) (s.1,s.2.1,s.2.2)=_:=ex
  rw[ex];simp only[ae]
  by_cases c2:x.2.2=true
  ·rw[if_pos c2]
   exact ⟨_,rfl,hH,hR,by simp,fun m hm=>by rw[aw hm];exact kx⟩
  ·rw[if_neg c2]
   exact ⟨_,rfl,hH,hR,hm⟩
 ·rw[if_neg c]
  exact ⟨_,rfl,hH,hR,hm⟩
theorem WJ {xs:List Int} (hl:xs.length<=1048576): ∃r:WY,fW xs=some r/\Data.sm r.1/\Data.sm r.2.1/\(r.2.2.2.2.length<=9/\ ∀m∈r.2.2.2.2,MsOk m):=by
 unfold fW
 obtain ⟨r0,e0,k0⟩:=Z9 hl
 rw[e0];simp only[ae]
 obtain ⟨r1,e1,s1,s2,k1⟩:=WI (h:=r0.2) hl k0
 rw[e1];simp only[ae]
 obtain ⟨r2,e2,k2⟩:=qU (h:=r1.2.2.2.2) hl k1 (n:=4) (by omega)
 rw[e2];simp only[ae]
 suffices hs: ∀(o:Option (Int×Int×LY)),(∃s,o=some s/\iZ xs s.1)-> ∃r:WY,(o.bind fun s5=>(fm (r1.1.1,r1.1.2) (r1.2.1.1,r1.2.1.2) (s5.2.2.1,s5.2.2.2.1,s5.2.2.2.2)).bind fun r6=>if decide ((r6.1.length:Int)>1) then ((bu (xs,s5.1,s5.2.1) 3).bind fun r7=>Option.bind ((if r7.1 then ((chk (And ((0:Int)<=1) (1<=(r6.1.length:Int)))).bind fun _=>some (r6.1.drop 1)) else (some r6.1):Option (List B3))) (fun s9=>(bu (xs,r7.2.1,r7.2.2) 4).bind fun r10=>Option.bind ((if r10.1 then ((dE (r1.1.1,r1.1.2) (r1.2.1.1,r1.2.1.2) (s5.2.2.1,s5.2.2.2.1,s5.2.2.2.2)).bind fun r11=>if r11.2.2 then (some ([(r11.1.1,r11.1.2.1,r11.1.2.2.1,r11.1.2.2.2)])) else (some s9)) else (some s9):Option (List B3))) (fun s12=>some (((r1.1.1,r1.1.2),(r1.2.1.1,r1.2.1.2),s5.2.2.2.1,s5.2.2.2.2,s12):WY)))) else (Option.bind ((some r6.1:Option (List B3))) (fun s13=>(bu (xs,s5.1,s5.2.1) 4).bind fun r14=>Option.bind ((if r14.1 then ((dE (r1.1.1,r1.1.2) (r1.2.1.1,r1.2.1.2) (s5.2.2.1,s5.2.2.2.1,s5.2.2.2.2)).bind fun r15=>if r15.2.2 then (some ([(r15.1.1,r15.1.2.1,r15.1.2.2.1,r15.1.2.2.2)])) else (some s13)) else (some s13):Option (List B3))) (fun s16=>some (((r1.1.1,r1.1.2),(r1.2.1.1,r1.2.1.2),s5.2.2.2.1,s5.2.2.2.2,s16):WY)))))=some r/\Data.sm r.1/\Data.sm r.2.1/\(r.2.2.2.2.length<=9/\ ∀m∈r.2.2.2.2,MsOk m) by
  refine hs _ ?_
  by_cases c:r2.1=true
  ·rw[if_pos c]
   obtain ⟨r4,e4,-,k4⟩:=bR (h:=r2.2.2) hl k2 (n:=3) (by omega)
   rw[e4]
   exact ⟨_,rfl,k4⟩
  ·rw[if_neg c]
   exact ⟨_,rfl,k2⟩
 rintro o ⟨s,rfl,ks⟩
 simp only[ae]
 obtain ⟨x,ex,kx1,kx2⟩:=YU r1.1 s1 s2 s.2.2
 have ex:fm (r1.1.1,r1.1.2) (r1.2.1.1,r1.2.1.2) (s.2.2.1,s.2.2.2.1,s.2.2.2.2)=_:=ex
 rw[ex];simp only[ae]
 by_cases c:(x.1.length:Int)>1
 ·rw[if_pos (decide_eq_true c)]
  obtain ⟨r7,e7,k7⟩:=qU (h:=s.2.1) hl ks (n:=3) (by omega)
  rw[e7];simp only[ae]
  by_cases c7:r7.1=true
  ·rw[if_pos c7,show chk (And ((0:Int)<=1) (1<=(x.1.length:Int)))=some () from if_pos (by omega)];simp only[ae]
   exact IW hl s1 s2 k7 s.2.2 ⟨by rw[aY];omega,fun m hm=>kx2 m (List.mem_of_mem_drop hm)⟩
  ·rw[if_neg c7];simp only[ae]
   exact IW hl s1 s2 k7 s.2.2 ⟨kx1,kx2⟩
 ·rw[if_neg (by simpa using c)]
  exact IW hl s1 s2 ks s.2.2 ⟨kx1,kx2⟩
end D
set_option synthInstance.maxSize 20000
set_option synthInstance.maxHeartbeats 2000000
namespace D
open Go.RowKit
theorem PO {l:PsT} {d:PsT×PsT} (hl:l.length<=1048576) (h1:d.1.length<=1048576) (h2:d.2.length<=1048576) {x:PsT} (e:iL l d=some (x,true)):(∀p∈d.1,p∉l)/\ ∀p∈d.2,p∈l:=by
 obtain ⟨b,ds,di⟩:=y7 h1 h2
 obtain ⟨c,ei⟩:=vJ l (by omega)
 have es:=rA (l:=l)
 rw[ei] at es
 unfold iL at e
 simp only[iN,ds,ae,es] at e
 have eb:(if b=true then some c else some false:Option Bool)=some (b&&c):=by cases b <;> rfl
 rw[eb] at e;simp only[ae] at e
 have L0:=Kq (f:=cV l d) (l:=d.1) (d:=fun x=> !decide (x∈l)) (b0:=b&&c) (by omega) (fun b i hi=>by
  unfold cV
  rw[cF hi,if_pos rfl]
  cases b with
  | true =>
   rw[if_pos rfl,aM hi]
   simp only[ae,iN]
   rw[LX (by omega)]
   simp only[ae,Bool.true_and,ah (show i<9223372036854775807 by omega)]
  | false=>rw[if_neg (by simp),ah (by omega),Bool.false_and]) (fun b=>by
  unfold cV
  rw[cm];rfl)
 rw[ai L0] at e
 have L1:=Kq (f:=cW l d) (l:=d.2) (d:=fun x=>decide (x∈l)) (b0:=(b&&c)&&d.1.all fun x=> !decide (x∈l)) (by omega) (fun b i hi=>by
  unfold cW
  rw[cF hi,if_pos rfl]
  cases b with
  | true =>
   rw[if_pos rfl,aM hi]
   simp only[ae,iN]
   rw[LX (by omega)]
   simp only[ae,Bool.true_and,ah (show i<9223372036854775807 by omega)]
  | false=>rw[if_neg (by simp),ah (by omega),Bool.false_and]) (fun b=>by
  unfold cW
  rw[cm];rfl)
 rw[ai L1] at e
 by_cases k:(((b&&c)&&d.1.all fun x=> !decide (x∈l))&&d.2.all fun x=>decide (x∈l))=true
 ·simp only[ak,List.all_eq_true,Bool.not_eq_true',decide_eq_false_iff_not,decide_eq_true_eq] at k
  exact ⟨fun p hp=>k.1.2 p hp,fun p hp=>k.2 p hp⟩
 ·rw[if_neg k,CA l hl] at e
  cases e
theorem WK {l:PsT} {m:B3} (hl:l.length<=1048576) (h1:m.2.2.1.length<=1048576) (h2:m.2.2.2.length<=1048576) {x:PsT} (e:cO l m=some (x,true)) (hne: ¬(m.2.2.1= [] /\m.2.2.2= [])): ∃y,cO l (m.1,m.2.1,m.2.2.2,m.2.2.1)=some (y,false):=by
 obtain ⟨⟨y,b⟩,ey,-,-⟩:=pQ (l:=l) (m:=(m.1,m.2.1,m.2.2.2,m.2.2.1)) hl h2 h1
 cases b with
 | false=>exact ⟨y,ey⟩
 | true =>
  exfalso
  unfold cO at e ey
  simp only at e ey
  by_cases c:m.2.1=true
  ·rw[if_pos c] at e ey
   obtain ⟨a1,e1⟩:=vJ m.2.2.1 (by omega)
   obtain ⟨a2,e2⟩:=vJ m.2.2.2 (by omega)
   have s1:=rA (l:=m.2.2.1)
   have s2:=rA (l:=m.2.2.2)
   rw[s1,e1] at e
   rw[s2,e2] at ey
   simp only[ae] at e ey
   have z2:m.2.2.2.length=0:=by
    cases a1 with
    | false=>rw[if_neg (by simp),CA l hl] at e;cases e
    | true =>
     rw[if_pos rfl] at e
     by_cases cc:(m.2.2.2.length:Int)>0
     ·rw[if_pos (decide_eq_true cc),CA l hl] at e;cases e
     ·omega
   have z1:m.2.2.1.length=0:=by
    cases a2 with
    | false=>rw[if_neg (by simp),CA l hl] at ey;cases ey
    | true =>
     rw[if_pos rfl] at ey
     by_cases cc:(m.2.2.1.length:Int)>0
     ·rw[if_pos (decide_eq_true cc),CA l hl] at ey;cases ey
     ·omega
   exact hne ⟨List.eq_nil_of_length_eq_zero z1,List.eq_nil_of_length_eq_zero z2⟩
  ·rw[if_neg c] at e ey
   obtain ⟨⟨x',b'⟩,d1,-,-⟩:=pj (l:=l) (d:=(m.2.2.1,m.2.2.2)) hl h1 h2
   obtain ⟨⟨y',b''⟩,d2,-,-⟩:=pj (l:=l) (d:=(m.2.2.2,m.2.2.1)) hl h2 h1
   rw[d1] at e
   rw[d2] at ey
   simp only[ae] at e ey
   obtain rfl:b'=true:=congrArg Prod.snd (af e)
   obtain rfl:b''=true:=congrArg Prod.snd (af ey)
   obtain ⟨k1,k2⟩:=PO hl h1 h2 d1
   obtain ⟨j1,j2⟩:=PO hl h2 h1 d2
   refine hne ⟨?_,?_⟩
   ·cases hm:m.2.2.1 with
    | nil=>rfl
    | cons p t =>
     have hp:p∈m.2.2.1:=by rw[hm];exact List.mem_cons_self
     exact absurd (j2 p hp) (k1 p hp)
   ·cases hm:m.2.2.2 with
    | nil=>rfl
    | cons p t =>
     have hp:p∈m.2.2.2:=by rw[hm];exact List.mem_cons_self
     exact absurd (k2 p hp) (j1 p hp)
section
variable {h:tj} (hh:Data.sm h) {r:qd} (hr:Data.sm r) {id:Int}
include hh hr
theorem Dw {ms:List B3} (hm:ms.length<=9) {now:PsT} {v:Int} {k:Nat} (hk:k<ms.length) {x:PsT} {xo:Bool} (ea:cO now (nth ms (k:Int))=some (x,xo)) (hx:x.length<=1048576) :
  ∃(q:Bool) (l:PsT),l.length<=150/\aW h r id ms (now,v,(k:Int))=some (if xo=true/\q=true/\ ¬(nth ms (k:Int)).1<=v/\x=l then .nxt (x,(nth ms (k:Int)).1,((k+1:Nat):Int)) else .ret false):=by
 obtain ⟨g,q,l,b,g1,q1,-,hl,-⟩:=tY h hh hr id (nth ms (k:Int)).1
 refine ⟨q,l,hl,?_⟩
 have g1:dD (h.1,h.2) (nth ms (k:Int)).1=_:=g1
 have q1:bd (r.1,r.2) (g.1,g.2) id=_:=q1
 unfold aW
 simp only
 rw[if_pos (by simp only[decide_eq_true_eq];omega),az (by omega) (by omega)];simp only[ae]
 generalize nth ms (k:Int)=m at ea g1
 have ea:cO now (m.1,m.2.1,(m.2.2.1,m.2.2.2))=_:=ea
 rw[ea,g1];simp only[ae]
 rw[q1];simp only[ae]
 cases xo with
 | false=>rw[if_neg (by simp),if_neg (by simp)]
 | true =>
  cases q with
  | false=>rw[if_pos rfl,if_neg (by simp),if_neg (by simp)]
  | true =>
   rw[if_pos rfl,if_pos rfl]
   by_cases c2:m.1<=v
   ·rw[if_pos (decide_eq_true c2),if_neg (fun c=>c.2.2.1 c2)]
   ·obtain ⟨p1,-⟩:=aaM x l (by omega)
    rw[if_neg (by simpa using c2),p1];simp only[ae]
    by_cases c3:x=l
    ·rw[if_pos (decide_eq_true c3),ah (by omega),if_pos ⟨by trivial,by trivial,c2,c3⟩]
    ·rw[if_neg (by simpa using c3),if_neg (fun c=>c3 c.2.2.2)]
theorem BZ {ms:List B3} (hm:ms.length<=9/\ ∀m∈ms,MsOk m) {n:Nat} (hn:ms.length=n+1) (hne: ¬((nth ms (n:Int)).2.2.1= [] /\(nth ms (n:Int)).2.2.2= [])) {ms':List B3} (hms:ms'=ms.set n ((nth ms (n:Int)).1,(nth ms (n:Int)).2.1,(nth ms (n:Int)).2.2.2,(nth ms (n:Int)).2.2.1)) :
  ∀(d k f:Nat) (now:PsT) (v:Int),n=k+d->now.length<=150->d<f->aO (aA (aW h r id ms) f (now,v,(k:Int))) (fun r=>some r) (fun _=>some true)=some true->aO (aA (aW h r id ms') f (now,v,(k:Int))) (fun r=>some r) (fun _=>some true)=some false
 | d,k,f+1,now,v,hd,hnow,hf,e=>by
  have hmk:MsOk (nth ms (k:Int)):=hm.2 _ (bI (xs:=ms) (i:=(k:Int)) (by omega) (by omega))
  have hl':ms'.length=n+1:=by rw[hms,List.length_set,hn]
  have h9:=hm.1
  obtain ⟨⟨x,xo⟩,ea,-,lx⟩:=pQ (l:=now) (m:=nth ms (k:Int)) (by omega) (by have:=hmk.1;omega) (by have:=hmk.2;omega)
  have lx:x.length<=now.length+(nth ms (k:Int)).2.2.1.length:=lx
  have hx1:=hmk.1
  have hx2:=hmk.2
  obtain ⟨q,l,hl,es⟩:=Dw hh hr (id:=id) (v:=v) h9 (k:=k) (by omega) ea (by omega)
  rw[aA,es] at e
  by_cases c:xo=true/\q=true/\ ¬(nth ms (k:Int)).1<=v/\x=l
  ·rw[if_pos c] at e
   obtain ⟨rfl,rfl,cv,rfl⟩:=c
   match d,hd with
   | 0,hd =>
    obtain rfl:k=n:=by omega
    have en:nth ms' (k:Int)=((nth ms (k:Int)).1,(nth ms (k:Int)).2.1,(nth ms (k:Int)).2.2.2,(nth ms (k:Int)).2.2.1):=by
     have e1:=cw (xs:=ms.set k ((nth ms (k:Int)).1,(nth ms (k:Int)).2.1,(nth ms (k:Int)).2.2.2,(nth ms (k:Int)).2.2.1)) (i:=k) (by rw[List.length_set];omega)
     rw[hms,e1,List.getElem_set_self]
    obtain ⟨y,ey⟩:=WK (l:=now) (m:=nth ms (k:Int)) (by omega) (by omega) (by omega) ea hne
    obtain ⟨y',by',-,ly⟩:=pQ (l:=now) (m:=((nth ms (k:Int)).1,(nth ms (k:Int)).2.1,(nth ms (k:Int)).2.2.2,(nth ms (k:Int)).2.2.1)) (by omega) (by show (nth ms (k:Int)).2.2.2.length<=_;omega) (by show (nth ms (k:Int)).2.2.1.length<=_;omega)
    rw[ey] at by'
    obtain rfl:=af by'
    have ly:y.length<=now.length+(nth ms (k:Int)).2.2.2.length:=ly
    rw[<-en] at ey
    obtain ⟨q2,l2,-,es2⟩:=Dw hh hr (id:=id) (v:=v) (ms:=ms') (by omega) (k:=k) (by omega) ey (by omega)
    rw[if_neg (by simp)] at es2
    rw[aA,es2];rfl
   | d+1,hd =>
    have en:nth ms' (k:Int)=nth ms (k:Int):=by
     have hkn:k<n:=by omega
     have hk1:k<ms.length:=by omega
     have e1:=cw (xs:=ms.set n ((nth ms (n:Int)).1,(nth ms (n:Int)).2.1,(nth ms (n:Int)).2.2.2,(nth ms (n:Int)).2.2.1)) (i:=k) (by rw[List.length_set];exact hk1)
     rw[hms,e1,List.getElem_set_ne (by omega)]
     exact (cw hk1).symm
    have ea2:=ea
    rw[<-en] at ea2
    have es2:aW h r id ms' (now,v,(k:Int))=some (.nxt (x,(nth ms (k:Int)).1,((k+1:Nat):Int))):=by
     have c1:aW h r id ms' (now,v,(k:Int))=aW h r id ms (now,v,(k:Int)):=by
      unfold aW
      simp only
      rw[hl',hn,az (xs:=ms') (by omega) (by omega),az (xs:=ms) (by omega) (by omega),en]
     rw[c1,es,if_pos ⟨rfl,rfl,cv,rfl⟩]
    rw[aA,es2]
    exact BZ hm hn hne hms d (k+1) f x _ (by omega) (by omega) (by omega) e
  ·rw[if_neg c] at e
   cases e
end
theorem yx (xs:List Int) (hx:Data.lim xs):iR xs=some true:=by
 unfold iR Ic
 simp only[ae]
 by_cases c:(xs.length:Int)>1048576
 ·rw[if_pos (by simpa using c)]
 rw[if_neg (by simpa using c)]
 have hlx:xs.length<=1048576:=by omega
 have nf: ∀p:Bool,(p !=p)=false:=fun p=>by cases p <;> rfl
 obtain ⟨⟨h,r,id,v,ms⟩,e1,sh,sr,hm⟩:=WJ hlx
 have sh:Data.sm h:=sh
 have sr:Data.sm r:=sr
 have hm:ms.length<=9/\ ∀m∈ms,MsOk m:=hm
 rw[e1];simp only[ae,iN]
 have smms:Data.sm ms:=⟨by have:=hm.1;omega,fun m hmm=>(hm.2 m hmm).sm⟩
 obtain ⟨b,a1,a2⟩:=BY h sh sr id v ms smms
 rw[a1,a2];simp only[ae]
 rw[nf,if_neg (by simp)]
 cases b with
 | false=>rw[if_neg (by simp)]
 | true =>
  rw[if_pos rfl]
  have h9:=hm.1
  by_cases c0:(ms.length:Int)=0
  ·rw[if_pos (by simpa using c0)]
  rw[if_neg (by simpa using c0),az (by omega) (by omega)];simp only[ae]
  by_cases cr:(nth ms 0).2.1=true
  ·rw[if_pos cr]
  rw[if_neg cr,aH (by simp only[ax];omega),List.nil_append];simp only[ae]
  obtain ⟨n,hn⟩: ∃n,ms.length=n+1:=⟨ms.length - 1,by omega⟩
  have ew:i64.wrap ((ms.length:Int) - 1)=(n:Int):=by rw[bH (by omega) (by omega)];omega
  rw[ew,az (by omega) (by omega)];simp only[ae]
  have hmn:MsOk (nth ms (n:Int)):=hm.2 _ (bI (xs:=ms) (i:=(n:Int)) (by omega) (by omega))
  have l1:=hmn.1
  have l2:=hmn.2
  have ei:lT ((nth ms (n:Int)).2.2.1,(nth ms (n:Int)).2.2.2)=some ((nth ms (n:Int)).2.2.2,(nth ms (n:Int)).2.2.1):=by
   unfold lT
   simp only
   rw[CA _ (by omega),CA _ (by omega)];rfl
  rw[ei];simp only[ae,Int.toNat_natCast]
  have smi:Data.sm (ms.set n ((nth ms (n:Int)).1,(nth ms (n:Int)).2.1,(nth ms (n:Int)).2.2.2,(nth ms (n:Int)).2.2.1)):=⟨by rw[List.length_set];omega,fun m hmm=>by
   rcases List.mem_or_eq_of_mem_set hmm with hmm | rfl
   ·exact (hm.2 m hmm).sm
   ·exact MsOk.sm (m:=((nth ms (n:Int)).1,(nth ms (n:Int)).2.1,(nth ms (n:Int)).2.2.2,(nth ms (n:Int)).2.2.1)) ⟨l2,l1⟩⟩
  obtain ⟨b2,b1,b3⟩:=BY h sh sr id v _ smi
  rw[b3]
  by_cases hne:(nth ms (n:Int)).2.2.1= [] /\(nth ms (n:Int)).2.2.2= []
  ·have eset:ms.set n ((nth ms (n:Int)).1,(nth ms (n:Int)).2.1,(nth ms (n:Int)).2.2.2,(nth ms (n:Int)).2.2.1)=ms:=by
    have:((nth ms (n:Int)).1,(nth ms (n:Int)).2.1,(nth ms (n:Int)).2.2.2,(nth ms (n:Int)).2.2.1)=nth ms (n:Int):=by
     obtain ⟨g1,g2⟩:=hne
     generalize nth ms (n:Int)=m at g1 g2⊢
     obtain ⟨a,b,c,d⟩:=m
     obtain rfl:c= []:=g1
     obtain rfl:d= []:=g2
     rfl
    rw[this,cw (by omega),List.set_getElem_self]
   rw[eset,a1] at b1
   obtain rfl:=af b1
   rw[hne.1,hne.2]
   rfl
  ·have hb2:b2=false:=by
    have aa:=a1
    unfold gU at aa b1
    obtain ⟨g,q,l,b,g1,q1,-,hl,-⟩:=tY h sh sr id v
    have g1:dD (h.1,h.2) v=_:=g1
    have q1:bd (r.1,r.2) (g.1,g.2) id=_:=q1
    rw[g1] at aa b1;simp only[ae] at aa b1
    rw[q1] at aa b1;simp only[ae] at aa b1
    cases q with
    | false=>rw[if_neg (by simp)] at aa;cases aa
    | true =>
     rw[if_pos rfl] at aa b1
     cases b with
     | false=>rw[if_neg (by simp)] at aa;cases aa
     | true =>
      rw[if_pos rfl] at aa b1
      have:=BZ sh sr (id:=id) hm hn hne rfl n 0 aT l v (by omega) hl (by unfold aT;omega) aa
      have this:aO (aA (aW h r id _) aT (l,v,0)) (fun r=>some r) (fun _=>some true)=some false:=this
      rw[this] at b1
      exact (af b1).symm
   subst hb2
   have hs:(if ((nth ms (n:Int)).2.2.2.length:Int)==0 then some (((nth ms (n:Int)).2.2.1.length:Int)==0) else some false:Option Bool)=some false:=by
    by_cases z:((nth ms (n:Int)).2.2.2.length:Int)=0
    ·rw[if_pos (by simpa using z)]
     have: ¬((nth ms (n:Int)).2.2.1.length:Int)=0:=fun z1=>hne ⟨List.eq_nil_of_length_eq_zero (by omega),List.eq_nil_of_length_eq_zero (by omega)⟩
     rw[beq_eq_false_iff_ne.2 this]
    ·rw[if_neg (by simpa using z)]
   rw[hs];rfl
end D
open Go.ChangeShapes Go.WideShapes Go.ChangeAt Go.RowKit
namespace D
theorem op5:Opens Tryz.prog 5 rU8:=RR Tryz.underlying5
theorem aa5:Opens Tryz.prog 22 (aC 5 rU8):=Ir Tryz.underlying22 (by kernel_rfl) (by decide) op5
theorem aag {W:World} {base:Nat} {z:Value} {H:Type} {enc:TypeId×Value->H} {d:DataW H} {p:List MemPlace} (hv:Value.okWide Tryz.prog W .any base 22 z) (h:DataW.Trod enc Tryz.prog W 0 (fun _=>true) true 22 z d p) :
  ∃(x:List Int) (v0:Value),z=v0/\Data.lim x/\(aC 5 rU8).rd (hp W) [v0] x:=by
 obtain ⟨fuel,hf⟩:=h
 obtain ⟨a,l,c,rfl⟩:=okWide_slice Tryz.underlying22 hv
 obtain ⟨x,hx,hl⟩:=aa5.out enc W _ _ _ hf
 exact ⟨x,_,rfl,hl,hx⟩
end D
open D (Data)
theorem xt (W:World) (args:Array Value) (H:Type) (enc:TypeId×Value->H) (base:Nat) (ds gs:List (DataW H)) (before:List MemPlace)
  (hval: ∀(j:Nat) t v,Tryz.f7.params[j]? =some t->args[j]? =some v->Value.okWide Tryz.prog W .any base t v)
  (hW:DataW.Whole enc Tryz.prog Tryz.f7.params.toList Rows.fnMessageAuditSpec.vars false W args.toList ds gs before) :
  Calls Tryz.prog 7 args W fun e W'=> ∃v,e= .returned v/\Rows.fnMessageAuditSpec.post enc Tryz.prog Tryz.f7 false true false false W args v W':=by
 have hW':=hW
 obtain ⟨p,q,hA,hV,rfl,hfz,hnd⟩:=hW
 rw[Tryz.params7] at hA hval
 obtain ⟨z0,vs0,d0,ds0,p0,q0,hargs,rfl,rfl,h0,r0⟩:=trodAll_cons hA
 obtain ⟨rfl,rfl,rfl⟩:=trodAll_nil r0
 obtain rfl:args= #[z0]:=by cases args;simp_all
 obtain ⟨rfl,rfl⟩:=trodVars_none hV
 obtain ⟨x0,v0_0,rfl,l0,r0_0⟩:=D.aag (hval 0 _ _ rfl rfl) h0
 have hc:=D.wY x0 true (D.yx x0 l0) (I:=D.hp W) (w0:=W) z0 r0_0 D.Lay.all W [] (D.St.init W)
 refine hc.mono fun e W' ⟨v,he,hv,hs⟩=>?_
 subst he;subst hv
 exact ⟨_,rfl,Sa (f:=Tryz.f7) (s:=Rows.fnMessageAuditSpec) 4 Tryz.underlying4 rfl (by kernel_rfl) rfl hW' rfl rfl rfl (D.St.below hs)⟩
theorem tl (os:Os) (started:os.Started) (H:Type) (enc:TypeId×Value->H) :
  ReturnsInHanded {} Tryz.checked os 7 .any (Rows.fnMessageAuditSpec.pre6 enc Tryz.prog Tryz.f7 Rows.fnMessageAuditRow.domain false) (Rows.fnMessageAuditSpec.post enc Tryz.prog Tryz.f7 false true false false):=by
 refine returnsInHanded_of_change_sized (C:=Tryz.checked) own started (by kernel_rfl) Tryz.func7
  (ChangeSpec.witness6 (enc:=enc) (C:=Tryz.checked) false ⟨#[],#[.slice none 0 0],[]⟩ 8 (by kernel_rfl) (by kernel_rfl) (by kernel_rfl) (by kernel_rfl)) ?_
 intro W base args ds gs before hval hW hcnd hsz _
 exact xt W args H enc base ds gs before hval hW
set_option maxHeartbeats 4000000 in
theorem tm:joinedFacts Tryz.pinned.checked.prog 7 Tryz.f7 Rows.fnMessageAuditSpec Rows.fnMessageAuditRow=true:=by
 unfold joinedFacts
 repeat' (with_reducible refine Bool.and_eq_true_iff.2 ⟨?_,?_⟩)
 all_goals as_aux_lemma=>kernel_rfl
theorem holdsLFnMessageAudit:Rows.FnMessageAuditSaid:=
 OpenClaim.holds_of_wide 7 Tryz.f7 rfl rfl rfl rfl rfl rfl rfl ⟨rfl,rfl,rfl,rfl,rfl⟩ rfl rfl rfl rfl rfl (by kernel_rfl) Tryz.func7 tm
  (of_decide_eq_true (by kernel_rfl)) (by unfold Func.isWrapper;first | (rw[if_pos (by decide +kernel)];kernel_rfl) | (rw[if_neg (by decide +kernel)];exact ⟨rfl,rfl⟩))
  (fun os started H enc _=>tl os started H enc)
end Go.Proofs.YtbhafdfiplkacaaGreat
