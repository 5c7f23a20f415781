/- FnExactQueryAnswers: for every input the law returns true and changes nothing that was there. Part 4 of 7. -/
import Derived.Test.YtakjhbbbjbebdaaGreatYC2
set_option linter.unusedVariables false
set_option linter.unusedSimpArgs false
set_option linter.unnecessarySimpa false
set_option linter.unusedSectionVars false
set_option maxRecDepth 1000000
namespace Go.Proofs.YtakjhbbbjbebdaaGreat
namespace R
open Go.RowKit
open D
structure PartA where
 h:Hdr
 ver:Nat
 E:TypeId
 t:Ty
 xs:List t.den
 lo:Nat
 hi:Nat
def L8:AV→Option PartA
 | .sub h ver E t xs l=>some ⟨h,ver,E,t,xs,l.toNat,xs.length⟩
 | .pre h ver E t xs l=>some ⟨h,ver,E,t,xs,0,l.toNat⟩
 | _=>none
section
variable {Y:Type} (tt:TT) (s:Sg) (k:Res→Option Y)
def SI (E:TypeId) (b:Nat) (t:Ty) (xs:List t.den) (nsx rest:List Ent) (q:PartA):Option Y:=
 (rowOf q.h rest).bind fun r=>bp (Nat.beq r.ver q.ver&&(t.sh&&t.dp)) ((lY (.sl r.E r.t) (.sl E t) r.xs).bind fun ys=>(cC b xs ((ys.take q.hi).drop q.lo)).bind fun zs=>k ⟨[r.ent q.h],nsx,r.rest,[(⟨s.nxt,[]⟩,.own (.sl E t) zs)],.one (.own ⟨s.nxt,[]⟩)⟩)
def PS (T:TypeId) (x y:Operand):Option Y:=(td tt T).bind fun d=>d.el.bind fun E=>(td tt E).bind fun e=>e.bytes.bind fun b=>(opd s y).bind fun yv=>(L8 yv).bind fun q=>match opd s x with
 | some (.one (.own h))=>(rowOf h s.chs).bind fun r=>bp (Nat.beq r.E E&&Nat.beq r.t.size e.n) (SI s k r.E b r.t r.xs [r.ent h] r.rest q)
 | some (.one (.val v))=>bp (isNil v&&Nat.beq q.t.size e.n) (SI s k E b q.t [] [] s.chs q)
 | _=>none
end
section
variable {Y:Type} {tt:TT} {an:List (Nat×Ty)} {s:Sg} {k:Res→Option Y} {P:Program} {w0:World} {o:Oper} {res:Y} {x y:Operand}
theorem L9 {J:Hp} {θ:Th} {n:Nat} {chs:List Ent} {v:AV} {q:PartA} (h:L8 v=some q) (hv':v.ok P w0 J θ n chs):v.v θ=nl (hv θ q.h) q.lo q.hi q.t.size∧q.lo≤q.hi∧q.hi≤q.xs.length∧q.h.id<n∧Mem chs n q.h q.ver (.own (.sl q.E q.t) q.xs):=by
 unfold L8 at h
 split at h
 ·rename_i hh ver E t xs l
  obtain rfl:=Option.some.inj h
  obtain ⟨h1,h2,h3⟩:=hv'
  exact ⟨rfl,by show l.toNat≤xs.length;omega,Nat.le_refl _,h1,h3⟩
 ·rename_i hh ver E t xs l
  obtain rfl:=Option.some.inj h
  obtain ⟨h1,h2,h3⟩:=hv'
  exact ⟨rfl,Nat.zero_le _,by show l.toNat≤xs.length;omega,h1,h3⟩
 ·cases h
theorem BT {I:Hp} {ev:Operand→Value} {α:Type} {E T:TypeId} {R:Rep α} {z:Value} {n b:Nat} {x y:Operand} {s u:Value} {xs ys zs:List α} {lo hi:Nat} (h:cC b xs ((ys.take hi).drop lo)=some zs) (h1:lo≤hi) (h2:hi≤ys.length) (hd:R.Dp) (hc:Cpy R R) (hT:P.underlying T=some (.slice E)) (hE:TZ P E z n b) (hzs:z.cells.size=n) (hn:0<n) (hR:R.size=n) (hb1:1≤b) (ho:o.op= .call { callee:=.builtin .append,args:= #[x,y],argTypes:= #[T,T] }) (hx:ev x=s) (hy:ev y=nl u lo hi n) :
  OpT P I w0 o ev [Ch.own (ae E R) [s] xs,Ch.own (ae E R) [u] ys] (fun _=>True) (fun v=>[Ch.own (ae E R) [v] zs,Ch.own (ae E R) [u] ys]):=by
 intro w C hs
 have key:=vd (P:=P) (I:=I) (w0:=w0) (o:=o) (ev:=ev) (ls:=[Ch.own (ae E R) [u] ys]) (rn:=[Ch.own (ae E R) [s] xs]) (fact:=fun _=>True) (gv:=fun v=>[Ch.own (ae E R) [v] zs]) (fun v=>⟨vz (zw hd),trivial⟩) (fun J' hJ hrd _=>qH h hc hR (EH (hrd _ _ _ (List.mem_singleton.2 rfl)) h1 h2 hR) hT hE hzs hn hR hb1 ho hx hy) w C (hs.perm ((List.Perm.swap _ _ _).append_right C))
 exact key.imp fun v w hv=>⟨hv.1,hv.2.perm ((List.Perm.swap _ _ _).append_right C)⟩
theorem Ma {q:PartA} {nsx rest:List Ent} {r:Row} {J:Hp} {θ:Th} {n:Nat} (hp:s.chs.Perm (nsx++rest)) (hr:rowOf q.h rest=some r) (hv:r.ver=q.ver) (hm:Mem s.chs n q.h q.ver (.own (.sl q.E q.t) q.xs)):Chk.own (.sl r.E r.t) r.xs=Chk.own (.sl q.E q.t) q.xs:=by
 obtain ⟨hp2,-⟩:=aY hr
 exact hm.2 (r.ent q.h) (hp.mem_iff.2 (List.mem_append_right _ (hp2.mem_iff.2 (by simp)))) _ ⟨rfl,.inl ⟨hv,rfl⟩⟩
theorem I9 {T E:TypeId} {z:Value} {n b:Nat} {t:Ty} {xs:List t.den} {nsx rest:List Ent} {q:PartA} {yv:AV} (hq:L8 yv=some q) (hp:s.chs.Perm (nsx++rest)) (hT:P.underlying T=some (.slice E)) (hE:TZ P E z n b) (hzs:z.cells.size=n) (hn:0<n) (ht:t.size=n) (hb1:1≤b) (ho:o.op= .call { callee:=.builtin .append,args:= #[x,y],argTypes:= #[T,T] }) (hy:opd s y=some yv)
  (hx: ∀J θ,Fine P w0 J θ s→ ∃v,evL (envL θ s) x=v∧ ∀(rn:List Ch) (fact:Value→Prop) (gv:Value→List Ch),OpT P J w0 o (evL (envL θ s)) (Ch.own (ae E t.rep) [v] xs::rn) fact gv→OpT P J w0 o (evL (envL θ s)) (nsx.map (toCh P θ)++rn) fact gv)
  (h:SI s k E b t xs nsx rest q=some res):Oks P w0 s o k res:=by
 unfold SI at h
 obtain ⟨r,hr,h⟩:=bind_some h
 obtain ⟨hc,h⟩:=ah h
 rw[Bool.and_eq_true,Bool.and_eq_true] at hc
 obtain ⟨hv1,hsh,hdp⟩:=hc
 have hv1:=Nat.eq_of_beq_eq_true hv1
 obtain ⟨ys,hys,h⟩:=bind_some h
 obtain ⟨zs,hzs',h⟩:=bind_some h
 obtain ⟨hpr,-⟩:=aY hr
 have he:=ta (h:=q.h) hys
 refine ⟨_,h,good_row (hp.trans ((hpr.append_left nsx).trans List.perm_middle)) fun J θ hf=>?_⟩
 obtain ⟨v,hv',hx⟩:=hx J θ hf
 obtain ⟨p1,p2,p3,-,p5⟩:=L9 hq (a6 hf hy)
 have hrow:=Ma (J:=J) (θ:=θ) hp hr hv1 p5
 have hent:r.ent q.h=(q.h,r.ver,.own (.sl q.E q.t) q.xs):=by
  show (q.h,r.ver,Chk.own (.sl r.E r.t) r.xs)=_
  rw[hrow]
 rw[he] at hent
 have hcc:Chk.own (.sl E t) ys=Chk.own (.sl q.E q.t) q.xs:=(Prod.mk.inj (Prod.mk.inj hent).2).2
 have hsz:q.t.size=n∧q.xs.length=ys.length:=by
  clear hv' hx h hys hzs' hent he hrow
  obtain ⟨qh,qver,qE,qt,qxs,qlo,qhi⟩:=q
  simp only at hcc
  have e1:Ty.sl E t=Ty.sl qE qt:=(Chk.own.inj hcc).1
  obtain ⟨rfl,rfl⟩:=Ty.sl.inj e1
  have e2:ys=qxs:=eq_of_heq (Chk.own.inj hcc).2
  exact ⟨ht,by rw[e2]⟩
 rw[he]
 have:=BT (P:=P) (I:=J) (w0:=w0) (R:=t.rep) hzs' p2 (by rw[←hsz.2];exact p3) (Ty.dp_ok hdp) (Ty.cpy hsh) hT hE hzs hn (t.rep_size.trans ht) hb1 ho hv' ((ak (θ:=θ) hy).trans (by rw[p1,hsz.1]))
 exact OpT.permN (List.perm_append_comm (l₁:=[_])) (hx _ _ _ this)
theorem Fe (hT:TTok P tt) {T:TypeId} (ho:o.op= .call { callee:=.builtin .append,args:= #[x,y],argTypes:= #[T,T] }) (h:PS tt s k T x y=some res):Oks P w0 s o k res:=by
 obtain ⟨d,hd,h⟩:=bind_some h
 obtain ⟨E,hE,h⟩:=bind_some h
 obtain ⟨e,he,h⟩:=bind_some h
 obtain ⟨b,hb,h⟩:=bind_some h
 obtain ⟨yv,hy,h⟩:=bind_some h
 obtain ⟨q,hq,h⟩:=bind_some h
 have hdk:=hT.get hd
 have hek:=hT.get he
 obtain ⟨z,hz1,hz2,hz3⟩:=hek.zero b hb
 have hzs:z.cells.size=e.n:=by rw[hz2,List.size_toArray,pF,hek.sz]
 split at h
 ·rename_i hh hx
  obtain ⟨r,hr,h⟩:=bind_some h
  obtain ⟨hc,h⟩:=ah h
  rw[Bool.and_eq_true] at hc
  have hc1:=Nat.eq_of_beq_eq_true hc.1
  have hc2:=Nat.eq_of_beq_eq_true hc.2
  obtain ⟨hp,-⟩:=aY hr
  exact I9 (nsx:=[r.ent hh]) hq hp ((hdk.el E hE).trans (by rw[hc1])) (by rw[hc1];exact hz1) hzs (by rw[←hc2];exact Ty.size_pos _) hc2 hz3 ho hy (fun J θ hf=>⟨_,ak hx,fun rn fact gv h=>h⟩) h
 ·rename_i v hx
  obtain ⟨hc,h⟩:=ah h
  rw[Bool.and_eq_true] at hc
  have hc1:=kL hc.1
  have hc2:=Nat.eq_of_beq_eq_true hc.2
  refine I9 (nsx:=[]) hq (List.Perm.refl _) (hdk.el E hE) hz1 hzs (by rw[←hc2];exact Ty.size_pos _) hc2 hz3 ho hy (fun J θ hf=>⟨_,ak hx,fun rn fact gv h=>?_⟩) h
  rw[show (AV.one (LV.val v)).v θ= .slice none 0 0 from hc1] at h
  exact OpT.nilrow h
 ·cases h
end
structure HRow where
 E:TypeId
 t:Ty
 xs:List t.den
 n:Nat
def RG:Hol→Option HRow
 | ⟨_,_,.sl E t,d,.sl _ _,_,f,_,_,_,_,_⟩=>some ⟨E,t,d,List.length (α:=t.den) (f ([] :List _))⟩
 | _=>none
section
variable {Y:Type} (tt:TT) (s:Sg) (k:Res→Option Y)
def Ja (T:TypeId) (x i:Operand):Option Y:=(td tt T).bind fun d=>match d.el,opd s x,opd s i with
 | some E,some (.one (.own h)),some (.one (.val (.int .i64 i)))=>(Dj h s.chs).bind fun r=>(RG r).bind fun q=>(td tt E).bind fun e=>bp (Nat.beq e.n q.t.size&&Bk h r.rest) ((az q.xs i).bind fun a=>(chk (i<(q.n:Int))).bind fun _=>k ⟨[r.ent h],[],r.rest,[],.elo h r.over q.E q.t q.xs a i 0⟩)
 | _,_,_=>none
end
section
variable {Y:Type} {tt:TT} {s:Sg} {k:Res→Option Y} {P:Program} {w0:World} {o:Oper} {res:Y} {x:Operand}
theorem RH {I:Hp} {α β:Type} {E E':TypeId} {R:Rep α} {S:Rep β} {v c:Value} {f:List β→List α} {b off:Nat} {w:World} {K:List Nat} (h:(Ch.gap (ae E R) [v] (ae E' S) f b off c).holds I w K):Hd v (f []).length:=by
 obtain ⟨h1,⟨cur,E0,h2,h2'⟩,h3,h4⟩:=h
 obtain ⟨F,-,hF⟩:=h4 I (w.setCell ⟨b,off,none⟩ (.slice none 0 0)) (.slice none 0 0) [] [] Hp.le.rfl (fun x hx hne=>by
  simp only[World.setCell]
  rw[Array.getElem?_modify,if_neg (fun e=>hne e.symm)]) (fun cur' E1 hc=>by
  simp only[World.setCell]
  rw[Array.getElem?_modify,if_pos rfl,hc];rfl) ⟨by simp,.inl ⟨rfl,rfl,rfl⟩⟩
 exact Hd.of_own hF
theorem GH (hT:TTok P tt) {T:TypeId} {i:Operand} (ho:o.op= .indexAddr T x i) (h:Ja tt s k T x i=some res):Oks P w0 s o k res:=by
 obtain ⟨d,hd,h⟩:=bind_some h
 split at h
 ·rename_i E hh j he hx hi
  obtain ⟨r,hr,h⟩:=bind_some h
  obtain ⟨q,hq,h⟩:=bind_some h
  obtain ⟨e,hE,h⟩:=bind_some h
  obtain ⟨hn,h⟩:=ah h
  obtain ⟨a,ha,h⟩:=bind_some h
  obtain ⟨u0,hc,h⟩:=bind_some h
  have hc:=bh hc
  rw[Bool.and_eq_true] at hn
  obtain ⟨hn,hno⟩:=hn
  have hn:=Nat.eq_of_beq_eq_true hn
  have hp:=vc hr
  obtain ⟨ver1,over1,t0,d1,u1,y1,f1,i1,k1,off1,lv1,rest1⟩:=r
  cases t0 with
  | sl E1 t1 =>
   cases u1 with
   | sl E2 t2 =>
    obtain rfl:=Option.some.inj (show some _=some q from hq)
    refine ⟨_,h,lV hp,aC rfl,fun J θ hf=>OpT.weak (fact:=(· =pt (hv θ hh) (j.toNat*t1.size+0))) (gv:=fun _=>[toCh P θ (Hol.ent _ hh)]) (fun w C hs=>?_) (fun u hu=>?_) (fun u hu=>rfl)⟩
    ·have hs1:St J w0 w (Ch.gap (ae E1 t1.rep) [hv θ hh] (ae E2 t2.rep) f1 (ptB (hv θ hh)) (ptO (hv θ hh)+(i1.toNat*k1+off1)) (lv1.v θ)::C):=hs
     have hD:Hd (hv θ hh) (f1 ([] :List t2.den)).length:=by
      obtain ⟨-,-,F,hsep,-,-⟩:=hs1
      obtain ⟨G,K,-,hg,-⟩:=hsep
      exact RH hg
     have hin:inI (α:=t1.den) (f1 ([] :List t2.den)) j:=⟨(zr ha).1,by
      have:=(zr ha).1
      have hc:j<((List.length (α:=t1.den) (f1 ([] :List t2.den)):Nat):Int):=hc
      show j.toNat<List.length (α:=t1.den) (f1 ([] :List t2.den))
      omega⟩
     have:=oF (I:=J) (w0:=w0) (P:=P) (o:=o) hD ((hT.get hd).el _ he) (hT.get hE).ti ho (ak hx) (ak hi) hin
     rw[hn] at this
     exact this w _ hs
    ·have hok:=gW hf hp
     obtain ⟨q1,q2,q3,q4,q5,q6⟩:=hok
     have hm:Mem s.chs s.nxt hh over1 (.own (.sl E1 t1) d1):=⟨Nat.lt_trans q4 q2,fun e' he' c' hs'=>by
      rcases List.mem_cons.1 (hp.mem_iff.1 he') with rfl | he'
      ·rcases hs'.2 with ⟨h1,-⟩ | ⟨-,h1⟩
       ·exact absurd h1 (Nat.ne_of_gt q4)
       ·exact h1
      ·exact absurd hs'.1 (nr hno he')⟩
     refine ⟨⟨Nat.lt_succ_of_lt q1,ha,hm.newer (Res.newer (lV hp) (aC rfl J θ hf)) (Nat.le_succ _)⟩,?_,fun g hg=>by cases hg⟩
     rw[hu]
     show pt (hv (upd θ s.nxt _) hh) _=pt (hv θ hh) _
     rw[show hv (upd θ s.nxt _) hh=hv θ hh from aK Same.upd q1]
   | _=>cases hq
  | _=>cases hq
 ·cases h
end
end R
namespace R
open Go.RowKit
open D
structure Mp where
 ver:Nat
 md:MD
 m:List (md.k.den×md.e.den)
 rest:List Ent
def MD.ck (d:MD) (m:List (d.k.den×d.e.den)):Chk:=.map d.K d.E d.k d.e m
def SJ (h:Hdr) (chs:List Ent):Option Mp:=(pull h chs).bind fun r=>match r.1.2.2 with
 | .map K E k e m=>some ⟨r.1.2.1,⟨K,E,k,e⟩,m,r.2⟩
 | _=>none
def Mp.ent (r:Mp) (h:Hdr):Ent:=(h,r.ver,r.md.ck r.m)
theorem Dz {h:Hdr} {chs:List Ent} {r:Mp} (e:SJ h chs=some r):chs.Perm (r.ent h::r.rest):=by
 obtain ⟨q,hq,e⟩:=bind_some e
 obtain ⟨p,k⟩:=fe hq
 obtain ⟨⟨h',ver,c⟩,rest⟩:=q
 obtain rfl:h'=h:=k
 cases c with
 | map K E k e' m =>
  obtain rfl:=Option.some.inj (show some _=some r from e)
  exact p
 | _=>cases e
def MK.beq:MK→MK→Bool
 | .int,.int=>true
 | .ii,.ii=>true
 | _,_=>false
def ME.beq:ME→ME→Bool
 | .int,.int=>true
 | .bool,.bool=>true
 | _,_=>false
def MD.beq (a b:MD):Bool:=Nat.beq a.K b.K&&Nat.beq a.E b.E&&MK.beq a.k b.k&&ME.beq a.e b.e
theorem MD.beq_eq {a b:MD} (h:MD.beq a b=true):a=b:=by
 obtain ⟨K,E,k,e⟩:=a
 obtain ⟨K',E',k',e'⟩:=b
 unfold MD.beq at h
 simp only[Bool.and_eq_true] at h
 obtain ⟨⟨⟨h1,h2⟩,h3⟩,h4⟩:=h
 obtain rfl:K=K':=Nat.eq_of_beq_eq_true h1
 obtain rfl:E=E':=Nat.eq_of_beq_eq_true h2
 obtain rfl:k=k':=by cases k <;> cases k' <;> first | rfl | cases h3
 obtain rfl:e=e':=by cases e <;> cases e' <;> first | rfl | cases h4
 rfl
def Mb:(k:MK)→AV→Option k.den
 | .int,.one (.val (.int .i64 n))=>some n
 | .ii,.agg [.val (.int .i64 a),.val (.int .i64 b)] =>some (a,b)
 | _,_=>none
theorem zX {k:MK} {v:AV} {d:k.den} (h:Mb k v=some d) (θ:Th):v.v θ=k.val d:=by
 unfold Mb at h
 split at h
 ·rw[←Option.some.inj h];rfl
 ·rw[←Option.some.inj h];rfl
 ·cases h
def PT:(e:ME)→AV→Option e.den
 | .int,.one (.val (.int .i64 n))=>some n
 | .bool,.one (.val (.bool b))=>some b
 | .bool,.one (.nb b)=>some (!b)
 | _,_=>none
theorem Mc {e:ME} {v:AV} {d:e.den} (h:PT e v=some d) (θ:Th):v.v θ=e.val d:=by
 unfold PT at h
 split at h
 ·rw[←Option.some.inj h];rfl
 ·rw[←Option.some.inj h];rfl
 ·rw[←Option.some.inj h];rfl
 ·cases h
theorem ME.val_one (e:ME) (d:e.den):(e.val d).oneCell'=true:=by cases e <;> rfl
section
variable {Y:Type} (tt:TT) (s:Sg) (k:Res→Option Y)
def Um (T:TypeId):Option Y:=(td tt T).bind fun d=>d.mp.bind fun md=>k ⟨[],[],s.chs,[(⟨s.nxt,[]⟩,md.ck [])],.one (.own ⟨s.nxt,[]⟩)⟩
def PU (T:TypeId) (m x y:Operand):Option Y:=(td tt T).bind fun d=>d.mp.bind fun md=>match opd s m with
 | some (.one (.own h))=>(SJ h s.chs).bind fun r=>bp (MD.beq md r.md) ((opd s x).bind fun kv=>(Mb r.md.k kv).bind fun q=>(opd s y).bind fun ev=>(PT r.md.e ev).bind fun i =>
  (@HQ r.md.k.den r.md.e.den r.m r.md.k.ok r.md.e.ok q i).bind fun M=>k ⟨[],[r.ent h],r.rest,[(h,r.md.ck M)],.any ⟨s.nxt,[]⟩⟩)
 | _=>none
def N9 (T:TypeId) (m x:Operand) (two:Bool):Option Y:=(td tt T).bind fun d=>d.mp.bind fun md=>match opd s m with
 | some (.one (.own h))=>(SJ h s.chs).bind fun r=>bp (MD.beq md r.md) ((opd s x).bind fun kv=>(Mb r.md.k kv).bind fun q =>
  SD false (r.md.k.ok q=true) (instDecidableEqBool _ _) (match two with
   | true=>k ⟨[r.ent h],[],r.rest,[],.tup [(false,[.val (r.md.e.val ((@lkM r.md.k.den r.md.e.den r.md.k.dec r.m q).getD r.md.e.z))]),(false,[.val (.bool (@lkM r.md.k.den r.md.e.den r.md.k.dec r.m q).isSome)])]⟩
   | false=>k ⟨[r.ent h],[],r.rest,[],.one (.val (r.md.e.val ((@lkM r.md.k.den r.md.e.den r.md.k.dec r.m q).getD r.md.e.z)))⟩))
 | _=>none
end
section
variable {Y:Type} {tt:TT} {s:Sg} {k:Res→Option Y} {P:Program} {w0:World} {o:Oper} {res:Y} {m x y:Operand}
theorem Jb {θ:Th} {h:Hdr} {ver:Nat} {md:MD} {M:List (md.k.den×md.e.den)} :toCh P θ (h,ver,md.ck M)= @Ch.mp P md.K md.E md.k.den md.e.den md.k.dec md.k.lit md.k.ok md.e.lit md.e.z (hv θ h) M:=rfl
theorem RI {I:Hp} {w:World} {C:List Ch} {K E:TypeId} {κ ε:Type} [DecidableEq κ] {lit:κ→Lit} {ok:κ→Bool} {elit:ε→Lit} {z:ε} {v:Value} {M:List (κ×ε)} (h:St I w0 w (Ch.mp P K E lit ok elit z v M::C)):v.oneCell'=true:=by
 obtain ⟨h1,h2,F,⟨G,G',rfl,⟨b,rfl,rfl,h3⟩,e⟩,h4,h5⟩:=h
 rfl
theorem PV (hT:TTok P tt) {T:TypeId} (ho:o.op= .makeMap T none) (h:Um tt s k T=some res):Oks P w0 s o k res:=by
 obtain ⟨d,hd,h⟩:=bind_some h
 obtain ⟨md,hm,h⟩:=bind_some h
 refine ⟨_,h,by simp,aC rfl,fun J θ hf=>?_⟩
 have h1:= @C8 P J w0 o (evL (envL θ s)) md.k.den md.e.den md.k.dec md.k.lit md.k.ok md.e.lit md.e.z T md.K md.E ho
 intro w C hs
 refine (h1 w C hs).imp fun v w' hv=>?_
 have hone:=letI:=md.k.dec;RI hv.2
 refine ⟨⟨⟨Nat.lt_succ_self _,by rw[cO];exact hone⟩,cO,fun g hg=>?_⟩,?_⟩
 ·obtain rfl:=List.mem_singleton.1 hg
  exact ⟨Nat.lt_succ_self _,Nat.lt_succ_self _,trivial⟩
 ·show St J w0 w' ([toCh P (upd θ s.nxt v) (⟨s.nxt,[]⟩,s.nxt,md.ck [])] ++C)
  rw[Jb,cO];exact hv.2
theorem Ff (hT:TTok P tt) {T:TypeId} (ho:o.op= .mapUpdate T m x y∨o.op= .insert T m x y) (h:PU tt s k T m x y=some res):Oks P w0 s o k res:=by
 obtain ⟨d,hd,h⟩:=bind_some h
 obtain ⟨md,hm,h⟩:=bind_some h
 split at h
 ·rename_i hh hx
  obtain ⟨r,hr,h⟩:=bind_some h
  obtain ⟨he,h⟩:=ah h
  obtain ⟨kv,hk,h⟩:=bind_some h
  obtain ⟨q,hq,h⟩:=bind_some h
  obtain ⟨ev,hev,h⟩:=bind_some h
  obtain ⟨i,hi,h⟩:=bind_some h
  obtain ⟨M,hM,h⟩:=bind_some h
  have hp:=Dz hr
  obtain ⟨m1,m2,m3⟩:=(hT.get hd).mp _ hm
  rw[MD.beq_eq he] at m1 m2 m3
  refine ⟨_,h,xI hp,aC rfl,fun J θ hf=>?_⟩
  have hok:=gW hf hp
  have h1:= @F6 P J w0 o (evL (envL θ s)) r.md.k.den r.md.e.den r.md.k.dec r.md.k.lit r.md.k.val r.md.k.ok r.md.e.val r.md.e.lit r.md.e.ok r.md.e.z T r.md.K r.md.E m x y (hv θ hh) q i r.m M m2 m3 m1 ho (ak hx) ((ak hk).trans (zX hq θ)) ((ak hev).trans (Mc hi θ)) hM
  refine OpT.weak h1 (fun u hu=>⟨Nat.lt_succ_self _,cO,fun g hg=>?_⟩) (fun u hu=>?_)
  ·obtain rfl:=List.mem_singleton.1 hg
   exact ⟨Nat.lt_succ_of_lt hok.1,Nat.lt_succ_self _,trivial⟩
  ·show [_] = [toCh P (upd θ s.nxt u) (hh,s.nxt,r.md.ck M)]
   rw[Jb,show hv (upd θ s.nxt u) hh=hv θ hh from aK Same.upd hok.1]
 ·cases h
theorem Jc (hT:TTok P tt) {T:TypeId} {two:Bool} (ho:o.op= .lookup T m x two) (h:N9 tt s k T m x two=some res):Oks P w0 s o k res:=by
 obtain ⟨d,hd,h⟩:=bind_some h
 obtain ⟨md,hm,h⟩:=bind_some h
 split at h
 ·rename_i hh hx
  obtain ⟨r,hr,h⟩:=bind_some h
  obtain ⟨he,h⟩:=ah h
  obtain ⟨kv,hk,h⟩:=bind_some h
  obtain ⟨q,hq,h⟩:=bind_some h
  obtain ⟨hok,h⟩:=Dc h
  have hp:=Dz hr
  obtain ⟨m1,m2,m3⟩:=(hT.get hd).mp _ hm
  rw[MD.beq_eq he] at m1 m2 m3
  cases two with
  | true =>
   refine ⟨_,h,lV hp,fun _ _ _ g hg=>(by cases hg),fun J θ hf=>?_⟩
   have h1:= @C9 P J w0 o (evL (envL θ s)) r.md.k.den r.md.e.den r.md.k.dec r.md.k.lit r.md.k.val r.md.k.ok r.md.e.val r.md.e.lit r.md.e.ok r.md.e.z T r.md.K r.md.E m x (hv θ hh) q r.m m2 m3 hok m1 ho (ak hx) ((ak hk).trans (zX hq θ))
   refine OpT.weak h1 (fun u hu=>⟨fun y hy z hz=>?_,?_,fun g hg=>by cases hg⟩) (fun u hu=>rfl)
   ·rcases List.mem_cons.1 hy with rfl | hy
    ·obtain rfl:=List.mem_singleton.1 hz;exact ME.val_one _ _
    ·obtain rfl:=List.mem_singleton.1 hy
     obtain rfl:=List.mem_singleton.1 hz;exact Eq.refl true
   ·rw[hu];rfl
  | false =>
   refine ⟨_,h,lV hp,fun _ _ _ g hg=>(by cases hg),fun J θ hf=>?_⟩
   have h1:= @Bb P J w0 o (evL (envL θ s)) r.md.k.den r.md.e.den r.md.k.dec r.md.k.lit r.md.k.val r.md.k.ok r.md.e.val r.md.e.lit r.md.e.ok r.md.e.z T r.md.K r.md.E m x (hv θ hh) q r.m m2 m3 hok m1 ho (ak hx) ((ak hk).trans (zX hq θ))
   refine OpT.weak h1 (fun u hu=>⟨ME.val_one _ _,?_,fun g hg=>by cases hg⟩) (fun u hu=>rfl)
   rw[hu];rfl
 ·cases h
end
end R
namespace R
open Go.RowKit
open D
structure Env where
 tt:TT
 ft:FT
 an:List (Nat×Ty)
 n:Nat
 tr:Trs
section
variable {Y:Type} (V:Env) (s:Sg) (k:Res→Option Y)
def vZ (d:Nat):List (Nat×Ty)→Bool
 | [] =>false
 | (u,_)::l=>Nat.beq u d || vZ d l
def Tk (d:Nat):List (Nat×Ty)→Bool
 | [] =>false
 | (u,.raw)::l=>Nat.beq u d || Tk d l
 | _::l=>Tk d l
def Tl (d:Option Nat) (an:List (Nat×Ty)):Bool:=match d with
 | some d=>Tk d an
 | none=>false
def Tm (d:Nat):List (Nat×Ty)→Bool
 | [] =>false
 | (u,.str)::l=>Nat.beq u d || Tm d l
 | _::l=>Tm d l
def Tn (d:Option Nat) (an:List (Nat×Ty)):Bool:=match d with
 | some d=>Tm d an
 | none=>false
def RJ (d:Option Nat) (an:List (Nat×Ty)):Bool:=match d with
 | some d=>vZ d an
 | none=>false
def PW (dst:Option Nat) (c:Call):Option Y:=match c.callee,c.args.toList,c.argTypes.toList with
 | .builtin .len,[x],[T] =>match opd s x with
  | some (.one (.own _))=>Rs V.tt s k T x
  | some (.vw _ _ _ _ _ _)=>PN V.tt s k T x
  | some (.xv _ _ _ _ _ _ _)=>PN V.tt s k T x
  | _=>sLen V.tt s k T x
 | .builtin .append,[x,y],[T,U] =>match Nat.beq T U with
  | true=>(match opd s x with
   | some (.vw _ _ _ _ _ _)=>RC V.tt s k T x y
   | _=>(match opd s y with
    | some (.sub _ _ _ _ _ _)=>PS V.tt s k T x y
    | some (.pre _ _ _ _ _ _)=>PS V.tt s k T x y
    | _=>Uh V.tt V.an s k dst T x y))
  | false=>RD V.tt s k T U x y
 | .builtin .clear,[x],[T] =>I4 V.tt s k T x
 | .builtin .copy,[x,y],[T,_] =>match opd s x with
  | some (.vw _ _ _ _ _ _)=>I8 V.tt s k T x y
  | some (.xv _ _ _ _ _ _ _)=>I8 V.tt s k T x y
  | _=>Ry V.tt s k T x y
 | .builtin .min,[x,y],[_,_] =>Tf s k x y
 | .builtin .max,[x,y],[_,_] =>Tg s k x y
 | .value (.func g),xs,_=>match (fs V.ft g).bind (·.cl) with
  | some q=>match Nat.beq q.2 7,xs with
   | true,xs=>NY V.ft s k g xs
   | false,[x] =>bp (!Nat.beq q.2 0) (IP s k q.1 q.2 x)
   | false,[x,y] =>bp (Nat.beq q.2 0) (PR s k x y)
   | _,_=>none
  | none=>NX V.ft s k g xs
 | .value (.tmp t),xs,_=>Iw V.ft s k t xs
 | _,_,_=>none
def step (o:Oper):Option Y:=match o.op with
  | .move x=>Pq s k x
  | .assign x=>Pq s k x
  | .pick c x y=>Rp s k c x y
  | .unOp .not _ x=>S9 s k x
  | .unOp .neg _ x=>Ta s k x
  | .binOp b t x y _=>match opd s y with
   | some (.capv _ _)=>PQ s k b x y
   | _=>match opd s x with
    | some (.one (.rd _ (.tree _ _ _) _))=>Ti V.tt s k b t x y
    | some (.one (.ptr _ _))=>Ti V.tt s k b t x y
    | some (.one (.rdn _ _ _ _))=>SH V.tt s k b t x y
    | some (.one (.own _))=>SH V.tt s k b t x y
    | some (.one (.val (.slice _ _ _)))=>SH V.tt s k b t x y
    | _=>Tb V.tt s k b t x y
  | .extract x i=>zC s k x i
  | .indexAddr T x i=>match opd s x with
    | some (.one (.own h))=>(match Dj h s.chs with
      | some _=>Ja V.tt s k T x i
      | none=>H9 V.tt s k T x i)
    | some (.vw _ _ _ _ _ _)=>Dw V.tt s k T x i
    | some (.xv _ _ _ _ _ _ _)=>Dw V.tt s k T x i
    | _=>Dd V.tt s k T x i
  | .fieldAddr T x f=>match opd s x with
    | some (.one (.fz _ _ _ _ _))=>Dq V.tt s k T x f
    | some (.one (.rd _ (.tree _ _ _) _))=>II V.tt s k T x f
    | _=>H3 V.tt s k T x f
  | .load T x=>match opd s x with
    | some (.elr _ _ _ _ _ _ _)=>H4 V.tt s k T x
    | some (.elo _ _ _ _ _ _ _ _)=>NS V.tt s k T x
    | some (.one (.fz _ _ _ _ _))=>E4 V.tt s k T x
    | some (.one (.fzf _ _ _ _ _))=>E4 V.tt s k T x
    | _=>NR V.tt s k T x
  | .store T x y=>match opd s x with
    | some (.elo h _ _ _ _ _ _ _)=>match Dj h s.chs with
      | some _=>Ii V.tt s k T x y
      | none=>Ia V.tt s k T x y
    | _=>H8 V.tt s k T x y
  | .nilCheck x=>PH s k x
  | .slice T x (some lo) (some hi) (some mx)=>I3 V.tt s k T x lo hi mx
  | .slice T x lo hi none=>match opd s x with
    | some (.vw _ _ _ _ _ _)=>zT V.tt s k T x lo hi
    | some (.xv _ _ _ _ _ _ _)=>zT V.tt s k T x lo hi
    | some (.one (.own _))=>match Tl o.dst V.an with
     | true=>zT V.tt s k T x lo hi
     | false=>match Tn o.dst V.an with
      | true=>(match lo,hi with
        | none,some hi=>I7 V.tt s k T x hi
        | _,_=>none)
      | false=>match lo with
      | some _=>match RJ o.dst V.an with
        | true=>IL V.tt s k T x lo hi
        | false=>IM V.tt s k T x lo hi
      | none=>match RJ o.dst V.an with
        | true=>IN V.tt s k T x lo hi
        | false=>IK V.tt s k T x lo hi
    | _=>IJ V.tt s k T x lo hi
  | .box T x=>Ue s k T x
  | .alloc T=>NQ V.tt s k T
  | .build T parts=>NU V.tt s k T parts
  | .buildSlice T m parts=>Ug V.tt V.an s k o.dst T m parts
  | .makeSlice T x y=>Rt V.tt V.an s k o.dst T x y
  | .call c=>PW V s k o.dst c
  | .makeFunc f x y=>NZ s k f x y
  | .makeMap T none=>Um V.tt s k T
  | .convert S D x=>Rq V.tt s k S D x
  | .mapUpdate T m x y=>PU V.tt s k T m x y
  | .insert T m x y=>PU V.tt s k T m x y
  | .lookup T m x two=>N9 V.tt s k T m x two
  | _=>none
end
section
variable {Y:Type} {V:Env} {s:Sg} {k:Res→Option Y} {P:Program} {w0:World} {o:Oper} {res:Y}
theorem RK {α:Type} {a:Array α} {x:α} (h:a.toList= [x]):a= #[x]:=Array.ext' h
theorem Md {α:Type} {a:Array α} {x y:α} (h:a.toList= [x,y]):a= #[x,y]:=Array.ext' h
theorem Me (hT:TTok P V.tt) (hF:FTok P V.ft) {c:Call} (ho:o.op= .call c) (h:PW V s k o.dst c=some res):Oks P w0 s o k res:=by
 obtain ⟨cal,args,tys⟩:=c
 unfold PW at h
 split at h
 ·rename_i x T h1 h2 h3
  obtain rfl:cal= .builtin .len:=h1
  obtain rfl:args= #[x]:=RK h2
  obtain rfl:tys= #[T]:=RK h3
  split at h
  ·exact Lm hT ho h
  ·exact E9 hT ho h
  ·exact E9 hT ho h
  ·exact Pu hT ho h
 ·rename_i x y T U h1 h2 h3
  obtain rfl:cal= .builtin .append:=h1
  obtain rfl:args= #[x,y]:=Md h2
  obtain rfl:tys= #[T,U]:=Md h3
  split at h
  ·rename_i hu
   obtain rfl:T=U:=Nat.eq_of_beq_eq_true hu
   split at h
   ·exact LR hT ho h
   ·split at h
    ·exact Fe hT ho h
    ·exact Fe hT ho h
    ·exact Pz hT ho h
  ·exact L6 hT ho h
 ·rename_i x T h1 h2 h3
  obtain rfl:cal= .builtin .clear:=h1
  obtain rfl:args= #[x]:=RK h2
  obtain rfl:tys= #[T]:=RK h3
  exact GC hT ho h
 ·rename_i x y T U h1 h2 h3
  obtain rfl:cal= .builtin .copy:=h1
  obtain rfl:args= #[x,y]:=Md h2
  obtain rfl:tys= #[T,U]:=Md h3
  split at h
  ·exact BR hT ho h
  ·exact BR hT ho h
  ·exact LJ hT ho h
 ·rename_i x y T U h1 h2 h3
  obtain rfl:cal= .builtin .min:=h1
  obtain rfl:args= #[x,y]:=Md h2
  obtain rfl:tys= #[T,U]:=Md h3
  exact PI ho h
 ·rename_i x y T U h1 h2 h3
  obtain rfl:cal= .builtin .max:=h1
  obtain rfl:args= #[x,y]:=Md h2
  obtain rfl:tys= #[T,U]:=Md h3
  exact PJ ho h
 ·rename_i g h1
  obtain rfl:cal= .value (.func g):=h1
  split at h
  ·rename_i q hq
   obtain ⟨f,hf,hq⟩:=bind_some hq
   split at h
   ·rename_i hb
    exact IB hF (fun f' hf'=>by
     obtain rfl:f=f':=Option.some.inj (hf.symm.trans hf')
     exact ((hF.get hf).cl q hq).2 hb) ho h
   ·rename_i x h7 hx
    obtain rfl:args= #[x]:=RK hx
    obtain ⟨hb,h9⟩:=ah h
    exact IV (((hF.get hf).cl q hq).1.2 (by simpa using hb) h7) ho h9
   ·rename_i x y h7 hx
    obtain rfl:args= #[x,y]:=Md hx
    obtain ⟨hb,h9⟩:=ah h
    exact L7 (((hF.get hf).cl q hq).1.1 hb) ho h9
   ·cases h
  ·exact IA hF ho h
 ·rename_i t h1
  obtain rfl:cal= .value (.tmp t):=h1
  exact IC hF ho h
 ·cases h
theorem Jd (hT:TTok P V.tt) (hF:FTok P V.ft) (h:step V s k o=some res):Oks P w0 s o k res:=by
 unfold step at h
 split at h
 ·exact EM (.inl ‹_›) h
 ·exact EM (.inr ‹_›) h
 ·exact Lj ‹_› h
 ·exact Pr ‹_› h
 ·exact Ps ‹_› h
 ·have ho:= ‹o.op=_›
  split at h
  ·exact L5 ho h
  ·split at h
   ·exact IQ hT ho h
   ·exact IQ hT ho h
   ·exact Ds hT ho h
   ·exact Ds hT ho h
   ·exact Ds hT ho h
   ·exact Pt hT ho h
 ·exact De ‹_› h
 ·have ho:= ‹o.op=_›
  split at h
  ·split at h
   ·exact GH hT ho h
   ·exact Gh hT ho h
  ·exact yC hT ho h
  ·exact yC hT ho h
  ·exact Gc hT ho h
 ·have ho:= ‹o.op=_›
  split at h
  ·exact Gq hT ho h
  ·exact Gr hT ho h
  ·exact H5 hT ho h
 ·have ho:= ‹o.op=_›
  split at h
  ·exact H6 hT ho h
  ·exact If hT ho h
  ·exact BF hT ho h
  ·exact BF hT ho h
  ·exact Ie hT ho h
 ·have ho:= ‹o.op=_›
  split at h
  ·split at h
   ·exact Gl hT ho h
   ·exact Gi hT ho h
  ·exact Gg hT ho h
 ·exact LG ‹_› h
 ·exact GB hT ‹_› h
 ·have ho:= ‹o.op=_›
  split at h
  ·exact tj hT ho h
  ·exact tj hT ho h
  ·split at h
   ·exact tj hT ho h
   ·split at h
    ·split at h
     ·exact GG hT ho h
     ·cases h
    ·split at h
     ·split at h
      ·exact Gu hT ho h
      ·exact Gv hT ho h
     ·split at h
      ·exact Gw hT ho h
      ·exact Gt hT ho h
  ·exact Gs hT ho h
 ·exact Pv ‹_› h
 ·exact Ib hT ‹_› h
 ·exact Ig hT ‹_› h
 ·exact Py hT ‹_› h
 ·exact Lo hT ‹_› h
 ·exact Me hT hF ‹_› h
 ·exact ID ‹_› h
 ·exact PV hT ‹_› h
 ·exact Lk hT ‹_› h
 ·exact Ff hT (.inl ‹_›) h
 ·exact Ff hT (.inr ‹_›) h
 ·exact Jc hT ‹_› h
 ·cases h
end
inductive Gd
 | no | skip | bad
 | yes (t:Nat) (b neg want:Bool)
def guardOf (ops:List Oper) (s:Sg) (o:Oper):Gd:=match o.guard with
 | none=>.no
 | some (g,want)=>match ops[g]? with
  | some p=>match p.dst with
   | some t=>match look s.env t with
    | some (.one (.val (.bool b)))=>.yes t b false want
    | some (.one (.nb b))=>.yes t b true want
    | some .und=>.skip
    | _=>.bad
   | none=>.bad
  | none=>.bad
def DA (s:Sg) (t:Nat) (b:Bool):Sg:=⟨(t,s.nxt,.one (.val (.bool b)))::s.env,s.chs,s.nxt+1⟩
def v7:AV→List Hdr
 | .one (.own h)=>[h]
 | .agg xs=>xs.flatMap fun x=>match x with | .own h=>[h] | _=>[]
 | .elo h _ _ _ _ _ _ _=>[h]
 | _=>[]
def rU:List Hdr→Sg→Sg
 | [],s=>s
 | h::hs,s=>rU hs (settle 4 h s)
def yF (s:Sg):List Operand→List Hdr
 | [] =>[]
 | x::xs=>(match opd s x with | some v=>v7 v | none=>[])++yF s xs
def RL (o:Oper):List Operand:=match o.op with
 | .store _ _ y=>[y]
 | .build _ parts=>parts.toList.map (·.2)
 | .buildSlice _ _ parts=>parts.toList.map (·.2)
 | .call c=>c.args.toList
 | .box _ x=>[x]
 | .binOp _ _ x _ _=>[x]
 | .nilCheck x=>[x]
 | _=>[]
def Un (o:Bool):AV→List (Bool×Hdr)
 | .one (.own h)=>[(false,h)]
 | .one (.ptr h off)=>if o&&Nat.beq off 0 then [(true,h)] else []
 | .agg xs=>xs.flatMap fun x=>match x with | .own h=>[(false,h)] | .ptr h off=>if o&&Nat.beq off 0 then [(true,h)] else [] | _=>[]
 | _=>[]
def To (s:Sg) (o:Bool):List Operand→List (Bool×Hdr)
 | [] =>[]
 | x::xs=>(match opd s x with | some v=>Un o v | none=>[])++To s o xs
def keeps (o:Oper):Bool:=match o.op with
 | .binOp _ _ _ _ _=>false
 | .nilCheck _=>false
 | _=>true
def Mf (tr:Trs) (o:Oper) (s:Sg):Sg:=match tr with
 | [] =>s
 | _=>LM tr (To s (keeps o) (RL o)) s
def SK (tr:Trs) (o:Oper) (s0:Sg):Sg:=match lj s0 with
 | s=>Mf tr o (rU (yF s o.op.operands.toList) s)
section
variable {Y:Type} (V:Env) (all:List Oper) (k:Sg→Option Y)
noncomputable def Mg (kont:Sg→Option Y) (o:Oper) (s:Sg):Option Y:=match guardOf all s o with
 | .bad=>none
 | .no=>bp (okO V.n s o) (match PP V.tt s o with
  | some q=>N7 q.2.xs.length fun c=>kont (after s o.dst (N8 q c))
  | none=>step V s (fun r=>kont (after s o.dst r)) o)
 | .skip=>bp (dstOk V.n o.dst) (kont (skip s o.dst))
 | .yes t b neg want=>if b then (match (!neg)==want with
   | true=>bp (okO V.n (DA s t (!neg)) o) (step V (DA s t (!neg)) (fun r=>kont (after (DA s t (!neg)) o.dst r)) o)
   | false=>bp (dstOk V.n o.dst) (kont (skip (DA s t (!neg)) o.dst)))
  else (match neg==want with
   | true=>bp (okO V.n (DA s t neg) o) (step V (DA s t neg) (fun r=>kont (after (DA s t neg) o.dst r)) o)
   | false=>bp (dstOk V.n o.dst) (kont (skip (DA s t neg) o.dst)))
noncomputable def BU:List Oper→Sg→Option Y
 | [],s=>k s
 | o::os,s=>Mg V all (BU os) o (SK V.tr o s)
end
section
variable {Y:Type} {V:Env} {P:Program} {I:Hp} {w0 w:World} {F:Ch} {J:Hp} {θ:Th} {s:Sg} {a:Act} {res:Y} {Q:Exit→Act→World→Prop}
theorem GI {h:Hdr} {s':Sg} (hs:Dk h s=some s') (hS:Sim P I w0 F V.n J θ s a w):Fr s θ s' θ:=by
 obtain ⟨r,hr,hs⟩:=bind_some hs
 obtain ⟨q,hq,hs⟩:=bind_some hs
 have hp:=vc hr
 obtain ⟨l,ver,hl,hp2,hu⟩:=Bp hq
 have hmem: ∀e,e∈q.2.2→e∈s.chs:=fun e he=>(hp.trans (hp2.cons _)).mem_iff.2 (by simp[he])
 cases hb:q.1 with
 | true =>
  rw[hb] at hs
  obtain rfl:=Option.some.inj (show some _=some s' from hs)
  refine ⟨Nat.le_succ _,Same.rfl,fun e he _=>he,fun e he h' ver' c hs'=>?_⟩
  rcases List.mem_cons.1 he with rfl | he
  ·obtain ⟨rfl,hs'⟩:=hs'
   rcases hs' with ⟨rfl,rfl⟩ | hs'
   ·exact .inr ⟨r.ent h,hp.mem_iff.2 (by simp),rfl,.inr ⟨rfl,rfl⟩⟩
   ·exact hs'.elim
  ·exact .inr ⟨e,hmem e he,hs'⟩
 | false =>
  rw[hb] at hs
  obtain rfl:=Option.some.inj (show some _=some s' from hs)
  refine ⟨Nat.le_succ _,Same.rfl,fun e he _=>he,fun e he h' ver' c hs'=>?_⟩
  rcases List.mem_cons.1 he with rfl | he
  ·obtain ⟨rfl,hs'⟩:=hs'
   rcases hs' with ⟨rfl,rfl⟩ | hs'
   ·exact .inl (Nat.le_refl _)
   ·exact hs'.elim
  ·exact .inr ⟨e,hmem e he,hs'⟩
theorem BV: ∀ {m:Nat} {h:Hdr} {s:Sg},Sim P I w0 F V.n J θ s a w→Fr s θ (settle m h s) θ
 | 0,_,_,hS=>Fr.rfl
 | m+1,h,s,hS=>by
  unfold settle
  split
  ·split
   ·split
    ·rename_i hs
     exact (BV hS).trans (GI hs (vL hS))
    ·exact Fr.rfl
   ·exact Fr.rfl
  ·exact Fr.rfl
theorem pI: ∀ {hs:List Hdr} {s:Sg},Sim P I w0 F V.n J θ s a w→Sim P I w0 F V.n J θ (rU hs s) a w∧Fr s θ (rU hs s) θ
 | [],s,hS=>⟨hS,Fr.rfl⟩
 | h::hs,s,hS=>by
  obtain ⟨k1,k2⟩:=pI (hs:=hs) (vL (m:=4) (h:=h) hS)
  exact ⟨k1,(BV hS).trans k2⟩
theorem PX {t:Nat} {b:Bool} (hS:Sim P I w0 F V.n J θ s a w) (hv':(envL θ s).lookup t=some (.bool b)):Sim P I w0 F V.n J θ (DA s t b) a w∧Fr s θ (DA s t b) θ:=by
 refine ⟨⟨hS.le,hS.agr.sub fun u v h=>?_,hS.st,fun e he=>?_,fun e he=>?_,Bg (d:=some t) (av:=.one (.val (.bool b))) hS.fine.nd hS.fine.ver,fun e he=>eU Same.rfl (Nat.le_succ _) Newer.rfl (hS.fine.chs e he) Hp.le.rfl⟩,Nat.le_succ _,Same.rfl,fun e he h=>?_,Newer.rfl⟩
 ·have h:List.lookup u ((t,Value.bool b)::envL θ s)=some v:=h
  rw[List.lookup_cons] at h
  by_cases e:u=t
  ·subst e
   simp at h
   rw[hv',h]
  ·rw[show (u==t)=false from by simpa using e] at h
   exact h
 ·rcases List.mem_cons.1 he with rfl | he
  ·exact Eq.refl true
  ·exact AV.ok_same Same.rfl (Nat.le_succ _) Newer.rfl (hS.fine.env e he) Hp.le.rfl
 ·rcases List.mem_cons.1 he with rfl | he
  ·exact Nat.lt_succ_self _
  ·exact Nat.lt_succ_of_lt (hS.fine.ver e he)
 ·rcases List.mem_cons.1 he with rfl | he
  ·exact absurd h (Nat.lt_irrefl _)
  ·exact he
theorem Mh {ops:Array Oper} {o:Oper} :match guardOf ops.toList s o with
  | .no=>o.guard=none
  | .skip=> ∃g want d,o.guard=some (g,want)∧(ops[g]?).bind (·.dst)=some d∧(envL θ s).lookup d=some undef
  | .yes t b neg want=> ∃g,o.guard=some (g,want)∧(ops[g]?).bind (·.dst)=some t∧(envL θ s).lookup t=some (.bool (if neg then !b else b))
  | .bad=>True:=by
 unfold guardOf
 cases hg:o.guard with
 | none=>exact rfl
 | some gw =>
  obtain ⟨g,want⟩:=gw
  simp only
  cases hp:ops.toList[g]? with
  | none=>trivial
  | some p =>
   simp only
   cases hd:p.dst with
   | none=>trivial
   | some t =>
    simp only
    have hd':(ops[g]?).bind (·.dst)=some t:=by
     rw[←Array.getElem?_toList,hp];exact hd
    cases hl:look s.env t with
    | none=>trivial
    | some v =>
     have hv':=eL (θ:=θ) hl
     cases v with
     | one x =>
      cases x with
      | val u =>
       cases u with
       | bool b=>exact ⟨g,rfl,hd',hv'⟩
       | _=>trivial
      | nb b=>exact ⟨g,rfl,hd',hv'⟩
      | _=>trivial
     | und=>exact ⟨g,want,t,rfl,hd',hv'⟩
     | _=>trivial
theorem zY {o:Oper} {r:Res} (hG:GoodA P w0 J θ s o r) (hS:Sim P I w0 F V.n J θ s a w) {θ':Th} (hs:Same s.nxt θ θ'):Fr s θ (after s o.dst r) θ' :=
 Fr.put hs (Res.newer hG.perm hG.says)
theorem Mi (hT:TTok P V.tt) (hF:FTok P V.ft) {ops:Array Oper} {rest:List Oper} {o:Oper} {kont:Sg→Option Y} (h:Mg V ops.toList kont o s=some res) (hS:Sim P I w0 F V.n J θ s a w)
  (K: ∀s' θ' a' w',kont s'=some res→Sim P I w0 F V.n J θ' s' a' w'→Fr s θ s' θ'→wpList P ops Q rest a' w'):wpList P ops Q (o::rest) a w:=by
 have hg:=Mh (θ:=θ) (s:=s) (ops:=ops) (o:=o)
 have run: ∀s1,Sim P I w0 F V.n J θ s1 a w→Fr s θ s1 θ→(∀g want,o.guard=some (g,want)→ ∃d,(ops[g]?).bind (·.dst)=some d∧(envL θ s1).lookup d=some (.bool want))→bp (okO V.n s1 o) (step V s1 (fun r=>kont (after s1 o.dst r)) o)=some res→wpList P ops Q (o::rest) a w:=by
  intro s1 hS1 hF1 hgd h
  obtain ⟨hk,h⟩:=ah h
  obtain ⟨r,hr,hG⟩:=Jd hT hF h
  cases hgo:o.guard with
  | none=>exact NO (hG.at hS1.fine) hS1 hgo hk fun θ' a' w' hs hS'=>K _ θ' a' w' hr hS' (hF1.trans (zY (hG.at hS1.fine) hS1 hs))
  | some gw =>
   obtain ⟨g,want⟩:=gw
   obtain ⟨d,hd,hv'⟩:=hgd g want hgo
   exact Pn (hG.at hS1.fine) hS1 hgo hd hv' rfl hk fun θ' a' w' hs hS'=>K _ θ' a' w' hr hS' (hF1.trans (zY (hG.at hS1.fine) hS1 hs))
 have skp: ∀s1,Sim P I w0 F V.n J θ s1 a w→Fr s θ s1 θ→ ∀g want d b,o.guard=some (g,want)→(ops[g]?).bind (·.dst)=some d→(envL θ s1).lookup d=some (.bool b)→b=(!want)→bp (dstOk V.n o.dst) (kont (skip s1 o.dst))=some res→wpList P ops Q (o::rest) a w:=by
  intro s1 hS1 hF1 g want d b hgo hd hv' hb h
  obtain ⟨hk,h⟩:=ah h
  exact Lh hS1 hgo hd hv' hb hk fun a' hS'=>K _ θ a' w h hS' (hF1.trans (Fr.put Same.rfl Newer.rfl))
 unfold Mg at h
 split at h
 ·cases h
 ·rename_i hgo
  rw[hgo] at hg
  obtain ⟨hk,h9⟩:=ah h
  clear h
  split at h9
  ·rename_i q hq
   obtain ⟨q1,q2,hG⟩:=L4 hT hq hS
   have:=Dy h9 _ q1 q2
   exact NO hG hS (show o.guard=none from hg) hk fun θ' a' w' hs hS'=>K _ θ' a' w' this hS' (Fr.rfl.trans (zY hG hS hs))
  ·refine run s hS Fr.rfl (fun g want e=>by rw[show o.guard=none from hg] at e;cases e) ?_
   rw[hk];exact h9
 ·rename_i hgo
  rw[hgo] at hg
  obtain ⟨g,want,d,h1,h2,h3⟩:=hg
  obtain ⟨hk,h⟩:=ah h
  exact F7 hS h1 h2 h3 hk fun a' hS'=>K _ θ a' w h hS' (Fr.put Same.rfl Newer.rfl)
 ·rename_i t b neg want hgo
  rw[hgo] at hg
  obtain ⟨g,h1,h2,h3⟩:=hg
  have both: ∀c:Bool,(envL θ s).lookup t=some (.bool c)→(match c==want with
    | true=>bp (okO V.n (DA s t c) o) (step V (DA s t c) (fun r=>kont (after (DA s t c) o.dst r)) o)
    | false=>bp (dstOk V.n o.dst) (kont (skip (DA s t c) o.dst)))=some res→wpList P ops Q (o::rest) a w:=by
   intro c hc h
   obtain ⟨q1,q2⟩:=PX hS hc
   have hlk:(envL θ (DA s t c)).lookup t=some (.bool c):=by
    show List.lookup t ((t,Value.bool c)::envL θ s)=_
    rw[List.lookup_cons_self]
   split at h
   ·rename_i hcw
    have hcw:c=want:=by simpa using hcw
    exact run _ q1 q2 (fun g' want' e=>by
     rw[h1] at e
     obtain ⟨rfl,rfl⟩:g=g'∧want=want':=by simpa using e
     exact ⟨t,h2,by rw[hlk,hcw]⟩) h
   ·rename_i hcw
    have hcw:c≠want:=by simpa using hcw
    exact skp _ q1 q2 g want t c h1 h2 hlk (by cases c <;> cases want <;> simp_all) h
  cases b with
  | true =>
   refine both (!neg) ?_ (show _=some res from h)
   rw[h3];cases neg <;> rfl
  | false =>
   refine both neg ?_ (show _=some res from h)
   rw[h3];cases neg <;> rfl
theorem PY {tr:Trs} {o:Oper} (hS:Sim P I w0 F V.n J θ s a w): ∃J' θ',J.le J'∧Sim P I w0 F V.n J' θ' (SK tr o s) a w∧Fr s θ (SK tr o s) θ':=by
 obtain ⟨θ1,S1,F1⟩:=rQ hS
 obtain ⟨S2,F2⟩:=pI (hs:=yF (lj s) o.op.operands.toList) S1
 show∃J' θ',J.le J'∧Sim P I w0 F V.n J' θ' (Mf tr o (rU (yF (lj s) o.op.operands.toList) (lj s))) a w∧Fr s θ (Mf tr o (rU (yF (lj s) o.op.operands.toList) (lj s))) θ'
 unfold Mf
 split
 ·exact ⟨J,θ1,Hp.le.rfl,S2,F1.trans F2⟩
 ·obtain ⟨J',θ',h1,h2,h3⟩:=qN S2
  exact ⟨J',θ',h1,h2,(F1.trans F2).trans h3⟩
theorem BW (hT:TTok P V.tt) (hF:FTok P V.ft) {ops:Array Oper} {k:Sg→Option Y} : ∀ {l:List Oper} {s:Sg} {J:Hp} {θ:Th} {a:Act} {w:World},BU V ops.toList k l s=some res→Sim P I w0 F V.n J θ s a w→
  (∀s' J' θ' a' w',k s'=some res→Sim P I w0 F V.n J' θ' s' a' w'→J.le J'→Fr s θ s' θ'→Q .normal a' w')→wpList P ops Q l a w
 | [],s,J,θ,a,w,h,hS,K=>wpList_nil (K s J θ a w h hS Hp.le.rfl Fr.rfl)
 | o::os,s,J,θ,a,w,h,hS,K=>by
  obtain ⟨J1,θ1,q0,q1,q2⟩:=PY (tr:=V.tr) (o:=o) hS
  exact Mi hT hF (show Mg V ops.toList (BU V ops.toList k os) o (SK V.tr o s)=some res from h) q1 fun s' θ' a' w' hk hS' hFr =>
   BW hT hF hk hS' fun s2 J2 θ2 a2 w2 hk2 hS2 hJ2 hFr2=>K s2 J2 θ2 a2 w2 hk2 hS2 (q0.trans hJ2) ((q2.trans hFr).trans hFr2)
end
end R
namespace R
open Go.RowKit
open D
inductive Knd
 | num (k:IntKind) | boo | str
 | rd (E:TypeId) (t:Ty)
 | own (E:TypeId) (t:Ty)
 | map (d:MD)
 | tre (T E:TypeId) (t:Ty)
def Knd.den:Knd→Type
 | .num _=>Int
 | .boo=>Bool
 | .str=>ByteArray
 | .rd _ t=>List t.den
 | .own _ t=>List t.den
 | .map d=>List (d.k.den×d.e.den)
 | .tre _ _ t=>Tr t.den
def RM {a b:MD} (h:a=b) (m:List (a.k.den×a.e.den)):List (b.k.den×b.e.den):=h ▸ m
def BX (d:MD) (x:LV) (chs:List Ent):Option (List (d.k.den×d.e.den)×List Ent):=match x with
 | .own h=>(SJ h chs).bind fun r=>if h:MD.beq r.md d=true then some (RM (MD.beq_eq h) r.m,r.rest) else none
 | _=>none
theorem BY {d:MD} {x:LV} {chs:List Ent} {q:List (d.k.den×d.e.den)×List Ent} (h:BX d x chs=some q): ∃hh ver,x= .own hh∧chs.Perm ((hh,ver,d.ck q.1)::q.2):=by
 unfold BX at h
 split at h
 ·rename_i hh
  obtain ⟨r,hr,h⟩:=bind_some h
  have hp:=Dz hr
  obtain ⟨ver,md,m,rest⟩:=r
  split at h
  ·rename_i he
   obtain rfl:=MD.beq_eq he
   obtain rfl:=Option.some.inj h
   exact ⟨hh,ver,rfl,hp⟩
  ·cases h
 ·cases h
def Oa:List Knd→Type
 | [] =>Unit
 | [k] =>k.den
 | k::l::ks=>k.den×Oa (l::ks)
def nY:List Knd→Type
 | [] =>Unit
 | k::ks=>k.den×nY ks
def toN:(ks:List Knd)→Oa ks→nY ks
 | [],_=>()
 | [_],d=>(d,())
 | _::l::ks,d=>(d.1,toN (l::ks) d.2)
def ofN:(ks:List Knd)→nY ks→Oa ks
 | [],_=>()
 | [_],d=>d.1
 | _::l::ks,d=>(d.1,ofN (l::ks) d.2)
theorem mA: ∀(ks:List Knd) (d:nY ks),toN ks (ofN ks d)=d
 | [],_=>rfl
 | [_],_=>rfl
 | _::l::ks,d=>congrArg (Prod.mk d.1) (mA (l::ks) d.2)
def Ob (k:Knd) (x:LV) (chs:List Ent):Option (k.den×List Ent):=match k with
 | .num k=>(Ge k x).bind fun d=>some (d,chs)
 | .boo=>(yr x).bind fun d=>some (d,chs)
 | .str=>(Gf x).bind fun d=>some (d,chs)
 | .rd E t=>(Ll E t x).bind fun d=>some (d,chs)
 | .own E t=>(rJ E t x chs).bind fun q=>some (q.1,q.2.2)
 | .map d=>BX d x chs
 | .tre T E t=>(QV T E t x).bind fun d=>some (d,chs)
def SL (id:Nat):(k:Knd)→k.den→LV
 | .num k,d=>.val (.int k d)
 | .boo,d=>.val (.bool d)
 | .str,d=>.val (.string d)
 | .rd E t,d=>.rd ⟨id,[]⟩ (.sl E t) d
 | .own _ _,_=>.own ⟨id,[]⟩
 | .map _,_=>.own ⟨id,[]⟩
 | .tre T E t,d=>.rd ⟨id,[]⟩ (.tree T E t) d
def PZ (id ver:Nat):(k:Knd)→k.den→List Ent
 | .own E t,d=>[(⟨id,[]⟩,ver,.own (.sl E t) d)]
 | .map md,d=>[(⟨id,[]⟩,ver,md.ck d)]
 | _,_=>[]
def v8:(ks:List Knd)→List LV→List Ent→Option (nY ks×List Ent)
 | [],[],chs=>some ((),chs)
 | k::ks,x::xs,chs=>(Ob k x chs).bind fun q=>(v8 ks xs q.2).bind fun r=>some ((q.1,r.1),r.2)
 | _,_,_=>none
def zZ (id:Nat):(ks:List Knd)→nY ks→List LV
 | [],_=>[]
 | k::ks,d=>SL id k d.1::zZ (id+1) ks d.2
def xK (id ver:Nat):(ks:List Knd)→nY ks→List Ent
 | [],_=>[]
 | k::ks,d=>PZ id ver k d.1++xK (id+1) ver ks d.2
section
variable {P:Program} {w0 w:World} {J:Hp} {θ:Th} {n:Nat} {C:List Ch}
theorem St.bun {ls:List Ch} {α:Type} {R:Rep α} {cs:List Value} {x:α} (h:St J w0 w (ls++C)) (hb:Bun J ls R cs x):St J w0 w (Ch.own R cs x::C):=by
 obtain ⟨h1,h2,F,h3,h4,h5⟩:=h
 obtain ⟨G,K,rfl,e1,e2⟩:=h3.split
 exact ⟨h1,h2,G++K,⟨G,K,rfl,hb w G e1,e2⟩,h4,h5⟩
theorem Mj {α:Type} {R:Rep α} {u:Value} {x:α} (h:St J w0 w (Ch.own R [u] x::C)):u.oneCell'=true:=by
 obtain ⟨h1,h2,F,⟨G,K,rfl,k,e⟩,h4,h5⟩:=h
 exact R.own_one k u (by simp)
theorem P0 {k:Knd} {x:LV} {chs:List Ent} {q:k.den×List Ent} (h:Ob k x chs=some q) (hx:x.ok P w0 J θ n) (hS:St J w0 w (chs.map (toCh P θ)++C)) {θ':Th} {id ver m:Nat} (hid:θ' id=x.v θ) (hm:id<m) :
  (SL id k q.1).ok P w0 J θ' m∧(SL id k q.1).v θ'=x.v θ∧St J w0 w ((PZ id ver k q.1).map (toCh P θ')++(q.2.map (toCh P θ)++C))∧ ∀e∈q.2,e∈chs:=by
 have hh:hv θ' ⟨id,[]⟩=x.v θ:=hid
 cases k with
 | num k =>
  obtain ⟨d,hd,h⟩:=bind_some (show (Ge k x).bind _=some q from h)
  obtain rfl:=Option.some.inj h
  exact ⟨Eq.refl true,(EN hd θ).symm,hS,fun e he=>he⟩
 | boo =>
  obtain ⟨d,hd,h⟩:=bind_some (show (yr x).bind _=some q from h)
  obtain rfl:=Option.some.inj h
  exact ⟨Eq.refl true,(Bl hd θ).symm,hS,fun e he=>he⟩
 | str =>
  obtain ⟨d,hd,h⟩:=bind_some (show (Gf x).bind _=some q from h)
  obtain rfl:=Option.some.inj h
  exact ⟨Eq.refl true,(EO hd θ).symm,hS,fun e he=>he⟩
 | rd E t =>
  obtain ⟨d,hd,h⟩:=bind_some (show (Ll E t x).bind _=some q from h)
  obtain rfl:=Option.some.inj h
  refine ⟨⟨hm,?_⟩,hh,hS,fun e he=>he⟩
  rw[hh];exact vD hd hx
 | tre T E t =>
  obtain ⟨d,hd,h⟩:=bind_some (show (QV T E t x).bind _=some q from h)
  obtain rfl:=Option.some.inj h
  refine ⟨⟨hm,?_⟩,hh,hS,fun e he=>he⟩
  rw[hh];exact Dg hd hx
 | own E t =>
  obtain ⟨r,hr,h⟩:=bind_some (show (rJ E t x chs).bind _=some q from h)
  obtain rfl:=Option.some.inj h
  obtain ⟨p,hb⟩:=vG hr P J θ
  have h1:St J w0 w (Ch.own (Ty.sl E t).rep [x.v θ] r.1::(r.2.2.map (toCh P θ)++C)):=by
   refine St.bun ?_ hb
   have:=hS.perm ((p.map (toCh P θ)).append_right C)
   rwa [List.map_append,List.append_assoc] at this
  refine ⟨⟨hm,by rw[hh];exact Mj h1⟩,hh,?_,fun e he=>p.mem_iff.2 (by simp[he])⟩
  show St J w0 w (Ch.own _ [hv θ' ⟨id,[]⟩] _::_)
  rw[hh];exact h1
 | map d =>
  obtain ⟨h0,ver0,rfl,p⟩:=BY (show BX d x chs=some q from h)
  have h1:St J w0 w (toCh P θ (h0,ver0,d.ck q.1)::(q.2.map (toCh P θ)++C)):=by
   have:=hS.perm ((p.map (toCh P θ)).append_right C)
   exact this
  have e0:hv θ h0=LV.v θ (.own h0):=rfl
  have h2:St J w0 w (@Ch.mp P d.K d.E d.k.den d.e.den d.k.dec d.k.lit d.k.ok d.e.lit d.e.z (hv θ h0) (show List (d.k.den×d.e.den) from q.1)::(q.2.map (toCh P θ)++C)):=h1
  refine ⟨⟨hm,by rw[hh];exact hx.2⟩,hh,?_,fun e he=>p.mem_iff.2 (by simp[he])⟩
  show St J w0 w (@Ch.mp P d.K d.E d.k.den d.e.den d.k.dec d.k.lit d.k.ok d.e.lit d.e.z (hv θ' ⟨id,[]⟩) (show List (d.k.den×d.e.den) from q.1)::_)
  rw[hh];exact h2
theorem ve: ∀ {ks:List Knd} {xs:List LV} {chs:List Ent} {q:nY ks×List Ent} {id ver:Nat} {C:List Ch},v8 ks xs chs=some q→(∀x∈xs,x.ok P w0 J θ n)→St J w0 w (chs.map (toCh P θ)++C)→ ∀ {θ':Th} {m:Nat},(∀i x,xs[i]? =some x→θ' (id+i)=x.v θ)→id+ks.length≤m→
  (∀x∈zZ id ks q.1,x.ok P w0 J θ' m)∧(zZ id ks q.1).map (·.v θ')=xs.map (·.v θ)∧St J w0 w ((xK id ver ks q.1).map (toCh P θ')++(q.2.map (toCh P θ)++C))∧ ∀e∈q.2,e∈chs
 | [],[],chs,q,id,ver,C,h,_,hS,θ',m,_,_=>by
  obtain rfl:=Option.some.inj (show some _=some q from h)
  exact ⟨fun x hx=>(by cases hx),rfl,hS,fun e he=>he⟩
 | k::ks,x::xs,chs,q,id,ver,C,h,hx,hS,θ',m,hid,hm=>by
  obtain ⟨a,ha,h⟩:=bind_some (show (Ob k x chs).bind _=some q from h)
  obtain ⟨b,hb,h⟩:=bind_some h
  obtain rfl:=Option.some.inj h
  have hm':id<m:=by rw[List.length_cons] at hm;omega
  obtain ⟨a1,a2,a3,a4⟩:=P0 (ver:=ver) ha (hx x (by simp)) hS (θ':=θ') (id:=id) (m:=m) (hid 0 x rfl) hm'
  obtain ⟨b1,b2,b3,b4⟩:=ve (id:=id+1) (ver:=ver) (C:=(PZ id ver k a.1).map (toCh P θ')++C) hb (fun y hy=>hx y (by simp[hy])) (a3.perm (List.perm_append_comm_assoc _ _ _)) (θ':=θ') (m:=m) (fun i y hy=>by
   have:=hid (i+1) y hy
   rwa [show id+(i+1)=id+1+i from by omega] at this) (by rw[List.length_cons] at hm;omega)
  refine ⟨fun y hy=>?_,?_,?_,fun e he=>a4 e (b4 e he)⟩
  ·rcases List.mem_cons.1 hy with rfl | hy
   ·exact a1
   ·exact b1 y hy
  ·show LV.v θ' _::(zZ (id+1) ks b.1).map _=_
   rw[a2,b2];rfl
  ·show St J w0 w ((PZ id ver k a.1++xK (id+1) ver ks b.1).map _++_)
   rw[List.map_append]
   refine b3.perm ?_
   have:=List.perm_append_comm_assoc ((xK (id+1) ver ks b.1).map (toCh P θ')++b.2.map (toCh P θ)) ((PZ id ver k a.1).map (toCh P θ')) C
   rw[List.append_assoc,List.append_assoc] at this
   rw[List.append_assoc]
   exact this
 | [],_::_,chs,q,id,ver,C,h,_,_,_,_,_,_=>by cases h
 | _::_,[],chs,q,id,ver,C,h,_,_,_,_,_,_=>by cases h
end
inductive It
 | slot (t:Nat) (k:Knd)
 | box (t:Nat) (ks:List Knd)
 | row (t:Nat) (E:TypeId) (u:Ty)
 | agg (t:Nat) (ks:List Knd)
 | par (i:Nat) (p:List Nat) (E:TypeId) (u:Ty)
 | gone (t:Nat)
inductive RIt
 | slot (t:Nat) (k:Knd)
 | box (h:Hdr) (T:TypeId) (ks:List Knd)
 | row (h:Hdr) (E:TypeId) (u:Ty)
 | agg (t:Nat) (k:Knd) (ks:List Knd)
def RIt.ks:RIt→List Knd
 | .slot _ k=>[k]
 | .box _ _ ks=>ks
 | .row _ E u=>[.own E u]
 | .agg _ k ks=>k::ks
def oy:List RIt→List Knd
 | [] =>[]
 | r::rs=>r.ks++oy rs
def QX:Option AV→Option Hdr
 | some (.one (.ptr h off))=>if Nat.beq off 0 then some h else none
 | _=>none
def SM:Option AV→Option Hdr
 | some (.one (.own h))=>some h
 | _=>none
theorem P1 {v:Option AV} {h:Hdr} (k:SM v=some h):v=some (.one (.own h)):=by
 unfold SM at k
 split at k
 ·rw[Option.some.inj k]
 ·cases k
def resolve (s:Sg):It→Option RIt
 | .slot t k=>some (.slot t k)
 | .box t ks=>(QX (look s.env t)).bind fun h=>(sZ h s.chs).bind fun b=>some (.box h b.T ks)
 | .row t E u=>(SM (look s.env t)).bind fun h=>some (.row h E u)
 | .agg t ks=>match ks with
  | k::ks=>some (.agg t k ks)
  | [] =>none
 | .par i p E u=>bp (Nat.blt i s.nxt) (some (.row ⟨i,p⟩ E u))
 | .gone _=>none
def Aa (s:Sg):List It→Option (List RIt)
 | [] =>some []
 | i::is=>(resolve s i).bind fun r=>(Aa s is).bind fun rs=>some (r::rs)
def oneOf:Option AV→Option LV
 | some (.one x)=>some x
 | _=>none
theorem Mk {v:Option AV} {x:LV} (h:oneOf v=some x):v=some (.one x):=by
 unfold oneOf at h
 split at h
 ·rw[Option.some.inj h]
 ·cases h
def Je:Option AV→Option (List LV)
 | some (.agg xs)=>some xs
 | _=>none
theorem Ml {v:Option AV} {x:List LV} (h:Je v=some x):v=some (.agg x):=by
 unfold Je at h
 split at h
 ·rw[Option.some.inj h]
 ·cases h
def Mm (env:List (Nat×Nat×AV)) (chs:List Ent):(r:RIt)→Option (nY r.ks×List Ent)
 | .slot t k=>(oneOf (look env t)).bind fun x=>v8 [k] [x] chs
 | .box h T ks=>(sZ h chs).bind fun b=>bp (Nat.beq b.T T) (v8 ks b.cells b.rest)
 | .row h E u=>v8 [.own E u] [.own h] chs
 | .agg t k ks=>(Je (look env t)).bind fun xs=>v8 (k::ks) xs chs
def Mn:(ks ls:List Knd)→nY ks→nY ls→nY (ks++ls)
 | [],_,_,e=>e
 | _::ks,ls,d,e=>(d.1,Mn ks ls d.2 e)
def Oc:(ks ls:List Knd)→nY (ks++ls)→nY ks
 | [],_,_=>()
 | _::ks,ls,d=>(d.1,Oc ks ls d.2)
def P2:(ks ls:List Knd)→nY (ks++ls)→nY ls
 | [],_,d=>d
 | _::ks,ls,d=>P2 ks ls d.2
theorem DB: ∀(ks ls:List Knd) (d:nY ks) (e:nY ls),Oc ks ls (Mn ks ls d e)=d
 | [],_,_,_=>rfl
 | _::ks,ls,d,e=>congrArg (Prod.mk d.1) (DB ks ls d.2 e)
theorem DC: ∀(ks ls:List Knd) (d:nY ks) (e:nY ls),P2 ks ls (Mn ks ls d e)=e
 | [],_,_,_=>rfl
 | _::ks,ls,d,e=>DC ks ls d.2 e
def P3 (env:List (Nat×Nat×AV)):(rs:List RIt)→List Ent→Option (nY (oy rs)×List Ent)
 | [],chs=>some ((),chs)
 | r::rs,chs=>(Mm env chs r).bind fun q=>(P3 env rs q.2).bind fun p=>some (Mn r.ks (oy rs) q.1 p.1,p.2)
def QY (id:Nat):(r:RIt)→nY r.ks→List (Nat×Nat×AV)
 | .slot t k,d=>[(t,id,.one (SL id k d.1))]
 | .agg t k ks,d=>[(t,id,.agg (zZ id (k::ks) d))]
 | _,_=>[]
def QZ (id ver:Nat):(r:RIt)→nY r.ks→List Ent
 | .slot _ k,d=>xK id ver [k] d
 | .agg _ k ks,d=>xK id ver (k::ks) d
 | .box h T ks,d=>(h,ver,.blk T (zZ id ks d))::xK id ver ks d
 | .row h E u,d=>[(h,ver,.own (.sl E u) d.1)]
def xL:(id:Nat)→(rs:List RIt)→nY (oy rs)→List (Nat×Nat×AV)
 | _,[],_=>[]
 | id,r::rs,d=>QY id r (Oc r.ks (oy rs) d)++xL (id+r.ks.length) rs (P2 r.ks (oy rs) d)
def tl (ver:Nat):(id:Nat)→(rs:List RIt)→nY (oy rs)→List Ent
 | _,[],_=>[]
 | id,r::rs,d=>QZ id ver r (Oc r.ks (oy rs) d)++tl ver (id+r.ks.length) rs (P2 r.ks (oy rs) d)
structure Cut where
 nxt:Nat
 its:List RIt
 env:List (Nat×Nat×AV)
 chs:List Ent
def Cut.top (c:Cut):Nat:=c.nxt+(oy c.its).length
def Cut.at (c:Cut) (d:nY (oy c.its)):Sg:=⟨xL c.nxt c.its d++c.env,tl c.top c.nxt c.its d++c.chs,c.top+1⟩
def Tp (t:Nat):List Nat→Bool
 | [] =>false
 | u::l=>Nat.beq u t || Tp t l
def GJ (l:List (Nat×Nat×AV)) (t:Nat):Option Nat:=match l with
 | [] =>none
 | (u,k,_)::l=>if Nat.beq u t then some k else GJ l t
def vf (env:List (Nat×Nat×AV)):List (Nat×Nat×AV)→Bool
 | [] =>true
 | e::l=>(match GJ env e.1 with | some v=>Nat.beq v e.2.1 | none=>false)&&vf env l
def DD:List Ent→List Ent→Option (List Ent)
 | [],chs=>some chs
 | e::l,chs=>(pull e.1 chs).bind fun r=>bp (Nat.beq r.1.2.1 e.2.1) (DD l r.2)
def distinctH:List Ent→Bool
 | [] =>true
 | e::l=>Bk e.1 l&&distinctH l
def oQ (s:Sg):List RIt→List Hdr
 | [] =>[]
 | .slot t _::rs=>(match look s.env t with | some v=>v7 v | none=>[])++oQ s rs
 | .box h _ _::rs=>(match sZ h s.chs with | some b=>v7 (.agg b.cells) | none=>[])++oQ s rs
 | .row h _ _::rs=>h::oQ s rs
 | .agg t _ _::rs=>(match look s.env t with | some v=>v7 v | none=>[])++oQ s rs
def wc:List Ent→List Hdr
 | [] =>[]
 | (h,_,.own _ _)::l=>h::wc l
 | _::l=>wc l
def Cut.of (c:Cut) (s0:Sg):Option (nY (oy c.its)):=match rU (wc c.chs) (rU (oQ s0 c.its) s0) with
 | s=>(P3 s.env c.its s.chs).bind fun q=>(DD c.chs q.2).bind fun _=>bp (vf s.env c.env) (some q.1)
def RIt.hdrs:RIt→List Hdr
 | .slot _ _=>[]
 | .box h _ _=>[h]
 | .row h _ _=>[h]
 | .agg _ _ _=>[]
def hdrsR:List RIt→List Hdr
 | [] =>[]
 | r::rs=>r.hdrs++hdrsR rs
def BZ:List (Nat×Nat×AV)→List Nat→List (Nat×Nat×AV)
 | [],_=>[]
 | e::l,seen=>match Tp e.1 seen with
  | true=>BZ l seen
  | false=>e::BZ l (e.1::seen)
theorem pJ: ∀ {l:List (Nat×Nat×AV)} {seen:List Nat},(BZ l seen).Sublist l
 | [],_=>List.Sublist.refl _
 | e::l,seen=>by
  unfold BZ
  split
  ·exact pJ.cons _
  ·exact pJ.cons_cons _
def P4:List It→List It
 | [] =>[]
 | .gone _::is=>P4 is
 | i::is=>i::P4 is
def P5 (s:Sg):List It→List Hdr
 | [] =>[]
 | .gone t::is=>(match look s.env t with
  | some (.one (.ptr h _))=>match sZ h s.chs with | some b=>v7 (.agg b.cells) | none=>[]
  | some v=>v7 v
  | none=>[])++P5 s is
 | _::is=>P5 s is
def we (ks:List Nat) (is:List It) (s:Sg):Option Cut:=(Aa s (P4 is)).bind fun rs=>bp (distinctH s.chs) (some ⟨s.nxt,rs,BZ (s.env.filter fun e=> !Tp e.1 ks) [],s.chs.filter fun e=> !Uj e.1 (P5 s is++(oQ s rs++hdrsR rs))⟩)
theorem P6 {P:Program} {w0:World} {J:Hp} {θ:Th} {m id ver:Nat} {chs:List Ent} {k:Knd} {d:k.den} (h1:id<m) (h2:ver<m): ∀e∈PZ id ver k d,okE P w0 J θ m chs e:=by
 cases k with
 | own E t=>intro e he;obtain rfl:=List.mem_singleton.1 he;exact ⟨h1,h2,trivial⟩
 | map md=>intro e he;obtain rfl:=List.mem_singleton.1 he;exact ⟨h1,h2,trivial⟩
 | _=>intro e he;cases he
theorem vh {P:Program} {w0:World} {J:Hp} {θ:Th} {m ver:Nat} {chs:List Ent} (h2:ver<m): ∀ {ks:List Knd} {id:Nat} {d:nY ks},id+ks.length≤m→ ∀e∈xK id ver ks d,okE P w0 J θ m chs e
 | [],_,_,_=>fun e he=>by cases he
 | k::ks,id,d,h1=>fun e he=>by
  rw[List.length_cons] at h1
  rcases List.mem_append.1 he with he | he
  ·exact P6 (by omega) h2 e he
  ·exact vh h2 (by omega) e he
section
variable {P:Program} {w0 w:World} {J:Hp} {θ:Th} {n:Nat} {C:List Ch}
def Uo (P:Program) (w0 w:World) (J:Hp) (θ:Th) (env:List (Nat×Nat×AV)) (chs:List Ent) (hs:List Hdr) (len:Nat) (rest:List Ent) (E:Nat→List (Nat×Nat×AV)) (N:Nat→Nat→List Ent):Prop:=
 ∃vals:List Value,vals.length=len∧ ∀(θ':Th) (id ver m:Nat),(∀i v,vals[i]? =some v→θ' (id+i)=v)→id+len≤m→ver<m→(∀h∈hs,hv θ' h=hv θ h∧h.id<m)→ ∀C,St J w0 w (chs.map (toCh P θ)++C)→
  (∀e∈E id,(∀chs',e.2.2.ok P w0 J θ' m chs')∧ ∃x,look env e.1=some x∧e.2.2.v θ'=x.v θ)∧(∀chs',∀e∈N id ver,okE P w0 J θ' m chs' e)∧St J w0 w ((N id ver).map (toCh P θ')++(rest.map (toCh P θ)++C))
theorem Mo {env:List (Nat×Nat×AV)} {chs chs0:List Ent} {r:RIt} {q:nY r.ks×List Ent} (h:Mm env chs r=some q) (henv: ∀e∈env,e.2.2.ok P w0 J θ n chs0) (hchs: ∀e∈chs,okE P w0 J θ n chs0 e) :
  Uo P w0 w J θ env chs r.hdrs r.ks.length q.2 (fun id=>QY id r q.1) (fun id ver=>QZ id ver r q.1):=by
 cases r with
 | slot t k =>
  obtain ⟨x,hx,h⟩:=bind_some (show (oneOf (look env t)).bind _=some q from h)
  have hx:=Mk hx
  ·have hxo:x.ok P w0 J θ n:=by
    obtain ⟨e,he,h1⟩:=pE hx
    have:=henv e he
    rw[h1] at this
    exact this
   refine ⟨[x.v θ],rfl,fun θ' id ver m hid hm hv' hh C hS=>?_⟩
   obtain ⟨k1,k2,k3,k4⟩:=ve (ver:=ver) (C:=C) (id:=id) (θ':=θ') (m:=m) h (fun y hy=>by obtain rfl:=List.mem_singleton.1 hy;exact hxo) hS (fun i y hy=>by
    cases i with
    | zero=>simp at hy;rw[←hy];exact hid 0 _ rfl
    | succ i=>simp at hy) hm
   refine ⟨fun e he=>?_,fun chs'=>vh hv' hm,k3⟩
   obtain rfl:=List.mem_singleton.1 he
   exact ⟨fun chs'=>k1 _ (by simp[zZ]),_,hx,(List.cons.inj (show _::_=_::_ from k2)).1⟩
 | box hh T ks =>
  obtain ⟨b,hb,h⟩:=bind_some (show (sZ hh chs).bind _=some q from h)
  obtain ⟨hT,h⟩:=ah h
  have hT:=Nat.eq_of_beq_eq_true hT
  have hp:=kK hb
  have hbk:=hchs (b.ent hh) (hp.mem_iff.2 (by simp))
  have hlen: ∀ {ks:List Knd} {xs:List LV} {chs:List Ent} {q:nY ks×List Ent},v8 ks xs chs=some q→xs.length=ks.length:=by
   intro ks
   induction ks with
   | nil=>intro xs chs q h;cases xs with
    | nil=>rfl
    | cons _ _=>cases h
   | cons k ks ih=>intro xs chs q h;cases xs with
    | nil=>cases h
    | cons x xs =>
     obtain ⟨a,ha,h⟩:=bind_some (show (Ob k x chs).bind _=some q from h)
     obtain ⟨c,hc,h⟩:=bind_some h
     rw[List.length_cons,List.length_cons,ih hc]
  have hl:=hlen h
  have hvl:(b.cells.map (·.v θ)).length=ks.length:=by rw[List.length_map];exact hl
  have hget: ∀ {θ':Th} {id:Nat},(∀i v,(b.cells.map (·.v θ))[i]? =some v→θ' (id+i)=v)→ ∀i x,b.cells[i]? =some x→θ' (id+i)=x.v θ:=fun hid i x hx=>hid i _ (by rw[List.getElem?_map,hx];rfl)
  refine ⟨b.cells.map (·.v θ),hvl,fun θ' id ver m hid hm hv' hh' C hS=>?_⟩
  ·have hS':St J w0 w (b.rest.map (toCh P θ)++(Ch.blk (bk (hv θ hh)) (b.cells.map (·.v θ)) b.T::C)):=by
    refine (hS.perm ((hp.map (toCh P θ)).append_right C)).perm ?_
    exact (List.perm_middle (l₁:=b.rest.map (toCh P θ)) (l₂:=C)).symm
   obtain ⟨k1,k2,k3,k4⟩:=ve (ver:=ver) (id:=id) (θ':=θ') (m:=m) h hbk.2.2 hS' (hget hid) hm
   obtain ⟨g1,g2⟩:=hh' hh (by simp[RIt.hdrs])
   refine ⟨fun e he=>(by cases he),fun chs' e he=>?_,?_⟩
   ·rcases List.mem_cons.1 he with rfl | he
    ·exact ⟨g2,hv',k1⟩
    ·exact vh hv' hm e he
   ·show St J w0 w (Ch.blk (bk (hv θ' hh)) ((zZ id ks q.1).map (·.v θ')) T::((xK id ver ks q.1).map (toCh P θ')++(q.2.map (toCh P θ)++C)))
    rw[g1,k2,←hT]
    refine k3.perm ?_
    rw[←List.append_assoc,←List.append_assoc]
    exact List.perm_middle
 | agg t k ks =>
  obtain ⟨xs,hx,h⟩:=bind_some (show (Je (look env t)).bind _=some q from h)
  have hx:=Ml hx
  have hxo: ∀x∈xs,x.ok P w0 J θ n:=by
   obtain ⟨e,he,h1⟩:=pE hx
   have:=henv e he
   rw[h1] at this
   exact this
  have hlen: ∀ {ks:List Knd} {xs:List LV} {chs:List Ent} {q:nY ks×List Ent},v8 ks xs chs=some q→xs.length=ks.length:=by
   intro ks
   induction ks with
   | nil=>intro xs chs q h;cases xs with
    | nil=>rfl
    | cons _ _=>cases h
   | cons k ks ih=>intro xs chs q h;cases xs with
    | nil=>cases h
    | cons x xs =>
     obtain ⟨a,ha,h⟩:=bind_some (show (Ob k x chs).bind _=some q from h)
     obtain ⟨c,hc,h⟩:=bind_some h
     rw[List.length_cons,List.length_cons,ih hc]
  refine ⟨xs.map (·.v θ),by rw[List.length_map];exact hlen h,fun θ' id ver m hid hm hv' hh C hS=>?_⟩
  obtain ⟨k1,k2,k3,k4⟩:=ve (ver:=ver) (C:=C) (id:=id) (θ':=θ') (m:=m) h hxo hS (fun i y hy=>hid i _ (by rw[List.getElem?_map,hy];rfl)) hm
  refine ⟨fun e he=>?_,fun chs'=>vh hv' hm,k3⟩
  obtain rfl:=List.mem_singleton.1 he
  refine ⟨fun chs'=>k1,_,hx,?_⟩
  show Value.agg ((zZ id (k::ks) q.1).map (·.v θ')).toArray=Value.agg (xs.map (·.v θ)).toArray
  rw[k2]
 | row hh E u =>
  have h:v8 [.own E u] [.own hh] chs=some q:=h
  obtain ⟨a,ha,h⟩:=bind_some (show (Ob (.own E u) (.own hh) chs).bind _=some q from h)
  obtain ⟨c,hc,h⟩:=bind_some h
  obtain rfl:=Option.some.inj (show some ((),a.2)=some c from hc)
  obtain rfl:=Option.some.inj h
  obtain ⟨r,hr,ha⟩:=bind_some (show (rJ E u (.own hh) chs).bind _=some a from ha)
  obtain rfl:=Option.some.inj ha
  obtain ⟨p,hb⟩:=vG hr P J θ
  refine ⟨[hv θ hh],rfl,fun θ' id ver m hid hm hv' hh' C hS=>?_⟩
  have h1:St J w0 w (Ch.own (Ty.sl E u).rep [hv θ hh] r.1::(r.2.2.map (toCh P θ)++C)):=by
   refine St.bun ?_ hb
   have:=hS.perm ((p.map (toCh P θ)).append_right C)
   rwa [List.map_append,List.append_assoc] at this
  refine ⟨fun e he=>(by cases he),fun chs' e he=>?_,?_⟩
  ·obtain rfl:=List.mem_singleton.1 he
   exact ⟨(hh' hh (by simp[RIt.hdrs])).2,hv',trivial⟩
  ·show St J w0 w (Ch.own _ [hv θ' hh] _::_)
   rw[(hh' hh (by simp[RIt.hdrs])).1];exact h1
theorem Mq {k:Knd} {x:LV} {chs:List Ent} {q:k.den×List Ent} (h:Ob k x chs=some q): ∀e∈q.2,e∈chs:=by
 cases k with
 | num k=>obtain ⟨d,hd,h⟩:=bind_some (show (Ge k x).bind _=some q from h);obtain rfl:=Option.some.inj h;exact fun e he=>he
 | boo=>obtain ⟨d,hd,h⟩:=bind_some (show (yr x).bind _=some q from h);obtain rfl:=Option.some.inj h;exact fun e he=>he
 | str=>obtain ⟨d,hd,h⟩:=bind_some (show (Gf x).bind _=some q from h);obtain rfl:=Option.some.inj h;exact fun e he=>he
 | rd E t=>obtain ⟨d,hd,h⟩:=bind_some (show (Ll E t x).bind _=some q from h);obtain rfl:=Option.some.inj h;exact fun e he=>he
 | own E t =>
  obtain ⟨r,hr,h⟩:=bind_some (show (rJ E t x chs).bind _=some q from h)
  obtain rfl:=Option.some.inj h
  exact fun e he=>(vH hr).mem_iff.2 (by simp[he])
 | tre T E t=>obtain ⟨d,hd,h⟩:=bind_some (show (QV T E t x).bind _=some q from h);obtain rfl:=Option.some.inj h;exact fun e he=>he
 | map d =>
  obtain ⟨h0,ver0,-,p⟩:=BY (show BX d x chs=some q from h)
  exact fun e he=>p.mem_iff.2 (by simp[he])
theorem oR: ∀ {ks:List Knd} {xs:List LV} {chs:List Ent} {q:nY ks×List Ent},v8 ks xs chs=some q→ ∀e∈q.2,e∈chs
 | [],[],chs,q,h=>by obtain rfl:=Option.some.inj (show some _=some q from h);exact fun e he=>he
 | k::ks,x::xs,chs,q,h=>by
  obtain ⟨a,ha,h⟩:=bind_some (show (Ob k x chs).bind _=some q from h)
  obtain ⟨b,hb,h⟩:=bind_some h
  obtain rfl:=Option.some.inj h
  exact fun e he=>Mq ha e (oR hb e he)
 | [],_::_,chs,q,h=>by cases h
 | _::_,[],chs,q,h=>by cases h
theorem Jf {env:List (Nat×Nat×AV)} {chs:List Ent} {r:RIt} {q:nY r.ks×List Ent} (h:Mm env chs r=some q): ∀e∈q.2,e∈chs:=by
 cases r with
 | slot t k =>
  obtain ⟨x,hx,h⟩:=bind_some (show (oneOf (look env t)).bind _=some q from h)
  exact oR h
 | box hh T ks =>
  obtain ⟨b,hb,h⟩:=bind_some (show (sZ hh chs).bind _=some q from h)
  obtain ⟨hT,h⟩:=ah h
  exact fun e he=>(kK hb).mem_iff.2 (List.mem_cons_of_mem _ (oR h e he))
 | row hh E u=>exact oR (show v8 [.own E u] [.own hh] chs=some q from h)
 | agg t k ks =>
  obtain ⟨x,hx,h⟩:=bind_some (show (Je (look env t)).bind _=some q from h)
  exact oR h
theorem Fg {env:List (Nat×Nat×AV)} {chs0:List Ent} (henv: ∀e∈env,e.2.2.ok P w0 J θ n chs0): ∀ {rs:List RIt} {chs:List Ent} {q:nY (oy rs)×List Ent},P3 env rs chs=some q→(∀e∈chs,okE P w0 J θ n chs0 e)→
  (∀e∈q.2,e∈chs)∧Uo P w0 w J θ env chs (hdrsR rs) (oy rs).length q.2 (fun id=>xL id rs q.1) (fun id ver=>tl ver id rs q.1)
 | [],chs,q,h,_=>by
  obtain rfl:=Option.some.inj (show some _=some q from h)
  exact ⟨fun e he=>he,[],rfl,fun θ' id ver m _ _ _ _ C hS=>⟨fun e he=>(by cases he),fun chs' e he=>(by cases he),hS⟩⟩
 | r::rs,chs,q,h,hchs=>by
  obtain ⟨a,ha,h⟩:=bind_some (show (Mm env chs r).bind _=some q from h)
  obtain ⟨b,hb,h⟩:=bind_some h
  obtain rfl:=Option.some.inj h
  have hsub:=Jf ha
  obtain ⟨v1,l1,k1⟩:=Mo (w:=w) ha henv hchs
  obtain ⟨s2,v2,l2,k2⟩:=Fg henv hb fun e he=>hchs e (hsub e he)
  refine ⟨fun e he=>hsub e (s2 e he),v1++v2,by rw[List.length_append,l1,l2];exact (List.length_append ..).symm,fun θ' id ver m hid hm hv' hh C hS=>?_⟩
  have hm:id+(r.ks.length+(oy rs).length)≤m:=by
   have:(oy (r::rs)).length=r.ks.length+(oy rs).length:=List.length_append ..
   rw[this] at hm;exact hm
  obtain ⟨a1,a2,a3⟩:=k1 θ' id ver m (fun i v hi=>hid i v (by rw[List.getElem?_append_left (List.getElem?_eq_some_iff.1 hi).1];exact hi)) (by omega) hv' (fun x hx=>hh x (List.mem_append_left _ hx)) C hS
  obtain ⟨b1,b2,b3⟩:=k2 θ' (id+r.ks.length) ver m (fun i v hi=>by
   have:=hid (r.ks.length+i) v (by rw[List.getElem?_append_right (by omega),l1,Nat.add_sub_cancel_left];exact hi)
   rwa [←Nat.add_assoc] at this) (by omega) hv' (fun x hx=>hh x (List.mem_append_right _ hx)) ((QZ id ver r a.1).map (toCh P θ')++C) (a3.perm (List.perm_append_comm_assoc _ _ _))
  have e1:xL id (r::rs) (Mn r.ks (oy rs) a.1 b.1)=QY id r a.1++xL (id+r.ks.length) rs b.1:=by
   show QY id r (Oc _ _ _)++xL _ rs (P2 _ _ _)=_
   rw[DB,DC]
  have e2:tl ver id (r::rs) (Mn r.ks (oy rs) a.1 b.1)=QZ id ver r a.1++tl ver (id+r.ks.length) rs b.1:=by
   show QZ id ver r (Oc _ _ _)++tl ver _ rs (P2 _ _ _)=_
   rw[DB,DC]
  show (∀e∈xL id (r::rs) (Mn r.ks (oy rs) a.1 b.1),_)∧(∀chs',∀e∈tl ver id (r::rs) (Mn r.ks (oy rs) a.1 b.1),_)∧St J w0 w ((tl ver id (r::rs) (Mn r.ks (oy rs) a.1 b.1)).map _++_)
  rw[e1,e2]
  refine ⟨fun e he=>?_,fun chs' e he=>?_,?_⟩
  ·rcases List.mem_append.1 he with he | he
   ·exact a1 e he
   ·exact b1 e he
  ·rcases List.mem_append.1 he with he | he
   ·exact a2 chs' e he
   ·exact b2 chs' e he
  ·rw[List.map_append]
   refine b3.perm ?_
   have:=List.perm_append_comm_assoc ((tl ver (id+r.ks.length) rs b.1).map (toCh P θ')++b.2.map (toCh P θ)) ((QZ id ver r a.1).map (toCh P θ')) C
   rw[List.append_assoc,List.append_assoc] at this
   rw[List.append_assoc]
   exact this
end
end R
namespace R
open Go.RowKit
open D
def DE:Chk→Prop
 | .hole _ _ _ _ _ _ _ _ _ _=>False
 | _=>True
theorem Mr {id ver:Nat} {k:Knd} {d:k.den} : ∀e∈PZ id ver k d,e.2.1=ver∧DE e.2.2:=by
 cases k with
 | own E t=>intro e he;obtain rfl:=List.mem_singleton.1 he;exact ⟨rfl,trivial⟩
 | map md=>intro e he;obtain rfl:=List.mem_singleton.1 he;exact ⟨rfl,trivial⟩
 | _=>intro e he;cases he
theorem rV {ver:Nat} : ∀ {ks:List Knd} {id:Nat} {d:nY ks},∀e∈xK id ver ks d,e.2.1=ver∧DE e.2.2
 | [],_,_=>fun e he=>by cases he
 | k::ks,id,d=>fun e he=>by
  rcases List.mem_append.1 he with he | he
  ·exact Mr e he
  ·exact rV e he
theorem B0 {ver:Nat} : ∀ {rs:List RIt} {id:Nat} {d:nY (oy rs)},∀e∈tl ver id rs d,e.2.1=ver∧DE e.2.2
 | [],_,_=>fun e he=>by cases he
 | r::rs,id,d=>fun e he=>by
  rcases List.mem_append.1 he with he | he
  ·cases r with
   | slot t k=>exact rV e he
   | box h T ks =>
    rcases List.mem_cons.1 he with rfl | he
    ·exact ⟨rfl,trivial⟩
    ·exact rV e he
   | row h E u=>obtain rfl:=List.mem_singleton.1 he;exact ⟨rfl,trivial⟩
   | agg t k ks=>exact rV e he
  ·exact B0 e he
theorem B1: ∀ {rs:List RIt} {id:Nat} {d:nY (oy rs)},(∀e∈xL id rs d,id≤e.2.1∧e.2.1<id+(oy rs).length)∧(xL id rs d).Pairwise fun a b=>a.2.1≠b.2.1
 | [],_,_=>⟨fun e he=>(by cases he),List.Pairwise.nil⟩
 | r::rs,id,d=>by
  have hl:(oy (r::rs)).length=r.ks.length+(oy rs).length:=List.length_append ..
  obtain ⟨k1,k2⟩:=B1 (rs:=rs) (id:=id+r.ks.length) (d:=P2 r.ks (oy rs) d)
  have hE: ∀e∈QY id r (Oc r.ks (oy rs) d),e.2.1=id∧0<r.ks.length:=fun e he=>by
   cases r with
   | slot t k=>obtain rfl:=List.mem_singleton.1 he;exact ⟨rfl,Nat.one_pos⟩
   | agg t k ks=>obtain rfl:=List.mem_singleton.1 he;exact ⟨rfl,Nat.succ_pos _⟩
   | box _ _ _=>cases he
   | row _ _ _=>cases he
  have hP:(QY id r (Oc r.ks (oy rs) d)).Pairwise fun a b=>a.2.1≠b.2.1:=by
   cases r with
   | slot t k=>exact List.pairwise_singleton _ _
   | agg t k ks=>exact List.pairwise_singleton _ _
   | box _ _ _=>exact List.Pairwise.nil
   | row _ _ _=>exact List.Pairwise.nil
  refine ⟨fun e he=>?_,List.pairwise_append.2 ⟨hP,k2,fun a ha b hb=>?_⟩⟩
  ·rw[hl]
   rcases List.mem_append.1 he with he | he
   ·have:=hE e he;omega
   ·have:=k1 e he;omega
  ·have:=hE a ha;have:=k1 b hb;omega
theorem Fh {t v:Nat} : ∀ {l:List (Nat×Nat×AV)},GJ l t=some v→ ∃x,look l t=some x∧(t,v,x)∈l
 | (u,k,x)::l,h=>by
  unfold GJ at h
  split at h
  ·rename_i hu
   have:u=t:=Nat.eq_of_beq_eq_true hu
   subst this
   obtain rfl:=Option.some.inj h
   refine ⟨x,?_,by simp⟩
   unfold look
   rw[if_pos (Nat.beq_refl u)]
  ·rename_i hu
   obtain ⟨y,h1,h2⟩:=Fh h
   refine ⟨y,?_,by simp[h2]⟩
   unfold look
   rw[if_neg hu];exact h1
theorem wg {env:List (Nat×Nat×AV)} : ∀ {l:List (Nat×Nat×AV)},vf env l=true→ ∀e∈l,GJ env e.1=some e.2.1
 | e::l,h,x,hx=>by
  have h:((match GJ env e.1 with | some v=>Nat.beq v e.2.1 | none=>false)&&vf env l)=true:=h
  rw[Bool.and_eq_true] at h
  rcases List.mem_cons.1 hx with rfl | hx
  ·have h1:=h.1
   split at h1
   ·rename_i v hv
    rw[hv,Nat.eq_of_beq_eq_true h1]
   ·cases h1
  ·exact wg h.2 x hx
theorem yG: ∀ {l chs rest:List Ent},DD l chs=some rest→(∀e∈l,∀e'∈chs,e'.1=e.1→e'.2.1=e.2.1→e'=e)→chs.Perm (l++rest)
 | [],chs,rest,h,_=>by obtain rfl:=Option.some.inj (show some _=some rest from h);exact List.Perm.refl _
 | e::l,chs,rest,h,k=>by
  obtain ⟨r,hr,h⟩:=bind_some (show (pull e.1 chs).bind _=some rest from h)
  obtain ⟨hv,h⟩:=ah h
  obtain ⟨p,he⟩:=fe hr
  have hre:r.1=e:=k e (by simp) r.1 (p.mem_iff.2 (by simp)) he (Nat.eq_of_beq_eq_true hv)
  rw[hre] at p
  exact p.trans ((yG h fun x hx x' hx'=>k x (by simp[hx]) x' (p.mem_iff.2 (by simp[hx']))).cons e)
theorem ue: ∀ {l:List Ent},distinctH l=true→ ∀a∈l,∀b∈l,a.1=b.1→a=b
 | e::l,h,a,ha,b,hb,hab=>by
  have h:(Bk e.1 l&&distinctH l)=true:=h
  rw[Bool.and_eq_true] at h
  rcases List.mem_cons.1 ha with h1 | h1
  ·rcases List.mem_cons.1 hb with h2 | h2
   ·rw[h1,h2]
   ·rw[h1] at hab;exact absurd hab.symm (nr h.1 h2)
  ·rcases List.mem_cons.1 hb with h2 | h2
   ·rw[h2] at hab;exact absurd hab (nr h.1 h1)
   ·exact ue h.2 a h1 b h2 hab
theorem Jg {l:List (Nat×Nat×AV)} (h:l.Pairwise fun a b=>a.2.1≠b.2.1): ∀a∈l,∀b∈l,a.2.1=b.2.1→a=b:=by
 induction l with
 | nil=>intro a ha;cases ha
 | cons e l ih =>
  intro a ha b hb hab
  obtain ⟨h1,h2⟩:=List.pairwise_cons.1 h
  rcases List.mem_cons.1 ha with k1 | k1
  ·rcases List.mem_cons.1 hb with k2 | k2
   ·rw[k1,k2]
   ·rw[k1] at hab;exact absurd hab (h1 b k2)
  ·rcases List.mem_cons.1 hb with k2 | k2
   ·rw[k2] at hab;exact absurd hab.symm (h1 a k1)
   ·exact ih h2 a k1 b k2 hab
structure CutOk (P:Program) (w0:World) (c:Cut) (s:Sg) (J0:Hp) (θ0:Th):Prop where
 nxt:c.nxt=s.nxt
 env: ∀e∈c.env,e∈s.env
 nd:c.env.Pairwise fun a b=>a.2.1≠b.2.1
 chs: ∀e∈c.chs,e∈s.chs
 dist:distinctH s.chs=true
 hdr: ∀h∈hdrsR c.its,h.id<s.nxt
 fine:Fine P w0 J0 θ0 s
section
variable {V:Env} {P:Program} {I:Hp} {w0 w:World} {F:Ch} {J J0:Hp} {θ θ0:Th} {s s':Sg} {a:Act} {c:Cut}
theorem rW {ks:List Nat} {is:List It} (h:we ks is s=some c) (hf:Fine P w0 J θ s):CutOk P w0 c s J θ:=by
 obtain ⟨rs,hrs,h⟩:=bind_some h
 obtain ⟨hd,h⟩:=ah h
 obtain rfl:=Option.some.inj h
 have hres: ∀ {is:List It} {rs:List RIt},Aa s is=some rs→ ∀h∈hdrsR rs,h.id<s.nxt:=by
  intro is
  induction is with
  | nil=>intro rs h x hx;obtain rfl:=Option.some.inj (show some _=some rs from h);cases hx
  | cons i is ih =>
   intro rs h x hx
   obtain ⟨r,hr,h⟩:=bind_some (show (resolve s i).bind _=some rs from h)
   obtain ⟨rs',hrs',h⟩:=bind_some h
   obtain rfl:=Option.some.inj h
   rcases List.mem_append.1 hx with hx | hx
   ·cases i with
    | slot t k=>obtain rfl:=Option.some.inj (show some _=some r from hr);cases hx
    | gone t=>cases hr
    | agg t ks =>
     cases ks with
     | nil=>cases hr
     | cons k ks=>obtain rfl:=Option.some.inj (show some _=some r from hr);cases hx
    | par i p E u =>
     obtain ⟨hi,hr⟩:=ah (show bp (Nat.blt i s.nxt) _=some r from hr)
     obtain rfl:=Option.some.inj hr
     obtain rfl:=List.mem_singleton.1 hx
     rw[Nat.blt_eq] at hi
     exact hi
    | box t ks =>
     obtain ⟨h0,h1,hr⟩:=bind_some (show (QX (look s.env t)).bind _=some r from hr)
     obtain ⟨b,hb,hr⟩:=bind_some hr
     obtain rfl:=Option.some.inj hr
     obtain rfl:=List.mem_singleton.1 hx
     exact (hf.chs _ ((kK hb).mem_iff.2 (List.mem_cons_self ..))).1
    | row t E u =>
     obtain ⟨h0,h1,hr⟩:=bind_some (show (SM (look s.env t)).bind _=some r from hr)
     obtain rfl:=Option.some.inj hr
     obtain rfl:=List.mem_singleton.1 hx
     obtain ⟨e,he,h2⟩:=pE (P1 h1)
     have:=hf.env e he
     rw[h2] at this
     exact this.1
   ·exact ih hrs' x hx
 exact ⟨rfl,fun e he=>(List.mem_filter.1 (pJ.mem he)).1,(hf.nd.filter _).sublist pJ,fun e he=>(List.mem_filter.1 he).1,hd,hres hrs,hf⟩
theorem wh (hC:CutOk P w0 c s J0 θ0) (hS:Sim P I w0 F V.n J θ s' a w) (hFr:Fr s θ0 s' θ) (hJ:J0.le J) {d:nY (oy c.its)} (h:c.of s'=some d): ∃θ',Sim P I w0 F V.n J θ' (c.at d) a w∧Fr s θ0 (c.at d) θ':=by
 unfold Cut.of at h
 obtain ⟨S1,F1⟩:=pI (hs:=oQ s' c.its) hS
 obtain ⟨S2,F2⟩:=pI (hs:=wc c.chs) S1
 generalize hs1:rU (wc c.chs) (rU (oQ s' c.its) s')=s1 at h S2 F2
 simp only at h
 obtain ⟨q,hq,h⟩:=bind_some h
 obtain ⟨rest2,hrest,h⟩:=bind_some h
 obtain ⟨henv,h⟩:=ah h
 obtain rfl:=Option.some.inj h
 have hfr:Fr s θ0 s1 θ:=(hFr.trans F1).trans F2
 obtain ⟨hsub,vals,hvl,hcut⟩:=Fg (w:=w) S2.fine.env hq S2.fine.chs
 have hsame:Same s.nxt θ0 θ:=hfr.same
 let θ':Th:=fun i=>if i<s.nxt then θ i else vals.getD (i - s.nxt) undef
 have hθ:Same s.nxt θ θ':=fun i hi=>if_pos hi
 have hθ0:Same s.nxt θ0 θ':=hsame.trans hθ (Nat.le_refl _)
 have htop:c.top=s.nxt+(oy c.its).length:=by unfold Cut.top;rw[hC.nxt]
 obtain ⟨e1,e2,e3⟩:=hcut θ' s.nxt c.top (c.top+1) (fun i v hi=>by
  show (if s.nxt+i<s.nxt then _ else vals.getD (s.nxt+i - s.nxt) undef)=v
  rw[if_neg (by omega),Nat.add_sub_cancel_left,List.getD_eq_getElem?_getD,hi];rfl) (by rw[htop];exact Nat.le_succ _) (Nat.lt_succ_self _) (fun x hx=>⟨aK hθ (hC.hdr x hx),by have:=hC.hdr x hx;rw[htop];omega⟩) [F] S2.st
 have hstay: ∀e∈c.chs,∀e'∈q.2,e'.1=e.1→e'.2.1=e.2.1→e'=e:=fun e he e' he' h1 h2=>by
  have hes:=hC.chs e he
  have hek:=hC.fine.chs e hes
  rcases hfr.chs e' (hsub e' he') e'.1 e'.2.1 e'.2.2 ⟨rfl,.inl ⟨rfl,rfl⟩⟩ with h3 | ⟨e0,he0,h3⟩
  ·have:=hek.2.1;omega
  ·have:=ue hC.dist e0 he0 e hes (h3.1.trans h1)
   subst this
   rcases h3.2 with ⟨h4,h5⟩ | h4
   ·obtain ⟨x1,x2,x3⟩:=e'
    obtain ⟨y1,y2,y3⟩:=e0
    simp only at h1 h2 h5
    rw[h1,h2,h5]
   ·obtain ⟨y1,y2,y3⟩:=e0
    cases y3 with
    | hole over t dd u y f i k off lv =>
     have h5:=h4.1
     have h6:=hek.2.2.2.1
     have h7:over=e'.2.1:=h5
     have h8:over<y2:=h6
     have h9:e'.2.1=y2:=h2
     omega
    | _=>exact h4.elim
 have hperm:=yG hrest hstay
 have hnew:Newer s.nxt s.chs (tl c.top s.nxt c.its q.1++c.chs):=fun e he h' ver x hs=>by
  rcases List.mem_append.1 he with he | he
  ·obtain ⟨k1,k2⟩:=B0 e he
   rcases hs.2 with ⟨h1,h2⟩ | h1
   ·left;rw[←h1,k1,htop];omega
   ·obtain ⟨y1,y2,y3⟩:=e
    cases y3 with
    | hole _ _ _ _ _ _ _ _ _ _=>exact k2.elim
    | _=>exact h1.elim
  ·exact .inr ⟨e,hC.chs e he,hs⟩
 have hlook: ∀e∈c.env,look s1.env e.1=some e.2.2:=fun e he=>by
  obtain ⟨x,h1,h2⟩:=Fh (wg henv e he)
  have hes:=hC.env e he
  have:=Jg hC.fine.nd _ (hfr.env _ h2 (hC.fine.ver e hes)) e hes rfl
  rw[h1,←this]
 have hat:c.at q.1=⟨xL s.nxt c.its q.1++c.env,tl c.top s.nxt c.its q.1++c.chs,c.top+1⟩:=by unfold Cut.at;rw[hC.nxt]
 obtain ⟨v1,v2⟩:=B1 (rs:=c.its) (id:=s.nxt) (d:=q.1)
 refine ⟨θ',?_,by
  rw[hat]
  refine ⟨show s.nxt≤c.top+1 by rw[htop];omega,hθ0,fun e he hv0=>?_,hnew⟩
  rcases List.mem_append.1 he with he | he
  ·have:=v1 e he;omega
  ·exact hC.env e he⟩
 rw[hat]
 refine ⟨S2.le,S2.agr.pick _ fun p hp=>?_,?_,fun e he=>?_,fun e he=>?_,List.pairwise_append.2 ⟨v2,hC.nd,fun x hx y hy hxy=>?_⟩,fun e he=>?_⟩
 ·obtain ⟨e,he,rfl⟩:=List.mem_map.1 hp
  rcases List.mem_append.1 he with he | he
  ·obtain ⟨-,x,h1,h2⟩:=e1 e he
   show (envL θ s1).lookup e.1=some (e.2.2.v θ')
   rw[h2];exact eL h1
  ·have hok:=hC.fine.env e (hC.env e he)
   show (envL θ s1).lookup e.1=some (e.2.2.v θ')
   rw[AV.v_same hθ0 hok,←AV.v_same hsame hok];exact eL (hlook e he)
 ·have hch:c.chs.map (toCh P θ')=c.chs.map (toCh P θ):=List.map_congr_left fun e he=>by
   have hok:=hC.fine.chs e (hC.chs e he)
   rw[lg hθ0 hok,lg hsame hok]
  show St J w0 w ((tl c.top s.nxt c.its q.1++c.chs).map (toCh P θ')++ [F])
  rw[List.map_append,hch]
  have h1:=e3.perm (List.Perm.append_left _ ((hperm.map (toCh P θ)).append_right [F]))
  rw[List.map_append] at h1
  refine St.left (ds:=rest2.map (toCh P θ)) (h1.perm ?_)
  rw[List.append_assoc,List.append_assoc,List.append_assoc]
  exact (List.Perm.append_left _ (List.Perm.append_left _ List.perm_append_comm))
 ·rcases List.mem_append.1 he with he | he
  ·exact (e1 e he).1 _
  ·exact AV.ok_same hθ0 (show s.nxt≤c.top+1 by rw[htop];omega) hnew (hC.fine.env e (hC.env e he)) hJ
 ·rcases List.mem_append.1 he with he | he
  ·have:=v1 e he
   show e.2.1<c.top+1
   rw[htop];omega
  ·have:=hC.fine.ver e (hC.env e he)
   show e.2.1<c.top+1
   rw[htop];omega
 ·have:=v1 x hx
  have:=hC.fine.ver y (hC.env y hy)
  omega
 ·rcases List.mem_append.1 he with he | he
  ·exact e2 _ e he
  ·exact eU hθ0 (show s.nxt≤c.top+1 by rw[htop];omega) hnew (hC.fine.chs e (hC.chs e he)) hJ
end
end R
namespace R
open Go.RowKit
open D
def rA (t:Nat):List Nat→Bool
 | [] =>false
 | u::l=>Nat.beq u t || rA t l
theorem ln {t:Nat} : ∀ {l:List Nat},rA t l=true↔t∈l
 | [] =>by simp[rA]
 | u::l=>by
  unfold rA
  rw[Bool.or_eq_true,ln (l:=l),List.mem_cons]
  constructor
  ·rintro (h | h)
   ·exact .inl (Nat.eq_of_beq_eq_true h).symm
   ·exact .inr h
  ·rintro (h | h)
   ·exact .inl (by rw[h];exact Nat.beq_refl u)
   ·exact .inr h
theorem DF {t:Nat} {l:List Nat} :rA t l=false↔t∉l:=by
 rw[←ln (l:=l)];simp
def wi:List Nat→Bool
 | [] =>true
 | u::l=> !rA u l&&wi l
theorem oS: ∀ {l:List Nat},wi l=true→l.Nodup
 | [],_=>List.nodup_nil
 | u::l,h=>by
  unfold wi at h
  rw[Bool.and_eq_true,Bool.not_eq_true',DF] at h
  exact List.nodup_cons.2 ⟨h.1,oS h.2⟩
structure OpK where
 reads:List Nat
 needs:List Nat
 gives:List Nat
 src:List (Nat×Option Nat)
structure Skel where
 ops:List OpK
 nres:Nat
 base:List Nat
 pre:List (List Nat)
 fin:List (Nat×Option Nat)
 left:List Nat
structure Sm where
 fact:Nat→(Nat→Value)→Prop
 chunk:Nat→(Nat→Value)→Ch
namespace Skel
def op (p:Skel) (i:Nat):OpK:=p.ops.getD i ⟨[],[],[],[]⟩
def before (p:Skel) (i:Nat):List Nat:=p.pre.getD i []
def srcOf (t:Nat):List (Nat×Option Nat)→Option (Option Nat)
 | [] =>none
 | (u,x)::l=>if Nat.beq u t then some x else srcOf t l
def ev (p:Skel) (L:List (Nat×Value)) (i:Nat) (vs:Nat→Value):Operand→Value
 | .tmp t=>match srcOf t (p.op i).src with
  | some (some j)=>vs j
  | _=>(L.lookup t).getD undef
 | x=>evL L x
end Skel
structure Loc (p:Skel) (q:Sm) (m:Nat):Prop where
 fact: ∀i,i<m→ ∀vs vs',(∀j,j=i∨j∈p.before i→vs' j=vs j)→q.fact i vs→q.fact i vs'
 chB: ∀x,x∈p.base→ ∀vs vs',q.chunk x vs'=q.chunk x vs
 chG: ∀i,i<m→ ∀x,x∈(p.op i).gives→ ∀vs vs',(∀j,j=i∨j∈p.before i→vs' j=vs j)→q.chunk x vs'=q.chunk x vs
def Skel.goal (p:Skel) (q:Sm) (P:Program) (I:Hp) (w0:World) (L:List (Nat×Value)) (i:Nat) (o:Oper):Prop:=
 ∀vs,(∀j,j∈p.before i→q.fact j vs)→
  match xE o vs with
  | some true=>OpT P I w0 o (p.ev L i vs) (((p.op i).reads++(p.op i).needs).map (q.chunk · vs)) (fun v=>q.fact i (upd vs i v)) (fun v=>((p.op i).reads++(p.op i).gives).map (q.chunk · (upd vs i v)))
  | some false=>q.fact i (upd vs i undef)∧(p.op i).needs= [] ∧(p.op i).gives= []
  | none=>False
def isDst (ops:List Oper) (j t:Nat):Bool:=match ops[j]? with
 | some o=>match o.dst with
  | some u=>Nat.beq u t
  | none=>false
 | none=>false
theorem pK {ops:List Oper} {j t:Nat} :isDst ops j t=true↔(ops.toArray[j]?).bind (·.dst)=some t:=by
 unfold isDst
 rw[List.getElem?_toArray]
 cases ops[j]? with
 | none=>simp
 | some o =>
  simp only[Option.bind_some]
  cases o.dst with
  | none=>simp
  | some u=>simp
def Od (l:List Nat) (f:Nat→Bool):Bool:=match l with
 | [] =>false
 | x::l=>f x || Od l f
def allN (l:List Nat) (f:Nat→Bool):Bool:=match l with
 | [] =>true
 | x::l=>f x&&allN l f
theorem DG {f:Nat→Bool} : ∀ {l:List Nat},Od l f=true↔ ∃x,x∈l∧f x=true
 | [] =>by simp[Od]
 | x::l=>by unfold Od;rw[Bool.or_eq_true,DG (l:=l)];simp
theorem oT {f:Nat→Bool} : ∀ {l:List Nat},allN l f=true↔ ∀x,x∈l→f x=true
 | [] =>by simp[allN]
 | x::l=>by unfold allN;rw[Bool.and_eq_true,oT (l:=l)];simp
def SN (l:List Oper) (k:Nat) (f:Nat→Oper→Bool):Bool:=match l with
 | [] =>true
 | o::l=>f k o&&SN l (k+1) f
theorem Jh {f:Nat→Oper→Bool} : ∀ {l:List Oper} {k:Nat},SN l k f=true→ ∀i o,l[i]? =some o→f (k+i) o=true
 | [],_,_,i,o,h=>by simp at h
 | x::l,k,h,i,o,hi=>by
  unfold SN at h
  rw[Bool.and_eq_true] at h
  cases i with
  | zero=>simp at hi;subst hi;exact h.1
  | succ i =>
   have:=Jh h.2 i o (by simpa using hi)
   rwa [show k+1+i=k+(i+1) from by omega] at this
def Skel.okOp (p:Skel) (n:Nat) (kn:Nat→Bool) (ops:List Oper) (all:List Nat) (i:Nat) (o:Oper) (b:List Nat) (r:OpK):Bool:=
 noSelect o&&(dstOk n o.dst&&(allN (edgesOf o) (fun j=>Nat.blt j i) &&
 (allN b (fun j=>Nat.blt j i&&(rA j (edgesOf o) || Od (edgesOf o) fun k=>rA j (p.before k))) &&
 (allN (slotsOf ops.toArray o) (fun t=>match srcOf t r.src with
  | none=>false
  | some none=>kn t&&allN all fun j=> !isDst ops j t || (Nat.beq j i || rA i (p.before j))
  | some (some j)=>isDst ops j t&&(rA j b&&allN all fun k=> !isDst ops k t || (Nat.beq k j || (Nat.beq k i || (rA k (p.before j) || rA i (p.before k)))))) &&
 ((match o.guard with
  | none=>true
  | some (g,_)=>match ops[g]? with
   | none=>false
   | some og=>match og.dst with
    | none=>false
    | some t=>match srcOf t r.src with
     | some (some j)=>Nat.beq j g
     | _=>false) &&
 (allN (r.reads++r.needs) (fun x=>Nat.blt x p.nres&&(rA x p.base || Od b fun j=>rA x (p.op j).gives)) &&
 (allN r.reads (fun x=>allN all fun k=>Nat.beq k i || (!rA x (p.op k).needs || rA i (p.before k))) &&
 (allN r.needs (fun x=>allN all fun k=>Nat.beq k i || !rA x (p.op k).needs) &&
 (allN r.gives (fun x=>Nat.blt x p.nres&&(!rA x p.base&&(!rA x (r.reads++r.needs)&&allN all (fun k=>Nat.beq k i || !rA x (p.op k).gives)))) &&
 (wi (r.reads++r.needs)&&wi (r.reads++r.gives)))))))))))
def Skel.ok (p:Skel) (n:Nat) (kn:Nat→Bool) (ops:List Oper):Bool:=
 SN ops 0 fun i o=>p.okOp n kn ops (List.range ops.length) i o (p.before i) (p.op i)
def Skel.okB (p:Skel) (kn:Nat→Bool) (ops:List Oper):Bool:=
 let all:=List.range ops.length
 wi p.base&&(wi p.left&&(allN p.left (fun x=>(rA x p.base || Od all fun j=>rA x (p.op j).gives)&&allN all fun j=> !rA x (p.op j).needs) &&
 (allN (p.base++all.flatMap fun j=>(p.op j).gives) (fun x=>rA x p.left || Od all fun j=>rA x (p.op j).needs) &&
 p.fin.all fun (t,s)=>match s with
  | none=>kn t&&allN all fun j=> !isDst ops j t
  | some j=>Nat.blt j ops.length&&(isDst ops j t&&allN all fun k=> !isDst ops k t || (Nat.beq k j || rA k (p.before j))))))
def Skel.out (p:Skel) (L:List (Nat×Value)) (vs:Nat→Value):List (Nat×Value):=
 p.fin.map fun (t,s)=>(t,match s with | some j=>vs j | none=>(L.lookup t).getD undef)
structure Inv (p:Skel) (q:Sm) (C:List Ch) (I:Hp) (w0:World) (n:Nat) (L:List (Nat×Value)) (ops:Array Oper) (S:Nat→Bool) (vs:Nat→Value) (a:Act) (w:World):Prop where
 closed: ∀i,S i=true→ ∀j,j∈p.before i→S j=true
 lt: ∀i,S i=true→i<ops.size
 defers:a.defers= []
 size:a.tmps.size=n
 old: ∀t v,L.lookup t=some v→(∀j,S j=true→(ops[j]?).bind (·.dst)≠some t)→a.tmps.getD t undef=v
 new: ∀j t,S j=true→(ops[j]?).bind (·.dst)=some t→(∀k,S k=true→(ops[k]?).bind (·.dst)=some t→k=j∨k∈p.before j)→a.tmps.getD t undef=vs j
 facts: ∀i,S i=true→q.fact i vs
 st: ∃l:List Nat,l.Nodup∧(∀x,x∈l↔(x∈p.base∨ ∃j,S j=true∧x∈(p.op j).gives)∧ ¬ ∃j,S j=true∧x∈(p.op j).needs)∧St I w0 w (l.map (q.chunk · vs)++C)
structure Skel.Good (p:Skel) (n:Nat) (L:List (Nat×Value)) (ops:Array Oper) (i:Nat) (o:Oper):Prop where
 sel:noSelect o=true
 dst:dstOk n o.dst=true
 edges: ∀j,j∈edgesOf o→j<i
 bef: ∀j,j∈p.before i→j<i∧(j∈edgesOf o∨ ∃k,k∈edgesOf o∧j∈p.before k)
 slots: ∀t,t∈slotsOf ops o→(Skel.srcOf t (p.op i).src=some none∧(L.lookup t).isSome=true∧ ∀j,j<ops.size→(ops[j]?).bind (·.dst)=some t→j=i∨i∈p.before j) ∨
  ∃j,Skel.srcOf t (p.op i).src=some (some j)∧(ops[j]?).bind (·.dst)=some t∧j∈p.before i∧ ∀k,k<ops.size→(ops[k]?).bind (·.dst)=some t→k=j∨k=i∨k∈p.before j∨i∈p.before k
 guard: ∀g want,o.guard=some (g,want)→ ∃t,(ops[g]?).bind (·.dst)=some t∧Skel.srcOf t (p.op i).src=some (some g)
 have_: ∀x,x∈(p.op i).reads++(p.op i).needs→x<p.nres∧(x∈p.base∨ ∃j,j∈p.before i∧x∈(p.op j).gives)
 keep: ∀x,x∈(p.op i).reads→ ∀k,k<ops.size→x∈(p.op k).needs→k=i∨i∈p.before k
 once: ∀x,x∈(p.op i).needs→ ∀k,k<ops.size→x∈(p.op k).needs→k=i
 give: ∀x,x∈(p.op i).gives→x<p.nres∧x∉p.base∧x∉(p.op i).reads++(p.op i).needs∧ ∀k,k<ops.size→x∈(p.op k).gives→k=i
 nd1:((p.op i).reads++(p.op i).needs).Nodup
 nd2:((p.op i).reads++(p.op i).gives).Nodup
theorem Q0 {a b:Nat} :Nat.beq a b=true↔a=b:=⟨Nat.eq_of_beq_eq_true,fun h=>by rw[h];exact Nat.beq_refl b⟩
theorem Q1 {a b:Nat} :Nat.blt a b=true↔a<b:=by rw[Nat.blt_eq]
theorem Skel.good_of_ok {p:Skel} {n:Nat} {kn:Nat→Bool} {L:List (Nat×Value)} {ops:List Oper} (hkn: ∀t,kn t=true→(L.lookup t).isSome=true) (h:p.ok n kn ops=true) {i:Nat} {o:Oper} (hi:ops[i]? =some o):p.Good n L ops.toArray i o:=by
 have him:i<ops.length:=(List.getElem?_eq_some_iff.1 hi).1
 have h:=Jh h i o hi
 rw[Nat.zero_add] at h
 unfold Skel.okOp at h
 simp only[Bool.and_eq_true,oT,DG,ln,Q1,Q0,Bool.or_eq_true,Bool.not_eq_true',DF] at h
 obtain ⟨h1,h2,h2',h3,h4,h5,h7,h8,h9,h10,h11,h12⟩:=h
 have hr: ∀k,k<ops.toArray.size→k∈List.range ops.length:=fun k hk=>List.mem_range.2 (by simpa using hk)
 refine ⟨h1,h2,h2',fun j hj=>?_,fun t ht=>?_,fun g want hg=>?_,fun x hx=>h7 x hx,fun x hx k hk hn=>?_,fun x hx k hk hn=>?_,fun x hx=>?_,oS h11,oS h12⟩
 ·obtain ⟨e1,e2⟩:=h3 j hj
  exact ⟨e1,e2⟩
 ·have:=h4 t ht
  split at this
  ·cases this
  ·rename_i he
   simp only[Bool.and_eq_true,oT,Bool.or_eq_true,Bool.not_eq_true',Q0,ln] at this
   refine .inl ⟨he,hkn t this.1,fun j hj hd=>?_⟩
   rcases this.2 j (hr j hj) with e | e
   ·rw[pK.2 hd] at e;cases e
   ·exact e
  ·rename_i j he
   simp only[Bool.and_eq_true,oT,Bool.or_eq_true,Bool.not_eq_true',Q0,ln] at this
   refine .inr ⟨j,he,pK.1 this.1,this.2.1,fun k hk hd=>?_⟩
   rcases this.2.2 k (hr k hk) with e | e
   ·rw[pK.2 hd] at e;cases e
   ·exact e
 ·rw[hg] at h5
  simp only at h5
  split at h5
  ·cases h5
  ·rename_i og hog
   split at h5
   ·cases h5
   ·rename_i t ht
    split at h5
    ·rename_i j hj
     refine ⟨t,by rw[List.getElem?_toArray,hog];exact ht,?_⟩
     rw[←Nat.eq_of_beq_eq_true h5];exact hj
    ·cases h5
 ·rcases h8 x hx k (hr k hk) with e | e | e
  ·exact .inl e
  ·exact absurd hn e
  ·exact .inr e
 ·rcases h9 x hx k (hr k hk) with e | e
  ·exact e
  ·exact absurd hn e
 ·obtain ⟨e1,e2,e3,e4⟩:=h10 x hx
  refine ⟨e1,e2,e3,fun k hk hn=>?_⟩
  rcases e4 k (hr k hk) with e | e
  ·exact e
  ·exact absurd hn e
section
variable {p:Skel} {q:Sm} {kn:Nat→Bool} {C:List Ch} {P:Program} {I:Hp} {w0:World} {n:Nat} {L:List (Nat×Value)} {ops:List Oper} {S:Nat→Bool} {vs:Nat→Value} {a:Act} {w:World} {i:Nat} {o:Oper}
theorem Inv.step (hkn: ∀t,kn t=true→(L.lookup t).isSome=true) (hl:Loc p q ops.length) (hok:p.ok n kn ops=true) (hg:p.goal q P I w0 L i o) (hi:ops[i]? =some o) (h:Inv p q C I w0 n L ops.toArray S vs a w) (hn:S i=false) (hpre: ∀j,j∈p.before i→S j=true) {K:Act→World→Prop} {Q:Exit→Act→World→Prop}
  (hK: ∀vs a w,Inv p q C I w0 n L ops.toArray (fun j=>S j || j==i) vs a w→K a w):wpOp P ops.toArray Q i K a w:=by
 have G:=Skel.good_of_ok hkn hok hi
 have him:i<ops.toArray.size:=by have:=(List.getElem?_eq_some_iff.1 hi).1;simpa using this
 have hcl: ∀j,S j=true→i∉p.before j:=fun j hj hb=>by rw[h.closed j hj i hb] at hn;cases hn
 have slot: ∀t,t∈slotsOf ops.toArray o→a.tmps.getD t undef=p.ev L i vs (.tmp t):=by
  intro t ht
  rcases G.slots t ht with ⟨e1,e2,e3⟩ | ⟨j,e1,e2,e3,e4⟩
  ·obtain ⟨v,hv⟩:=Option.isSome_iff_exists.1 e2
   simp only[Skel.ev,e1,hv,Option.getD_some]
   refine h.old t v hv fun j hj hd=>?_
   rcases e3 j (h.lt j hj) hd with rfl | e
   ·rw[hn] at hj;cases hj
   ·exact hcl j hj e
  ·simp only[Skel.ev,e1]
   refine h.new j t (hpre j e3) e2 fun k hk hd=>?_
   rcases e4 k (h.lt k hk) hd with e | e | e | e
   ·exact .inl e
   ·subst e;rw[hn] at hk;cases hk
   ·exact .inr e
   ·exact absurd e (hcl k hk)
 have hev: ∀x,x∈o.op.operands→a.eval x=p.ev L i vs x:=by
  intro x hx
  cases x with
  | tmp t =>
   refine slot t ?_
   unfold slotsOf Oper.looksAt
   refine List.mem_append_left _ (List.mem_filterMap.2 ⟨.tmp t,by simpa using hx,rfl⟩)
  | _=>rfl
 have hfacts: ∀j,j∈p.before i→q.fact j vs:=fun j hj=>h.facts j (hpre j hj)
 have goal:=hg vs hfacts
 have main: ∀v w',q.fact i (upd vs i v)→(∃l:List Nat,l.Nodup∧(∀x,x∈l↔(x∈p.base∨ ∃j,(S j || j==i)=true∧x∈(p.op j).gives)∧ ¬ ∃j,(S j || j==i)=true∧x∈(p.op j).needs)∧St I w0 w' (l.map (q.chunk · (upd vs i v))++C))→K (a.put o.dst v) w':=by
  intro v w' hf hst
  refine hK (upd vs i v) _ _ ⟨?_,?_,?_,?_,?_,?_,?_,hst⟩
  ·intro j hj k hk
   simp only[Bool.or_eq_true,beq_iff_eq] at hj⊢
   rcases hj with hj | rfl
   ·exact .inl (h.closed j hj k hk)
   ·exact .inl (hpre k hk)
  ·intro j hj
   simp only[Bool.or_eq_true,beq_iff_eq] at hj
   rcases hj with hj | rfl
   ·exact h.lt j hj
   ·exact him
  ·cases hd:o.dst <;> simp[Act.put,h.defers]
  ·cases hd:o.dst <;> simp[Act.put,h.size]
  ·intro t u hu hj
   have hne:o.dst≠some t:=by
    have:=hj i (by simp)
    rwa [show (ops.toArray[i]?)=some o from by simpa using hi] at this
   have h0:=h.old t u hu fun j hS=>hj j (by simp[hS])
   cases hd:o.dst with
   | none=>exact h0
   | some d =>
    show (a.tmps.setIfInBounds d v).getD t undef=u
    rw[D.getD_set_ne (fun e=>hne (by rw[hd,e]))];exact h0
  ·intro j t hj hd hk
   simp only[Bool.or_eq_true,beq_iff_eq] at hj
   by_cases hdt:o.dst=some t
   ·have hji:j=i:=by
     rcases hj with hj | rfl
     ·rcases hk i (by simp) (by rw[show (ops.toArray[i]?)=some o from by simpa using hi];exact hdt) with e | e
      ·exact e.symm
      ·exact absurd e (hcl j hj)
     ·rfl
    subst hji
    have hlt:=G.dst
    rw[hdt] at hlt
    have hlt:t<n:=by simpa [dstOk] using hlt
    rw[hdt,eT]
    exact D.nm (by rw[h.size];exact hlt)
   ·have hji:j≠i:=by
     rintro rfl
     rw[show (ops.toArray[j]?)=some o from by simpa using hi] at hd
     exact hdt hd
    have hjS:S j=true:=by rcases hj with hj | e;exact hj;exact absurd e hji
    rw[vt hji]
    have h0:=h.new j t hjS hd fun k hk'=>hk k (by simp[hk'])
    cases hd:o.dst with
    | none=>exact h0
    | some d =>
     show (a.tmps.setIfInBounds d v).getD t undef=_
     rw[D.getD_set_ne (fun e=>hdt (by rw[hd,e]))];exact h0
  ·intro j hj
   simp only[Bool.or_eq_true,beq_iff_eq] at hj
   by_cases e:j=i
   ·subst e;exact hf
   ·have hjS:S j=true:=by rcases hj with hj | e';exact hj;exact absurd e' e
    refine hl.fact j (by simpa using h.lt j hjS) vs _ (fun k hk=>vt fun e'=>?_) (h.facts j hjS)
    subst e'
    rcases hk with e' | e'
    ·exact e e'.symm
    ·exact hcl j hjS e'
 obtain ⟨l,l1,l2,l3⟩:=h.st
 have hstay: ∀v x,x∈l→q.chunk x (upd vs i v)=q.chunk x vs:=by
  intro v x hx
  rcases ((l2 x).1 hx).1 with hb | ⟨j,hj,hxj⟩
  ·exact hl.chB x hb vs _
  ·refine hl.chG j (by simpa using h.lt j hj) x hxj vs _ fun k hk=>vt fun e'=>?_
   subst e'
   rcases hk with e' | e'
   ·subst e';rw[hn] at hj;cases hj
   ·exact hcl j hj e'
 unfold wpOp
 rw[show (ops.toArray[i]?)=some o from by simpa using hi]
 simp only
 have hwant:Region.wanted o (yielded ops.toArray a.tmps)=true↔xE o vs=some true:=by
  unfold Region.wanted xE
  cases hgd:o.guard with
  | none=>simp
  | some q =>
   obtain ⟨g,want⟩:=q
   obtain ⟨t,e1,e2⟩:=G.guard g want hgd
   have ht:t∈slotsOf ops.toArray o:=by
    unfold slotsOf Oper.looksAt
    refine List.mem_append_right _ ?_
    rw[hgd]
    simp only
    rw[e1];simp
   have hv:=slot t ht
   simp only[Skel.ev,e2] at hv
   have hy:yielded ops.toArray a.tmps g=match vs g with | .bool b=>some b | _=>none:=by
    unfold yielded
    rw[e1]
    simp only[Option.bind_some]
    rw[Array.getD_eq_getD_getElem?] at hv
    cases ht:a.tmps[t]? with
    | none =>
     rw[ht] at hv
     rw[←hv];rfl
    | some u =>
     rw[ht] at hv
     simp only[Option.getD_some] at hv
     rw[hv]
     cases vs g <;> rfl
   simp only[hy]
   cases hvg:vs g <;> simp
 cases hw:xE o vs with
 | none=>rw[hw] at goal;exact goal.elim
 | some b =>
  cases b with
  | false =>
   rw[hw] at goal
   simp only at goal
   rw[if_neg (by rw[hwant,hw];simp)]
   refine main undef w goal.1 ⟨l,l1,fun x=>?_,?_⟩
   ·rw[l2]
    obtain ⟨-,g2,g3⟩:=goal
    constructor
    ·rintro ⟨h1,h2⟩
     refine ⟨h1.imp id fun ⟨j,hj,hx⟩=>⟨j,by simp[hj],hx⟩,fun ⟨j,hj,hx⟩=>?_⟩
     simp only[Bool.or_eq_true,beq_iff_eq] at hj
     rcases hj with hj | rfl
     ·exact h2 ⟨j,hj,hx⟩
     ·rw[g2] at hx;cases hx
    ·rintro ⟨h1,h2⟩
     refine ⟨?_,fun ⟨j,hj,hx⟩=>h2 ⟨j,by simp[hj],hx⟩⟩
     rcases h1 with h1 | ⟨j,hj,hx⟩
     ·exact .inl h1
     ·simp only[Bool.or_eq_true,beq_iff_eq] at hj
      rcases hj with hj | rfl
      ·exact .inr ⟨j,hj,hx⟩
      ·rw[g3] at hx;cases hx
   ·rw[List.map_congr_left fun x hx=>hstay undef x hx];exact l3
  | true =>
   rw[hw] at goal
   simp only at goal
   rw[if_pos (by rw[hwant,hw])]
   refine .inl ?_
   have hin: ∀x,x∈(p.op i).reads++(p.op i).needs→x∈l:=by
    intro x hx
    rw[l2]
    refine ⟨(G.have_ x hx).2.imp id fun ⟨j,hj,e⟩=>⟨j,hpre j hj,e⟩,fun ⟨k,hk,e⟩=>?_⟩
    rcases List.mem_append.1 hx with hx | hx
    ·rcases G.keep x hx k (h.lt k hk) e with rfl | e'
     ·rw[hn] at hk;cases hk
     ·exact hcl k hk e'
    ·have:=G.once x hx k (h.lt k hk) e
     subst this;rw[hn] at hk;cases hk
   let r:=l.filter fun x=> !((p.op i).reads++(p.op i).needs).contains x
   have hr: ∀x,x∈r↔x∈l∧x∉(p.op i).reads++(p.op i).needs:=by
    intro x
    simp[r,List.mem_filter]
   have hrn:r.Nodup:=l1.filter _
   have hperm:l.Perm (((p.op i).reads++(p.op i).needs)++r):=by
    refine (List.perm_ext_iff_of_nodup l1 (List.nodup_append.2 ⟨G.nd1,hrn,fun x hx y hy e=>?_⟩)).2 fun x=>?_
    ·subst e;exact ((hr x).1 hy).2 hx
    ·rw[List.mem_append,hr]
     constructor
     ·intro hx
      by_cases e:x∈(p.op i).reads++(p.op i).needs
      ·exact .inl e
      ·exact .inr ⟨hx,e⟩
     ·rintro (e | e)
      ·exact hin x e
      ·exact e.1
   have hs:=l3.perm ((hperm.map (q.chunk · vs)).append_right C)
   rw[List.map_append,List.append_assoc] at hs
   have hsame:execOp a.eval o=execOp (p.ev L i vs) o:=k9 G.sel hev
   have hu:=goal w _ hs
   rw[←hsame] at hu
   refine hu.wp fun v w' hv=>main v w' hv.1 ⟨((p.op i).reads++(p.op i).gives)++r,?_,fun x=>?_,?_⟩
   ·refine List.nodup_append.2 ⟨G.nd2,hrn,fun x hx y hy e=>?_⟩
    subst e
    rcases List.mem_append.1 hx with hx | hx
    ·exact ((hr x).1 hy).2 (List.mem_append_left _ hx)
    ·obtain ⟨-,g1,g2,g3⟩:=G.give x hx
     rcases ((l2 x).1 ((hr x).1 hy).1).1 with e | ⟨j,hj,e⟩
     ·exact g1 e
     ·have:=g3 j (h.lt j hj) e
      subst this;rw[hn] at hj;cases hj
   ·have hgx:x∈(p.op i).gives→x∉p.base∧(∀k,S k=true→x∉(p.op k).needs)∧x∉(p.op i).needs:=by
     intro hx
     obtain ⟨-,g1,g2,g3⟩:=G.give x hx
     refine ⟨g1,fun k hk e=>?_,fun e=>g2 (List.mem_append_right _ e)⟩
     have hkm:k<ops.length:=by simpa using h.lt k hk
     rcases ((Skel.good_of_ok (L:=L) hkn hok (List.getElem?_eq_getElem hkm)).have_ x (List.mem_append_right _ e)).2 with e' | ⟨j,hj,e'⟩
     ·exact g1 e'
     ·have:=g3 j (h.lt j (h.closed k hk j hj)) e'
      subst this
      exact hcl k hk hj
    rw[List.mem_append,hr]
    constructor
    ·rintro (hx | ⟨hx,hx2⟩)
     ·rcases List.mem_append.1 hx with hx | hx
      ·obtain ⟨e1,e2⟩:=(l2 x).1 (hin x (List.mem_append_left _ hx))
       refine ⟨e1.imp id fun ⟨j,hj,e⟩=>⟨j,by simp[hj],e⟩,fun ⟨j,hj,e⟩=>?_⟩
       simp only[Bool.or_eq_true,beq_iff_eq] at hj
       rcases hj with hj | rfl
       ·exact e2 ⟨j,hj,e⟩
       ·exact (List.nodup_append.1 G.nd1).2.2 x hx x e rfl
      ·obtain ⟨g1,g2,g3⟩:=hgx hx
       refine ⟨.inr ⟨i,by simp,hx⟩,fun ⟨j,hj,e⟩=>?_⟩
       simp only[Bool.or_eq_true,beq_iff_eq] at hj
       rcases hj with hj | rfl
       ·exact g2 j hj e
       ·exact g3 e
     ·obtain ⟨e1,e2⟩:=(l2 x).1 hx
      refine ⟨e1.imp id fun ⟨j,hj,e⟩=>⟨j,by simp[hj],e⟩,fun ⟨j,hj,e⟩=>?_⟩
      simp only[Bool.or_eq_true,beq_iff_eq] at hj
      rcases hj with hj | rfl
      ·exact e2 ⟨j,hj,e⟩
      ·exact hx2 (List.mem_append_right _ e)
    ·rintro ⟨e1,e2⟩
     have e2': ¬ ∃j,S j=true∧x∈(p.op j).needs:=fun ⟨j,hj,e⟩=>e2 ⟨j,by simp[hj],e⟩
     have e2i:x∉(p.op i).needs:=fun e=>e2 ⟨i,by simp,e⟩
     by_cases hxg:x∈(p.op i).gives
     ·exact .inl (List.mem_append_right _ hxg)
     ·have hxl:x∈l:=by
       rw[l2]
       refine ⟨e1.imp id fun ⟨j,hj,e⟩=>?_,e2'⟩
       simp only[Bool.or_eq_true,beq_iff_eq] at hj
       rcases hj with hj | rfl
       ·exact ⟨j,hj,e⟩
       ·exact absurd e hxg
      by_cases e:x∈(p.op i).reads++(p.op i).needs
      ·rcases List.mem_append.1 e with e | e
       ·exact .inl (List.mem_append_left _ e)
       ·exact absurd e e2i
      ·exact .inr ⟨hxl,e⟩
   ·rw[List.map_append,List.append_assoc]
    have:r.map (q.chunk · (upd vs i v))=r.map (q.chunk · vs):=List.map_congr_left fun x hx=>hstay v x ((hr x).1 hx).1
    rw[this]
    exact hv.2
theorem tok_any (hkn: ∀t,kn t=true→(L.lookup t).isSome=true) (hl:Loc p q ops.length) (hok:p.ok n kn ops=true) (hg: ∀i o,ops[i]? =some o→p.goal q P I w0 L i o) {Q:Exit→Act→World→Prop}
  (hQ: ∀vs a w,Inv p q C I w0 n L ops.toArray (fun j=>decide (j<ops.length)) vs a w→Q .normal a w): ∀(fuel:Nat) (listed:Array Bool) (vs:Nat→Value) (a:Act) (w:World),listed.size=ops.length→D.leftOf ops.length listed≤fuel→
   Inv p q C I w0 n L ops.toArray (fun j=>listed.getD j false) vs a w→wpAny P .any ops.toArray Q fuel listed a w:=by
 have done: ∀(listed:Array Bool) (vs:Nat→Value) (a:Act) (w:World),(∀i,i<ops.length→listed.getD i false=true)→Inv p q C I w0 n L ops.toArray (fun j=>listed.getD j false) vs a w→Q .normal a w:=by
  intro listed vs a w hall h
  refine hQ vs a w ?_
  have e:(fun j=>listed.getD j false)=fun j=>decide (j<ops.length):=by
   funext j
   by_cases hj:j<ops.length
   ·rw[hall j hj];simp[hj]
   ·cases hl:listed.getD j false with
    | false=>simp[hj]
    | true=>exact absurd (by simpa using h.lt j hl) hj
  rw[←e];exact h
 have nil: ∀(listed:Array Bool) (vs:Nat→Value) (a:Act) (w:World),listed.size=ops.length→Inv p q C I w0 n L ops.toArray (fun j=>listed.getD j false) vs a w→Region.ready .any ops.toArray listed= [] →Q .normal a w:=by
  intro listed vs a w hsz h hr
  refine done listed vs a w (fun i=>?_) h
  induction i using Nat.strongRecOn with
  | _ i ih =>
   intro hi
   cases hl:listed.getD i false with
   | true=>rfl
   | false =>
    have:i∈Region.ready .any ops.toArray listed:=by
     refine D.mem_ready.2 ⟨by simpa using hi,?_,fun o ho j hj=>?_⟩
     ·rw[Array.getD_eq_getD_getElem?,Array.getElem?_eq_getElem (by omega)] at hl⊢
      simpa using hl
     ·have hj':=(Skel.good_of_ok (L:=L) hkn hok (show ops[i]? =some o by simpa using ho)).edges j hj
      exact ih j hj' (by omega)
    rw[hr] at this;cases this
 intro fuel
 induction fuel with
 | zero =>
  intro listed vs a w hsz hf h
  have hall: ∀i,i<ops.length→listed.getD i false=true:=by
   intro i hi
   cases hl:listed.getD i false with
   | true=>rfl
   | false =>
    have hz:(List.range ops.length).filter (fun i=> !listed.getD i false)= []:=List.eq_nil_of_length_eq_zero (Nat.le_zero.1 hf)
    have:i∈(List.range ops.length).filter (fun i=> !listed.getD i false):=List.mem_filter.2 ⟨List.mem_range.2 hi,by simp[hl]⟩
    rw[hz] at this;cases this
  refine ⟨?_,done listed vs a w hall h⟩
  cases hr:Region.ready .any ops.toArray listed with
  | nil=>rfl
  | cons i l =>
   have:i∈Region.ready .any ops.toArray listed:=by rw[hr];simp
   obtain ⟨h1,h2,-⟩:=D.mem_ready.1 this
   have h1':i<ops.length:=by simpa using h1
   have h3:=hall i h1'
   rw[Array.getD_eq_getD_getElem?,Array.getElem?_eq_getElem (by omega)] at h2 h3
   simp at h2 h3
   rw[h2] at h3;cases h3
 | succ fuel ih =>
  intro listed vs a w hsz hf h
  refine ⟨nil listed vs a w hsz h,fun i hi=>?_⟩
  obtain ⟨h1,h2,h3⟩:=D.mem_ready.1 hi
  have h1':i<ops.length:=by simpa using h1
  have hio:ops[i]? =some ops[i]:=List.getElem?_eq_getElem h1'
  have hn:listed.getD i false=false:=by
   rw[Array.getD_eq_getD_getElem?,Array.getElem?_eq_getElem (by omega)] at h2⊢
   simpa using h2
  have hgi:=hg i _ hio
  refine h.step hkn hl hok hgi hio hn (fun j hj=>?_) fun vs a w hI=>?_
  ·rcases ((Skel.good_of_ok (L:=L) hkn hok hio).bef j hj).2 with e | ⟨k,hk,e⟩
   ·exact h3 _ (by simpa using hio) j e
   ·exact h.closed k (h3 _ (by simpa using hio) k hk) j e
  ·refine ih _ vs a w (by simpa using hsz) ?_ ?_
   ·have hlt:D.leftOf ops.length (listed.setIfInBounds i true)<D.leftOf ops.length listed:=by
     unfold D.leftOf
     have hsub:(List.range ops.length).filter (fun j=> !(listed.setIfInBounds i true).getD j false)=((List.range ops.length).filter (fun j=> !listed.getD j false)).filter (fun j=>j !=i):=by
      rw[List.filter_filter]
      refine List.filter_congr fun j hj=>?_
      by_cases e:i=j
      ·subst e
       rw[Array.getD_eq_getD_getElem?,Array.getElem?_setIfInBounds_self_of_lt (by omega)];simp
      ·rw[Array.getD_eq_getD_getElem?,Array.getElem?_setIfInBounds_ne e,←Array.getD_eq_getD_getElem?]
       simp[show (j !=i)=true from by simp;exact fun e'=>e e'.symm]
     rw[hsub]
     refine List.length_filter_lt_length_iff_exists.2 ⟨i,List.mem_filter.2 ⟨List.mem_range.2 h1',by simp[hn]⟩,by simp⟩
    omega
   ·have e:(fun j=>(listed.setIfInBounds i true).getD j false)=fun j=>(listed.getD j false || j==i):=by
     funext j
     by_cases e:i=j
     ·subst e
      rw[Array.getD_eq_getD_getElem?,Array.getElem?_setIfInBounds_self_of_lt (by omega)];simp
     ·rw[Array.getD_eq_getD_getElem?,Array.getElem?_setIfInBounds_ne e,←Array.getD_eq_getD_getElem?]
      simp[show (j==i)=false from by simp;exact fun e'=>e e'.symm]
    rw[e];exact hI
theorem Ms {id:Nat} {C0:List Ch} {Q:Exit→Act→World→Prop} (p:Skel) (q:Sm) (hkn: ∀t,kn t=true→(L.lookup t).isSome=true) (hl:Loc p q ops.length) (hm:P.follows .mixedOrders=true) (ha:Agr n a L) (hs:St I w0 w C0) (hp:C0.Perm (p.base.map (q.chunk · fun _=>undef)++C))
  (hok:p.ok n kn ops=true) (hB:p.okB kn ops=true) (hg: ∀i o,ops[i]? =some o→p.goal q P I w0 L i o)
  (k: ∀vs a w,(∀i,i<ops.length→q.fact i vs)→Agr n a (p.out L vs)→St I w0 w (p.left.map (q.chunk · vs)++C)→Q .normal a w):(Code.region id ops.toArray true).wp P Q a w:=by
 unfold Skel.okB at hB
 simp only[Bool.and_eq_true,oT,DG,ln,Bool.or_eq_true,Bool.not_eq_true',DF,List.all_eq_true] at hB
 obtain ⟨hb1',hb3',hb4,hb5,hb6⟩:=hB
 have hb1:=oS hb1'
 have hb3:=oS hb3'
 refine wp_region_any hm (tok_any (C:=C) hkn hl hok hg (fun vs a w h=>k vs a w (fun i hi=>h.facts i (by simpa using hi)) ?_ ?_) _ _ (fun _=>undef) a _ (by simp) ?_ ?_)
 ·refine ⟨h.defers,h.size,fun t v hv=>?_⟩
  have key: ∀(M:List (Nat×Option Nat)),(∀q∈M,q∈p.fin)→(M.map fun (t,s)=>(t,match s with | some j=>vs j | none=>(L.lookup t).getD undef)).lookup t=some v→a.tmps.getD t undef=v:=by
   intro M
   induction M with
   | nil=>intro _ h;cases h
   | cons q M ih =>
    intro hM hv
    obtain ⟨t',s'⟩:=q
    rw[List.map_cons,List.lookup_cons] at hv
    by_cases e:t=t'
    ·subst e
     simp only[BEq.rfl,Option.some.injEq] at hv
     have hf:=hb6 (t,s') (hM _ (by simp))
     cases s' with
     | none =>
      simp only[Bool.and_eq_true,oT,Bool.not_eq_true'] at hf hv
      obtain ⟨u,hu⟩:=Option.isSome_iff_exists.1 (hkn _ hf.1)
      rw[hu] at hv
      simp at hv;subst hv
      refine h.old t u hu fun j hj hd=>?_
      have hj:j<ops.length:=by simpa using hj
      have:=hf.2 j (List.mem_range.2 hj)
      rw[pK.2 hd] at this;cases this
     | some j =>
      simp only[Bool.and_eq_true,oT,Q1,Q0,Bool.or_eq_true,Bool.not_eq_true',ln] at hf hv
      rw[←hv]
      refine h.new j t (by simpa using hf.1) (pK.1 hf.2.1) fun k hk hd=>?_
      have hk:k<ops.length:=by simpa using hk
      rcases hf.2.2 k (List.mem_range.2 hk) with e | e
      ·rw[pK.2 hd] at e;cases e
      ·exact e
    ·have:(t==t')=false:=by simpa using e
     rw[this] at hv
     exact ih (fun q hq=>hM q (by simp[hq])) hv
  exact key _ (fun _ h=>h) hv
 ·obtain ⟨l,l1,l2,l3⟩:=h.st
  refine l3.perm (List.Perm.append_right C (List.Perm.map _ ((List.perm_ext_iff_of_nodup l1 hb3).2 fun x=>?_)))
  rw[l2]
  constructor
  ·rintro ⟨h1,h2⟩
   have:=hb5 x (by
    rcases h1 with h1 | ⟨j,hj,hx⟩
    ·exact List.mem_append_left _ h1
    ·exact List.mem_append_right _ (List.mem_flatMap.2 ⟨j,List.mem_range.2 (by simpa using hj),hx⟩))
   rcases this with h | ⟨j,hj,h⟩
   ·exact h
   ·exact absurd ⟨j,by simpa using List.mem_range.1 hj,h⟩ h2
  ·intro hx
   have:=hb4 x hx
   refine ⟨this.1.imp (fun h=>h) fun ⟨j,hj,e⟩=>⟨j,by simpa using List.mem_range.1 hj,e⟩,fun ⟨j,hj,e⟩=>?_⟩
   exact this.2 j (List.mem_range.2 (by simpa using hj)) e
 ·unfold D.leftOf
  refine Nat.le_trans (List.length_filter_le _ _) (by simp)
 ·have hf: ∀j,(Array.replicate ops.toArray.size false).getD j false=false:=by
   intro j
   rw[Array.getD_eq_getD_getElem?,Array.getElem?_replicate]
   split <;> rfl
  refine ⟨fun i hi=>?_,fun i hi=>?_,ha.1,ha.2.1,fun t v hv _=>ha.2.2 t v hv,fun j t hj=>?_,fun i hi=>?_,p.base,hb1,fun x=>?_,?_⟩
  ·rw[hf] at hi;cases hi
  ·rw[hf] at hi;cases hi
  ·rw[hf] at hj;cases hj
  ·rw[hf] at hi;cases hi
  ·constructor
   ·intro hx
    refine ⟨.inl hx,fun ⟨j,hj,_⟩=>?_⟩
    rw[hf] at hj;cases hj
   ·rintro ⟨h1 | ⟨j,hj,_⟩,_⟩
    ·exact h1
    ·rw[hf] at hj;cases hj
  ·exact (hs.drawn (w':= { w with drawn:=w.drawn+1 }) rfl rfl rfl rfl).perm hp
end
end R
namespace R
open Go.RowKit
open D
def LV.ids:LV→List Nat
 | .val _=>[]
 | .nb _=>[]
 | .rd h _ _=>[h.id]
 | .own h=>[h.id]
 | .ptr h _=>[h.id]
 | .fn h _ _ _=>[h.id]
 | .fz h _ _ _ _=>[h.id]
 | .fzf h _ _ _ _=>[h.id]
 | .rdn h _ _ _=>[h.id]
def Ji:List LV→List Nat
 | [] =>[]
 | x::l=>x.ids++Ji l
def SO:List (Bool×List LV)→List Nat
 | [] =>[]
 | y::l=>Ji y.2++SO l
def AV.ids:AV→List Nat
 | .one x=>x.ids
 | .agg xs=>Ji xs
 | .tup ys=>SO ys
 | .elr h _ _ _ _ _ _=>[h.id]
 | .elo h _ _ _ _ _ _ _=>[h.id]
 | .sub h _ _ _ _ _=>[h.id]
 | .pre h _ _ _ _ _=>[h.id]
 | .vw u h _ _ _ _=>[u.id,h.id]
 | .xv _ u h _ _ _ _=>[u.id,h.id]
 | .capv h _=>[h.id]
 | .any h=>[h.id]
 | .und=>[]
def Chk.ids:Chk→List Nat
 | .own _ _=>[]
 | .blk _ cs=>Ji cs
 | .hole _ _ _ _ _ _ _ _ _ lv=>lv.ids
 | .box _ _ _=>[]
 | .map _ _ _ _ _=>[]
 | .clo _ first capt=>SO first++Ji capt
def yH (h:Hdr) (c:Chk):List Nat:=h.id::c.ids
theorem ny {x:LV} {i:Nat} : ∀ {l:List LV},x∈l→i∈x.ids→i∈Ji l
 | y::l,h,hi=>by
  rcases List.mem_cons.1 h with rfl | h
  ·exact List.mem_append_left _ hi
  ·exact List.mem_append_right _ (ny h hi)
theorem vi {y:Bool×List LV} {i:Nat} : ∀ {l:List (Bool×List LV)},y∈l→i∈Ji y.2→i∈SO l
 | z::l,h,hi=>by
  rcases List.mem_cons.1 h with rfl | h
  ·exact List.mem_append_left _ hi
  ·exact List.mem_append_right _ (vi h hi)
section
variable {P:Program} {w0:World} {J:Hp} {θ θ':Th} {n m:Nat} {chs chs':List Ent}
theorem dE {h:Hdr} (k:θ' h.id=θ h.id):hv θ' h=hv θ h:=by unfold hv;rw[k]
theorem LV.v_loc {x:LV} (h: ∀i∈x.ids,θ' i=θ i):x.v θ'=x.v θ:=by
 cases x with
 | val _=>rfl
 | nb _=>rfl
 | rd k t d=>exact dE (h _ (by simp[LV.ids]))
 | own k=>exact dE (h _ (by simp[LV.ids]))
 | ptr k off=>show Value.pointer (some ⟨bk (hv θ' k),off,none⟩)=_;rw[dE (h _ (by simp[LV.ids]))];rfl
 | fn k ps rs e=>exact dE (h _ (by simp[LV.ids]))
 | fz k T t d off=>show Value.pointer (some ⟨bk (hv θ' k),off,none⟩)=_;rw[dE (h _ (by simp[LV.ids]))];rfl
 | fzf k T ps rs e=>show Value.pointer (some ⟨bk (hv θ' k),0,none⟩)=_;rw[dE (h _ (by simp[LV.ids]))];rfl
 | rdn k b t d=>exact dE (h _ (by simp[LV.ids]))
theorem LV.ok_loc {x:LV} (h: ∀i∈x.ids,θ' i=θ i) (k:x.ok P w0 J θ n):x.ok P w0 J θ' n:=by
 cases x with
 | val _=>exact k
 | nb _=>trivial
 | rd g t d=>exact ⟨k.1,by rw[dE (h _ (by simp[LV.ids]))];exact k.2⟩
 | own g=>exact ⟨k.1,by rw[dE (h _ (by simp[LV.ids]))];exact k.2⟩
 | ptr g off=>exact k
 | fn g ps rs e=>exact ⟨k.1,by rw[dE (h _ (by simp[LV.ids]))];exact k.2⟩
 | fz g T t d off=>exact ⟨k.1,by rw[dE (h _ (by simp[LV.ids]))];exact k.2⟩
 | fzf g T ps rs e=>exact ⟨k.1,by rw[dE (h _ (by simp[LV.ids]))];exact k.2⟩
 | rdn g b t d=>exact ⟨k.1,by rw[dE (h _ (by simp[LV.ids]))];exact k.2⟩
theorem Ab {xs:List LV} (h: ∀i∈Ji xs,θ' i=θ i):xs.map (·.v θ')=xs.map (·.v θ):=List.map_congr_left fun x hx=>LV.v_loc fun i hi=>h i (ny hx hi)
theorem B2 {y:Bool×List LV} (hy: ∀i∈Ji y.2,θ' i=θ i):iu θ' y=iu θ y:=by
 unfold iu
 rw[Ab hy]
 split
 ·rfl
 ·cases hl:y.2 with
  | nil=>rfl
  | cons x l=>exact LV.v_loc fun i hi=>hy i (by rw[hl];exact List.mem_append_left _ hi)
theorem AV.v_loc {x:AV} (h: ∀i∈x.ids,θ' i=θ i):x.v θ'=x.v θ:=by
 cases x with
 | one x=>exact LV.v_loc h
 | agg xs=>show Value.agg _=Value.agg _;rw[Ab h]
 | tup ys =>
  show Value.tuple _=Value.tuple _
  congr 2
  refine List.map_congr_left fun y hy=>?_
  exact B2 fun i hi=>h i (vi hy hi)
 | elr k E t xs x i off=>show pt (hv θ' k) _=_;rw[dE (h _ (by simp[AV.ids]))];rfl
 | elo k ver E t xs x i off=>show pt (hv θ' k) _=_;rw[dE (h _ (by simp[AV.ids]))];rfl
 | sub k ver E t xs l=>show nl (hv θ' k) _ _ _=_;rw[dE (h _ (by simp[AV.ids]))];rfl
 | pre k ver E t xs l=>show nl (hv θ' k) _ _ _=_;rw[dE (h _ (by simp[AV.ids]))];rfl
 | vw u k kk N l m=>exact dE (h _ (by simp[AV.ids]))
 | xv top u k kk N l m=>exact dE (h _ (by simp[AV.ids]))
 | capv k c=>rfl
 | any k=>exact dE (h _ (by simp[AV.ids]))
 | und=>rfl
theorem AV.ok_loc {x:AV} (h: ∀i∈x.ids,θ' i=θ i) (k:x.ok P w0 J θ n chs):x.ok P w0 J θ' n chs:=by
 cases x with
 | one x=>exact LV.ok_loc h k
 | agg xs=>exact fun x hx=>LV.ok_loc (fun i hi=>h i (ny hx hi)) (k x hx)
 | tup ys=>exact fun y hy x hx=>LV.ok_loc (fun i hi=>h i (vi hy (ny hx hi))) (k y hy x hx)
 | elr g E t xs x i off=>exact ⟨k.1,k.2.1,by rw[dE (h _ (by simp[AV.ids]))];exact k.2.2⟩
 | elo g ver E t xs x i off=>exact k
 | sub g ver E t xs l=>exact k
 | pre g ver E t xs l=>exact k
 | vw u g kk N l m=>exact ⟨k.1,k.2.1,by rw[dE (h _ (by simp[AV.ids])),dE (h _ (by simp[AV.ids]))];exact k.2.2⟩
 | xv top u g kk N l m=>exact ⟨k.1,k.2.1,by rw[dE (h _ (by simp[AV.ids])),dE (h _ (by simp[AV.ids]))];exact k.2.2⟩
 | capv g c=>exact ⟨k.1,by rw[dE (h _ (by simp[AV.ids]))];exact k.2⟩
 | any g=>exact k
 | und=>trivial
theorem Mt {e:Ent} (h: ∀i∈yH e.1 e.2.2,θ' i=θ i):toCh P θ' e=toCh P θ e:=by
 obtain ⟨k,ver,c⟩:=e
 have hk:hv θ' k=hv θ k:=dE (h _ (by simp[yH]))
 cases c with
 | own t d=>show Ch.own _ [hv θ' k] d=_;rw[hk];rfl
 | blk T cells=>show Ch.blk (bk (hv θ' k)) (cells.map (·.v θ')) T=_;rw[hk,Ab fun i hi=>h i (List.mem_cons_of_mem _ hi)];rfl
 | hole over t d u y f i kk off lv=>show Ch.gap _ [hv θ' k] _ f (ptB (hv θ' k)) (ptO (hv θ' k)+(i.toNat*kk+off)) (lv.v θ')=_;rw[hk,LV.v_loc fun i hi=>h i (List.mem_cons_of_mem _ hi)];rfl
 | box T t d=>show Ch.box (bk (hv θ' k)) T _ d=_;rw[hk];rfl
 | map K E kk e m=>show @Ch.mp P K E kk.den e.den kk.dec kk.lit kk.ok e.lit e.z (hv θ' k) m=_;rw[hk];rfl
 | clo _ _ _=>rfl
theorem P7 {e:Ent} (h: ∀i∈yH e.1 e.2.2,θ' i=θ i) (k:okE P w0 J θ n chs e):okE P w0 J θ' n chs e:=by
 obtain ⟨g,ver,c⟩:=e
 cases c with
 | own t d=>exact k
 | blk T cells=>exact ⟨k.1,k.2.1,fun x hx=>LV.ok_loc (fun i hi=>h i (List.mem_cons_of_mem _ (ny hx hi))) (k.2.2 x hx)⟩
 | hole over t d u y f i kk off lv=>exact ⟨k.1,k.2.1,LV.ok_loc (fun i hi=>h i (List.mem_cons_of_mem _ hi)) k.2.2.1,k.2.2.2⟩
 | box T t d=>exact k
 | map K E kk e m=>exact k
 | clo f first capt =>
  obtain ⟨h1,h2,h3,h4,h5⟩:=k
  have hf: ∀y∈first,∀i∈Ji y.2,θ' i=θ i:=fun y hy i hi=>h i (List.mem_cons_of_mem _ (List.mem_append_left _ (vi hy hi)))
  have hc: ∀i∈Ji capt,θ' i=θ i:=fun i hi=>h i (List.mem_cons_of_mem _ (List.mem_append_right _ hi))
  refine ⟨h1,h2,fun y hy x hx=>LV.ok_loc (fun i hi=>hf y hy i (ny hx hi)) (h3 y hy x hx),fun x hx=>LV.ok_loc (fun i hi=>hc i (ny hx hi)) (h4 x hx),?_⟩
  show hv θ' g=_
  rw[dE (h _ (by simp[yH])),Ab hc,List.map_congr_left fun y hy=>B2 (hf y hy)]
  exact h5
def AV.elos:AV→List (Hdr×Nat)
 | .elo h ver _ _ _ _ _ _=>[(h,ver)]
 | .sub h ver _ _ _ _=>[(h,ver)]
 | .pre h ver _ _ _ _=>[(h,ver)]
 | _=>[]
def Chk.elos (ver:Nat):Chk→List (Hdr×Nat)
 | .hole _ _ _ _ _ _ _ _ _ (.own l)=>[(l,ver)]
 | _=>[]
theorem LV.ok_le {x:LV} (hm:n≤m) (h:x.ok P w0 J θ n):x.ok P w0 J θ m:=LV.ok_same Same.rfl' hm h Hp.le.rfl
where Same.rfl' {n:Nat} {θ:Th} :Same n θ θ:=fun i hi=>Eq.refl _
theorem AV.ok_move {x:AV} (hn:n≤m) (hm: ∀h ver c,(h,ver)∈x.elos→Mem chs n h ver c→ ∀e∈chs',∀c',Says e h ver c'→c'=c) (k:x.ok P w0 J θ n chs):x.ok P w0 J θ m chs':=by
 cases x with
 | one x=>exact LV.ok_le hn k
 | agg xs=>exact fun x hx=>LV.ok_le hn (k x hx)
 | tup ys=>exact fun y hy x hx=>LV.ok_le hn (k y hy x hx)
 | elr g E t xs x i off=>exact ⟨Nat.lt_of_lt_of_le k.1 hn,k.2⟩
 | elo g ver E t xs x i off=>exact ⟨Nat.lt_of_lt_of_le k.1 hn,k.2.1,Nat.lt_of_lt_of_le k.2.2.1 hn,hm _ _ _ (by simp[AV.elos]) k.2.2⟩
 | sub g ver E t xs l=>exact ⟨Nat.lt_of_lt_of_le k.1 hn,k.2.1,Nat.lt_of_lt_of_le k.2.2.1 hn,hm _ _ _ (by simp[AV.elos]) k.2.2⟩
 | pre g ver E t xs l=>exact ⟨Nat.lt_of_lt_of_le k.1 hn,k.2.1,Nat.lt_of_lt_of_le k.2.2.1 hn,hm _ _ _ (by simp[AV.elos]) k.2.2⟩
 | vw u g kk N l m=>exact ⟨Nat.lt_of_lt_of_le k.1 hn,Nat.lt_of_lt_of_le k.2.1 hn,k.2.2⟩
 | xv top u g kk N l m=>exact ⟨Nat.lt_of_lt_of_le k.1 hn,Nat.lt_of_lt_of_le k.2.1 hn,k.2.2⟩
 | capv g c=>exact ⟨Nat.lt_of_lt_of_le k.1 hn,k.2⟩
 | any g=>exact Nat.lt_of_lt_of_le k hn
 | und=>trivial
theorem Fi {e:Ent} (hn:n≤m) (hm: ∀h ver c,(h,ver)∈e.2.2.elos e.2.1→Mem chs n h ver c→ ∀e∈chs',∀c',Says e h ver c'→c'=c) (k:okE P w0 J θ n chs e):okE P w0 J θ m chs' e:=by
 obtain ⟨g,ver,c⟩:=e
 cases c with
 | own t d=>exact ⟨Nat.lt_of_lt_of_le k.1 hn,Nat.lt_of_lt_of_le k.2.1 hn,trivial⟩
 | blk T cells=>exact ⟨Nat.lt_of_lt_of_le k.1 hn,Nat.lt_of_lt_of_le k.2.1 hn,fun x hx=>LV.ok_le hn (k.2.2 x hx)⟩
 | hole over t d u y f i kk off lv =>
  refine ⟨Nat.lt_of_lt_of_le k.1 hn,Nat.lt_of_lt_of_le k.2.1 hn,LV.ok_le hn k.2.2.1,k.2.2.2.1,k.2.2.2.2.1,fun l hl=>?_⟩
  have:=k.2.2.2.2.2 l hl
  exact ⟨Nat.lt_of_lt_of_le this.1 hn,hm _ _ _ (by subst hl;simp[Chk.elos]) this⟩
 | box T t d=>exact ⟨Nat.lt_of_lt_of_le k.1 hn,Nat.lt_of_lt_of_le k.2.1 hn,trivial⟩
 | map K E kk e m=>exact ⟨Nat.lt_of_lt_of_le k.1 hn,Nat.lt_of_lt_of_le k.2.1 hn,trivial⟩
 | clo f first capt=>exact ⟨Nat.lt_of_lt_of_le k.1 hn,Nat.lt_of_lt_of_le k.2.1 hn,fun y hy x hx=>LV.ok_le hn (k.2.2.1 y hy x hx),fun x hx=>LV.ok_le hn (k.2.2.2.1 x hx),k.2.2.2.2⟩
end
structure TR where
 i:Nat
 o:Oper
 b:List Nat
 s:Sg
 r:Res
 run:Bool
def iA (n0:Nat) (x:TR):List Ent:=x.r.gives.map fun g=>(g.1,n0+x.i,g.2)
def wj (n0:Nat) (env:List (Nat×Nat×AV)):List TR→List (Nat×Nat×AV)
 | [] =>env
 | x::l=>HY x.o.dst (n0+x.i) x.r.av (wj n0 env l)
def fb (n0:Nat) (chs:List Ent):List TR→List Ent
 | [] =>chs
 | x::l=>iA n0 x++fb n0 chs l
def sameKey (a b:Ent):Bool:=Nat.beq a.2.1 b.2.1&&Hdr.beq a.1 b.1
def RN (e:Ent) (l:List TR):Bool:=l.any fun x=>x.r.ns.any fun e'=>sameKey e' e
def inB (n0:Nat) (b:List Nat) (v:Nat):Bool:=Nat.blt v n0 || rA (v - n0) b
def subS (s0:Sg) (l:List TR) (i:Nat) (b:List Nat):Sg:=
 ⟨(wj s0.nxt s0.env l).filter fun e=>inB s0.nxt b e.2.1,(fb s0.nxt s0.chs l).filter fun e=>inB s0.nxt b e.2.1 && !RN e l,s0.nxt+i⟩
def Mu (s0:Sg) (l:List TR):Sg:=subS s0 l l.length (List.range l.length)
def recAt (i:Nat):List TR→Option TR
 | [] =>none
 | x::l=>if Nat.beq x.i i then some x else recAt i l
def SP (t:Nat) (l:List Nat):List Nat:=if rA t l then l else t::l
def B3:List Nat→List Nat→List Nat
 | [],acc=>acc
 | t::l,acc=>B3 l (SP t acc)
def bOf (l:List TR):List Nat→List Nat→List Nat
 | [],acc=>acc
 | j::js,acc=>bOf l js (B3 (match recAt j l with | some y=>y.b | none=>[]) (SP j acc))
def Jj {Y:Type} (g:Bool) (av:AV) (k:AV→Option Y):Option Y:=match g with
 | false=>k av
 | true=>match av with
  | .one (.val (.bool b))=>if b then k (.one (.val (.bool true))) else k (.one (.val (.bool false)))
  | .one (.nb b)=>if b then k (.one (.val (.bool false))) else k (.one (.val (.bool true)))
  | _=>none
def Jk (ops:List Oper) (i:Nat):Bool:=match ops with
 | [] =>false
 | o::ops=>(match o.guard with | some (g,_)=>Nat.beq g i | none=>false) || Jk ops i
section
variable {Y:Type} (V:Env) (ops:List Oper) (s0:Sg) (k:List TR→Option Y)
def Tq (o:Oper) (i:Nat) (l:List TR) (b:List Nat) (s:Sg):Option Y:=
 bp (okO V.n s o) (step V s (fun r=>Jj (Jk ops i) r.av fun av=>k (⟨i,o,b,s,⟨r.rs,r.ns,r.rest,r.gives,av⟩,true⟩::l)) o)
def P8 (o:Oper) (i:Nat) (l:List TR) (b:List Nat) (s:Sg):Option Y:=
 k (⟨i,o,b,s,⟨[],[],s.chs,[],.und⟩,false⟩::l)
def opD (o:Oper) (i:Nat) (l:List TR) (b:List Nat) (s:Sg):Option Y:=match o.guard with
 | none=>Tq V ops k o i l b s
 | some (g,want)=>match recAt g l with
  | some y=>match y.r.av with
   | .one (.val (.bool c))=>match c==want with
    | true=>Tq V ops k o i l b s
    | false=>P8 k o i l b s
   | .und=>P8 k o i l b s
   | _=>none
  | none=>none
def goD:List Oper→Nat→List TR→Option Y
 | [],_,l=>k l
 | o::os,i,l=>(fun b=>opD V ops (goD os (i+1)) o i l b (subS s0 l i b)) (bOf l (edgesOf o) [])
end
def GdOk (l:List TR) (x:TR):Prop:=match x.o.guard with
 | none=>x.run=true
 | some (g,want)=> ∃y∈l,y.i=g∧((∃c:Bool,y.r.av= .one (.val (.bool c))∧x.run=(c==want))∨(y.r.av= .und∧x.run=false))
structure RecOk (P:Program) (w0:World) (n:Nat) (s0:Sg) (ops:List Oper) (l:List TR) (x:TR):Prop where
 hi:x.i=l.length
 ho:ops[x.i]? =some x.o
 hb:x.b=bOf l (edgesOf x.o) []
 hs:x.s=subS s0 l x.i x.b
 good:x.run=true→Good P w0 x.s x.o x.r∧okO n x.s x.o=true
 skip:x.run=false→x.r=⟨[],[],x.s.chs,[],.und⟩
 gd:GdOk l x
def AllOk (P:Program) (w0:World) (n:Nat) (s0:Sg) (ops:List Oper):List TR→Prop
 | [] =>True
 | x::l=>RecOk P w0 n s0 ops l x∧AllOk P w0 n s0 ops l
section
variable {Y:Type} {V:Env} {P:Program} {w0:World} {ops:List Oper} {s0:Sg} {k:List TR→Option Y} {res:Y}
theorem vj {i:Nat} {y:TR} : ∀ {l:List TR},recAt i l=some y→y∈l∧y.i=i
 | x::l,h=>by
  unfold recAt at h
  split at h
  ·rename_i hx
   obtain rfl:=Option.some.inj h
   exact ⟨by simp,Nat.eq_of_beq_eq_true hx⟩
  ·obtain ⟨h1,h2⟩:=vj h
   exact ⟨by simp[h1],h2⟩
theorem pL {s:Sg} {o:Oper} {r:Res} {av:AV} (h:Good P w0 s o r) (hv: ∀θ,av.v θ=r.av.v θ) (hok: ∀(J:Hp) (θ:Th) n chs,av.ok P w0 J θ n chs):Good P w0 s o ⟨r.rs,r.ns,r.rest,r.gives,av⟩:=
 ⟨h.perm,h.says,fun J θ hf=>OpT.weak (h.op J θ hf) (fun v hv'=>⟨hok _ _ _ _,(hv _).trans hv'.2.1,hv'.2.2⟩) (fun v _=>rfl)⟩
theorem Jl {g:Bool} {s:Sg} {o:Oper} {r:Res} {f:AV→Option Y} (h:Jj g r.av f=some res) (hG:Good P w0 s o r): ∃av,f av=some res∧Good P w0 s o ⟨r.rs,r.ns,r.rest,r.gives,av⟩:=by
 unfold Jj at h
 split at h
 ·exact ⟨r.av,h,hG⟩
 ·split at h
  ·rename_i b hb
   cases b with
   | true=>exact ⟨_,h,pL hG (fun θ=>by rw[hb]) fun _ _ _ _=>Eq.refl true⟩
   | false=>exact ⟨_,h,pL hG (fun θ=>by rw[hb]) fun _ _ _ _=>Eq.refl true⟩
  ·rename_i b hb
   cases b with
   | true=>exact ⟨_,h,pL hG (fun θ=>by rw[hb];rfl) fun _ _ _ _=>Eq.refl true⟩
   | false=>exact ⟨_,h,pL hG (fun θ=>by rw[hb];rfl) fun _ _ _ _=>Eq.refl true⟩
  ·cases h
theorem Jm (hT:TTok P V.tt) (hF:FTok P V.ft): ∀ {os:List Oper} {i:Nat} {l:List TR},goD V ops s0 k os i l=some res→i=l.length→ops.drop i=os→AllOk P w0 V.n s0 ops l→ ∃l',k l'=some res∧AllOk P w0 V.n s0 ops l'∧l'.length=ops.length
 | [],i,l,h,hi,hd,ha=>⟨l,h,ha,by
  have h1:=List.drop_eq_nil_iff.1 hd
  have: ∀ {l:List TR},AllOk P w0 V.n s0 ops l→l.length≤ops.length:=by
   intro l
   induction l with
   | nil=>intro _;exact Nat.zero_le _
   | cons x l ih =>
    rintro ⟨hx,hl⟩
    have:=(List.getElem?_eq_some_iff.1 hx.ho).1
    rw[hx.hi] at this
    exact this
  have:=this ha
  omega⟩
 | o::os,i,l,h,hi,hd,ha=>by
  have ho:ops[i]? =some o:=by
   have:=congrArg (·[0]?) hd
   simpa using this
  have hd':ops.drop (i+1)=os:=by
   rw[←List.drop_drop,hd];rfl
  have h:opD V ops (goD V ops s0 k os (i+1)) o i l (bOf l (edgesOf o) []) (subS s0 l i (bOf l (edgesOf o) []))=some res:=h
  have run:(GdOk l ⟨i,o,bOf l (edgesOf o) [],subS s0 l i (bOf l (edgesOf o) []),⟨[],[],[],[],.und⟩,true⟩)→Tq V ops (goD V ops s0 k os (i+1)) o i l (bOf l (edgesOf o) []) (subS s0 l i (bOf l (edgesOf o) []))=some res→ ∃l',k l'=some res∧AllOk P w0 V.n s0 ops l'∧l'.length=ops.length:=by
   intro hg h
   obtain ⟨hk,h⟩:=ah h
   obtain ⟨r,hr,hG⟩:=Jd (w0:=w0) hT hF h
   obtain ⟨av,h,hG⟩:=Jl hr hG
   exact Jm hT hF h (by rw[hi];rfl) hd' ⟨⟨hi,ho,rfl,rfl,fun _=>⟨hG,hk⟩,fun e=>(by cases e),hg⟩,ha⟩
  have skp:(GdOk l ⟨i,o,bOf l (edgesOf o) [],subS s0 l i (bOf l (edgesOf o) []),⟨[],[],[],[],.und⟩,false⟩)→P8 (goD V ops s0 k os (i+1)) o i l (bOf l (edgesOf o) []) (subS s0 l i (bOf l (edgesOf o) []))=some res→ ∃l',k l'=some res∧AllOk P w0 V.n s0 ops l'∧l'.length=ops.length:=by
   intro hg h
   exact Jm hT hF h (by rw[hi];rfl) hd' ⟨⟨hi,ho,rfl,rfl,fun e=>(by cases e),fun _=>rfl,hg⟩,ha⟩
  unfold opD at h
  split at h
  ·rename_i hg
   exact run (by unfold GdOk;simp only[hg]) h
  ·rename_i g want hg
   split at h
   ·rename_i y hy
    obtain ⟨hy1,hy2⟩:=vj hy
    split at h
    ·rename_i c hc
     split at h
     ·rename_i hcw
      exact run (by unfold GdOk;simp only[hg];exact ⟨y,hy1,hy2,.inl ⟨c,hc,hcw.symm⟩⟩) h
     ·rename_i hcw
      exact skp (by unfold GdOk;simp only[hg];exact ⟨y,hy1,hy2,.inl ⟨c,hc,hcw.symm⟩⟩) h
    ·rename_i hc
     exact skp (by unfold GdOk;simp only[hg];exact ⟨y,hy1,hy2,.inr ⟨hc,trivial⟩⟩) h
    ·cases h
   ·cases h
end
end R
namespace R
open Go.RowKit
open D
def wk (l:List (Nat×Nat×AV)) (t:Nat):Option Nat:=match l with
 | [] =>none
 | (u,k,_)::l=>if Nat.beq u t then some k else wk l t
def numOf (e:Ent):List Ent→Nat
 | [] =>0
 | x::l=>if sameKey x e then 0 else numOf e l+1
def Oe (n0 v:Nat):Option Nat:=if Nat.blt v n0 then none else some (v - n0)
def B4 (n0:Nat) (env:List (Nat×Nat×AV)):List Nat→List (Nat×Option Nat)
 | [] =>[]
 | t::l=>match wk env t with
  | some v=>(t,Oe n0 v)::B4 n0 env l
  | none=>B4 n0 env l
def opK (n0:Nat) (T:List Ent) (ops:Array Oper) (x:TR):OpK:=⟨x.r.rs.map (numOf · T),x.r.ns.map (numOf · T),(iA n0 x).map (numOf · T),B4 n0 x.s.env (slotsOf ops x.o)⟩
def Jn (n0:Nat):List (Nat×Nat×AV)→List Nat→List (Nat×Option Nat)
 | [],_=>[]
 | e::l,seen=>match rA e.1 seen with
  | true=>Jn n0 l seen
  | false=>(e.1,Oe n0 e.2.1)::Jn n0 l (e.1::seen)
def l6 (s0:Sg) (ops:List Oper) (l:List TR) (T:List Ent):Skel:=
 ⟨(l.map (opK s0.nxt T ops.toArray)).reverse,T.length,s0.chs.map (numOf · T),(l.map (·.b)).reverse,Jn s0.nxt (Mu s0 l).env [],(Mu s0 l).chs.map (numOf · T)⟩
def fh:List Ent→Bool
 | [] =>true
 | e::l=> !(l.any fun x=>sameKey x e)&&fh l
def j4:List Ent→Bool
 | [] =>true
 | e::l=>Bk e.1 l&&j4 l
def P9 (h:Hdr) (ver:Nat) (e:Ent):Bool:=Hdr.beq e.1 h&&(Nat.beq e.2.1 ver || match e.2.2 with
 | .hole over _ _ _ _ _ _ _ _ _=>Nat.beq over ver
 | _=>false)
def allowed (n0:Nat) (x:TR) (v:Nat):Bool:=Nat.blt v n0 || (Nat.beq (v - n0) x.i || rA (v - n0) x.b)
def Of (n0:Nat) (x:TR):List (Hdr×Nat):=x.r.av.elos++x.r.gives.flatMap fun g=>g.2.elos (n0+x.i)
def Mv (x:TR):List Nat:=x.r.av.ids++x.r.gives.flatMap fun g=>yH g.1 g.2
def wm (n0:Nat) (x:TR):Bool:=allN (Mv x) (allowed n0 x)&&(Of n0 x).all fun q=>(x.r.chs (n0+x.i)).any (P9 q.1 q.2) || (Nat.beq q.2 (n0+x.i) && !(x.r.gives.any fun g=>Hdr.beq g.1 q.1))
def knS (s0:Sg) (t:Nat):Bool:=(look s0.env t).isSome
def Og (n:Nat) (s0:Sg) (ops:List Oper) (l:List TR) (T:List Ent):Bool:=j4 s0.chs&&(fh T&&(l.all (wm s0.nxt)&&((l6 s0 ops l T).ok n (knS s0) ops&&(l6 s0 ops l T).okB (knS s0) ops)))
section
variable {Y:Type} (V:Env)
def wo (s0:Sg):List Oper→List Hdr
 | [] =>[]
 | o::os=>yF s0 o.op.operands.toList++wo s0 os
def Fj (ops:List Oper) (k:Sg→Option Y) (s0:Sg):Option Y:=goD V ops s0 (fun l=>bp (Og V.n s0 ops l (fb s0.nxt s0.chs l)) (k (Mu s0 l))) ops 0 []
def Oh (s0:Sg):List Oper→List (Bool×Hdr)
 | [] =>[]
 | o::os=>To s0 (keeps o) (RL o)++Oh s0 os
def Fk (tr:Trs) (ops:List Oper) (s:Sg):Sg:=match tr with
 | [] =>s
 | _=>LM tr (Oh s ops) s
def Mw (tr:Trs) (ops:List Oper) (s0:Sg):Sg:=match lj s0 with
 | s=>Fk tr ops (rU (wo s ops) s)
def Qa (ops:List Oper) (k:Sg→Option Y) (s:Sg):Option Y:=Fj V ops k (Mw V.tr ops s)
end
theorem tm {a b:Ent} :sameKey a b=true↔a.2.1=b.2.1∧a.1=b.1:=by
 unfold sameKey
 rw[Bool.and_eq_true,Q0]
 constructor
 ·rintro ⟨h1,h2⟩;exact ⟨h1,Hdr.beq_eq h2⟩
 ·rintro ⟨h1,h2⟩;exact ⟨h1,by rw[h2];exact zG _⟩
theorem uf {l:List Ent} :fh l=true→ ∀a∈l,∀b∈l,a.2.1=b.2.1→a.1=b.1→a=b:=by
 induction l with
 | nil=>intro _ a ha;cases ha
 | cons e l ih =>
  intro h a ha b hb
  unfold fh at h
  rw[Bool.and_eq_true,Bool.not_eq_true'] at h
  obtain ⟨h1,h2⟩:=h
  have key: ∀x∈l,¬(x.2.1=e.2.1∧x.1=e.1):=fun x hx hk=>by
   have:(l.any fun x=>sameKey x e)=true:=List.any_eq_true.2 ⟨x,hx,tm.2 hk⟩
   rw[h1] at this;cases this
  intro k1 k2
  rcases List.mem_cons.1 ha with ha' | ha'
  ·rcases List.mem_cons.1 hb with hb' | hb'
   ·rw[ha',hb']
   ·rw[ha'] at k1 k2;exact absurd ⟨k1.symm,k2.symm⟩ (key b hb')
  ·rcases List.mem_cons.1 hb with hb' | hb'
   ·rw[hb'] at k1 k2;exact absurd ⟨k1,k2⟩ (key a ha')
   ·exact ih h2 a ha' b hb' k1 k2
theorem B5 {l:List Ent} :j4 l=true→ ∀a∈l,∀b∈l,a.1=b.1→a=b:=by
 induction l with
 | nil=>intro _ a ha;cases ha
 | cons e l ih =>
  intro h a ha b hb
  unfold j4 at h
  rw[Bool.and_eq_true] at h
  obtain ⟨h1,h2⟩:=h
  intro k
  rcases List.mem_cons.1 ha with ha' | ha'
  ·rcases List.mem_cons.1 hb with hb' | hb'
   ·rw[ha',hb']
   ·rw[ha'] at k;exact absurd k.symm (nr h1 hb')
  ·rcases List.mem_cons.1 hb with hb' | hb'
   ·rw[hb'] at k;exact absurd k (nr h1 ha')
   ·exact ih h2 a ha' b hb' k
theorem pM {e:Ent} : ∀ {T:List Ent},fh T=true→e∈T→T[numOf e T]? =some e
 | x::T,hd,he=>by
  unfold numOf
  split
  ·rename_i hk
   obtain ⟨k1,k2⟩:=tm.1 hk
   exact congrArg some (uf hd x (by simp) e he k1 k2)
  ·rename_i hk
   have hd':=hd
   unfold fh at hd'
   rw[Bool.and_eq_true] at hd'
   rcases List.mem_cons.1 he with rfl | he
   ·exact absurd (tm.2 ⟨rfl,rfl⟩) hk
   ·exact pM hd'.2 he
theorem Mx {h:Hdr} {ver:Nat} {e:Ent} (k:P9 h ver e=true): ∃c,Says e h ver c:=by
 unfold P9 at k
 rw[Bool.and_eq_true,Bool.or_eq_true] at k
 obtain ⟨h1,h2⟩:=k
 have h1:=Hdr.beq_eq h1
 obtain ⟨g,v,c⟩:=e
 rcases h2 with h2 | h2
 ·exact ⟨c,h1,.inl ⟨Nat.eq_of_beq_eq_true h2,rfl⟩⟩
 ·cases c with
  | hole over t d u y f i kk off lv=>exact ⟨.own t d,h1,.inr ⟨Nat.eq_of_beq_eq_true h2,rfl⟩⟩
  | _=>cases h2
section
variable {P:Program} {w0:World} {n:Nat} {s0:Sg} {ops:List Oper} {l:List TR}
theorem AllOk.lt:AllOk P w0 n s0 ops l→ ∀y∈l,y.i<l.length:=by
 induction l with
 | nil=>intro _ y hy;cases hy
 | cons w l ih =>
  rintro ⟨e1,e2⟩ y hy
  rcases List.mem_cons.1 hy with rfl | hy
  ·rw[e1.hi,List.length_cons];omega
  ·have:=ih e2 y hy
   rw[List.length_cons];omega
theorem AllOk.uniq:AllOk P w0 n s0 ops l→ ∀x∈l,∀y∈l,x.i=y.i→x=y:=by
 induction l with
 | nil=>intro _ y hy;cases hy
 | cons w l ih =>
  rintro ⟨e1,e2⟩ x hx y hy h
  have hw:=e1.hi
  rcases List.mem_cons.1 hx with hx | hx
  ·rcases List.mem_cons.1 hy with hy | hy
   ·rw[hx,hy]
   ·have:=e2.lt y hy
    rw[hx] at h;omega
  ·rcases List.mem_cons.1 hy with hy | hy
   ·have:=e2.lt x hx
    rw[hy] at h;omega
   ·exact ih e2 x hx y hy h
theorem AllOk.get {x:TR} :AllOk P w0 n s0 ops l→x∈l→ ∃l1,RecOk P w0 n s0 ops l1 x∧AllOk P w0 n s0 ops l1∧(∀y∈l1,y∈l)∧ ∀y∈l,y.i<x.i→y∈l1:=by
 induction l with
 | nil=>intro _ hx;cases hx
 | cons z l ih =>
  rintro ⟨h1,h2⟩ hx
  rcases List.mem_cons.1 hx with hx | hx
  ·subst hx
   exact ⟨l,h1,h2,fun y hy=>by simp[hy],fun y hy hlt=>by
    rcases List.mem_cons.1 hy with hy | hy
    ·rw[hy] at hlt;exact absurd hlt (Nat.lt_irrefl _)
    ·exact hy⟩
  ·obtain ⟨l1,k1,k2,k3,k4⟩:=ih h2 hx
   refine ⟨l1,k1,k2,fun y hy=>by simp[k3 y hy],fun y hy hlt=>?_⟩
   rcases List.mem_cons.1 hy with hy | hy
   ·exfalso
    have h3:=h2.lt x hx
    have h4:=h1.hi
    rw[hy] at hlt
    omega
   ·exact k4 y hy hlt
theorem AllOk.at {α:Type} (f:TR→α):AllOk P w0 n s0 ops l→ ∀i,i<l.length→ ∃x∈l,x.i=i∧(l.map f).reverse[i]? =some (f x):=by
 induction l with
 | nil=>intro _ i hi;cases hi
 | cons w l ih =>
  rintro ⟨e1,e2⟩ i hi
  rw[List.map_cons,List.reverse_cons]
  by_cases h:i<l.length
  ·obtain ⟨x,hx,h1,h2⟩:=ih e2 i h
   exact ⟨x,by simp[hx],h1,by rw[List.getElem?_append_left (by simpa using h)];exact h2⟩
  ·have h3:i=l.length:=by rw[List.length_cons] at hi;omega
   subst h3
   refine ⟨w,by simp,e1.hi,?_⟩
   rw[List.getElem?_append_right (by simp)];simp
theorem AllOk.opAt (ha:AllOk P w0 n s0 ops l) {x:TR} (hx:x∈l) (T:List Ent):(l6 s0 ops l T).op x.i=opK s0.nxt T ops.toArray x∧(l6 s0 ops l T).before x.i=x.b:=by
 have hlt:=ha.lt x hx
 obtain ⟨y,hy,h1,h2⟩:=ha.at (opK s0.nxt T ops.toArray) x.i hlt
 obtain ⟨z,hz,h3,h4⟩:=ha.at (·.b) x.i hlt
 obtain rfl:=ha.uniq y hy x hx h1
 obtain rfl:=ha.uniq z hz y hx h3
 constructor
 ·show (l.map (opK s0.nxt T ops.toArray)).reverse.getD z.i _=_
  rw[List.getD_eq_getElem?_getD,h2];rfl
 ·show (l.map (·.b)).reverse.getD z.i [] =_
  rw[List.getD_eq_getElem?_getD,h4];rfl
theorem iB {n0:Nat} {chs:List Ent} {e:Ent} : ∀ {l:List TR},e∈fb n0 chs l↔e∈chs∨ ∃x∈l,e∈iA n0 x
 | [] =>by simp[fb]
 | y::l=>by
  unfold fb
  rw[List.mem_append,iB (l:=l)]
  constructor
  ·rintro (h | h | ⟨x,hx,h⟩)
   ·exact .inr ⟨y,by simp,h⟩
   ·exact .inl h
   ·exact .inr ⟨x,by simp[hx],h⟩
  ·rintro (h | ⟨x,hx,h⟩)
   ·exact .inr (.inl h)
   ·rcases List.mem_cons.1 hx with rfl | hx
    ·exact .inl h
    ·exact .inr (.inr ⟨x,hx,h⟩)
theorem gb {n0:Nat} {x:TR} {e:Ent} (h:e∈iA n0 x):e.2.1=n0+x.i∧(e.1,e.2.2)∈x.r.gives:=by
 obtain ⟨g,hg,rfl⟩:=List.mem_map.1 h
 exact ⟨rfl,hg⟩
theorem qP {n0:Nat} {env:List (Nat×Nat×AV)} {e:Nat×Nat×AV} : ∀ {l:List TR},e∈wj n0 env l→e∈env∨ ∃x∈l,x.o.dst=some e.1∧e.2.1=n0+x.i∧e.2.2=x.r.av
 | [],h=>.inl h
 | y::l,h=>by
  unfold wj HY at h
  split at h
  ·rename_i d hd
   rcases List.mem_cons.1 h with rfl | h
   ·exact .inr ⟨y,by simp,hd,rfl,rfl⟩
   ·exact (qP h).imp id fun ⟨x,hx,k⟩=>⟨x,by simp[hx],k⟩
  ·exact (qP h).imp id fun ⟨x,hx,k⟩=>⟨x,by simp[hx],k⟩
theorem Jo {n0:Nat} {b:List Nat} {v:Nat} :inB n0 b v=true↔v<n0∨v - n0∈b:=by unfold inB;rw[Bool.or_eq_true,Q1,ln]
theorem tn {i:Nat} {b:List Nat} {e:Ent} (h:e∈(subS s0 l i b).chs):e∈fb s0.nxt s0.chs l∧(e.2.1<s0.nxt∨e.2.1 - s0.nxt∈b):=by
 obtain ⟨h1,h2⟩:=List.mem_filter.1 h
 rw[Bool.and_eq_true] at h2
 exact ⟨h1,Jo.1 h2.1⟩
theorem Ac {i:Nat} {b:List Nat} {e:Nat×Nat×AV} (h:e∈(subS s0 l i b).env):e∈wj s0.nxt s0.env l∧(e.2.1<s0.nxt∨e.2.1 - s0.nxt∈b):=by
 obtain ⟨h1,h2⟩:=List.mem_filter.1 h
 exact ⟨h1,Jo.1 h2⟩
def oz (θ:Th) (n0:Nat) (vs:Nat→Value):Th:=fun id=>if id<n0 then θ id else vs (id - n0)
theorem lp {θ:Th} {n0:Nat} {vs:Nat→Value} :Same n0 θ (oz θ n0 vs):=fun i hi=>if_pos hi
theorem My {θ:Th} {n0 i:Nat} {vs:Nat→Value} {v:Value} :oz θ n0 (upd vs i v)=upd (oz θ n0 vs) (n0+i) v:=by
 funext id
 show (if id<n0 then θ id else if id - n0=i then v else vs (id - n0))=if id=n0+i then v else if id<n0 then θ id else vs (id - n0)
 by_cases h:id<n0
 ·rw[if_pos h,if_neg (show¬id=n0+i by omega),if_pos h]
 ·rw[if_neg h]
  by_cases h2:id=n0+i
  ·rw[if_pos h2,if_pos (show id - n0=i by omega)]
  ·rw[if_neg h2,if_neg h,if_neg (show¬id - n0=i by omega)]
def Q2 (P:Program) (w0:World) (J:Hp) (θ:Th) (n0:Nat) (x:TR) (v:Value):Prop:=
 x.r.av.ok P w0 J θ (n0+x.i+1) (x.r.chs (n0+x.i))∧x.r.av.v θ=v∧ ∀g∈x.r.gives,okE P w0 J θ (n0+x.i+1) (x.r.chs (n0+x.i)) (g.1,n0+x.i,g.2)
end
section
variable {P:Program} {w0:World} {n:Nat} {s0:Sg} {ops:List Oper} {l:List TR} {J:Hp} {θ:Th} {vs:Nat→Value}
def Hu (s0:Sg) (l:List TR) (h:Hdr) (ver:Nat) (c:Chk):Prop:=(∃e0∈s0.chs,Says e0 h ver c)∨ ∃x∈l,(h,ver,c)∈iA s0.nxt x
theorem DH {e:Ent} {h:Hdr} {ver:Nat} {c:Chk} {chs:List Ent} {m:Nat} (k:okE P w0 J θ m chs e) (hs:Says e h ver c):ver<m:=by
 obtain ⟨g,v,x⟩:=e
 obtain ⟨-,hs⟩:=hs
 rcases hs with ⟨h1,-⟩ | hs
 ·rw[←h1];exact k.2.1
 ·cases x with
  | hole over t d u y f i kk off lv =>
   rw[←hs.1]
   exact Nat.lt_trans k.2.2.2.1 k.2.1
  | _=>exact hs.elim
theorem Qb (hB:j4 s0.chs=true) (hK:fh (fb s0.nxt s0.chs l)=true) (hf:Fine P w0 J θ s0) {h:Hdr} {ver:Nat} {c c':Chk} (h1:Hu s0 l h ver c) (h2:Hu s0 l h ver c'):c=c':=by
 have base: ∀e1∈s0.chs,∀e2∈s0.chs,∀c c',Says e1 h ver c→Says e2 h ver c'→c=c':=by
  intro e1 he1 e2 he2 c c' k1 k2
  obtain rfl:=B5 hB e1 he1 e2 he2 (k1.1.trans k2.1.symm)
  have hok:=hf.chs e1 he1
  obtain ⟨g,v,x⟩:=e1
  rcases k1.2 with ⟨a1,a2⟩ | a
  ·rcases k2.2 with ⟨b1,b2⟩ | b
   ·rw[a2,b2]
   ·cases x with
    | hole over t d u y f i kk off lv =>
     have:=hok.2.2.2.1
     have e1:v=ver:=a1
     have e2:over=ver:=b.1
     exfalso
     have:over<v:=this
     omega
    | _=>exact b.elim
  ·rcases k2.2 with ⟨b1,b2⟩ | b
   ·cases x with
    | hole over t d u y f i kk off lv =>
     have:=hok.2.2.2.1
     have e1:v=ver:=b1
     have e2:over=ver:=a.1
     exfalso
     have:over<v:=this
     omega
    | _=>exact a.elim
   ·cases x with
    | hole over t d u y f i kk off lv=>rw[a.2,b.2]
    | _=>exact a.elim
 rcases h1 with ⟨e1,he1,k1⟩ | ⟨x,hx,k1⟩
 ·rcases h2 with ⟨e2,he2,k2⟩ | ⟨y,hy,k2⟩
  ·exact base e1 he1 e2 he2 c c' k1 k2
  ·have:=DH (hf.chs e1 he1) k1
   have:=(gb k2).1
   exfalso;simp only at this;omega
 ·rcases h2 with ⟨e2,he2,k2⟩ | ⟨y,hy,k2⟩
  ·have:=DH (hf.chs e2 he2) k2
   have:=(gb k1).1
   exfalso;simp only at this;omega
  ·have:=uf hK _ (iB.2 (.inr ⟨x,hx,k1⟩)) _ (iB.2 (.inr ⟨y,hy,k2⟩)) rfl rfl
   exact congrArg (fun e=>e.2.2) this
theorem Fl (hB:j4 s0.chs=true) (hK:fh (fb s0.nxt s0.chs l)=true) (hf:Fine P w0 J θ s0) (ha:AllOk P w0 n s0 ops l) (hc: ∀x∈l,wm s0.nxt x=true)
  (L1:List TR) (hL: ∀y∈L1,y∈l) (b:List Nat) (i:Nat) (hbi: ∀j∈b,j<i)
  (hfact: ∀y∈l,y.i∈b→Q2 P w0 J (oz θ s0.nxt vs) s0.nxt y (vs y.i))
  (horig: ∀y∈l,y.i∈b→ ∀e∈iA s0.nxt y,∀h ver c,Says e h ver c→Hu s0 l h ver c)
  (hback: ∀y∈l,y.i∈b→ ∀e∈y.r.chs (s0.nxt+y.i),∀h ver c,Says e h ver c→Hu s0 l h ver c)
  (hnd:(wj s0.nxt s0.env L1).Pairwise fun a b=>a.2.1≠b.2.1):Fine P w0 J (oz θ s0.nxt vs) (subS s0 L1 i b):=by
 have own: ∀e∈(subS s0 L1 i b).chs,∀h ver c,Says e h ver c→Hu s0 l h ver c:=by
  intro e he h ver c hs
  obtain ⟨h1,h2⟩:=tn he
  rcases iB.1 h1 with h1 | ⟨y,hy,h1⟩
  ·exact .inl ⟨e,h1,hs⟩
  ·have hv:=(gb h1).1
   rcases h2 with h2 | h2
   ·omega
   ·exact horig y (hL y hy) (by rw[hv,Nat.add_sub_cancel_left] at h2;exact h2) e h1 h ver c hs
 have mem0: ∀h ver c,Mem s0.chs s0.nxt h ver c→ ∀e∈(subS s0 L1 i b).chs,∀c',Says e h ver c'→c'=c:=by
  intro h ver c hm e he c' hs
  rcases own e he h ver c' hs with ⟨e0,he0,k⟩ | ⟨y,hy,k⟩
  ·exact hm.2 e0 he0 c' k
  ·have:=(gb k).1
   have:=hm.1
   exfalso;simp only at *;omega
 have memj: ∀y∈l,y.i∈b→ ∀h ver,(h,ver)∈Of s0.nxt y→ ∀c,Mem (y.r.chs (s0.nxt+y.i)) (s0.nxt+y.i+1) h ver c→ ∀e∈(subS s0 L1 i b).chs,∀c',Says e h ver c'→c'=c:=by
  intro y hy hyb h ver hel c hm e he c' hs
  have hch:=hc y hy
  unfold wm at hch
  rw[Bool.and_eq_true] at hch
  have:=(List.all_eq_true.1 hch.2) (h,ver) hel
  rcases Bool.or_eq_true_iff.1 this with this | this
  rotate_left
  ·rw[Bool.and_eq_true,Bool.not_eq_true'] at this
   have hver:ver=s0.nxt+y.i:=Nat.eq_of_beq_eq_true this.1
   rcases own e he h ver c' hs with ⟨e0,he0,k⟩ | ⟨z,hz,k⟩
   ·have:=DH (hf.chs e0 he0) k
    omega
   ·obtain ⟨k1,k2⟩:=gb k
    have k1:ver=s0.nxt+z.i:=k1
    obtain rfl:=AllOk.uniq ha z hz y hy (by omega)
    have:(z.r.gives.any fun g=>Hdr.beq g.1 h)=true:=List.any_eq_true.2 ⟨_,k2,zG h⟩
    simp_all
  obtain ⟨e1,he1,hk⟩:=List.any_eq_true.1 this
  obtain ⟨c1,hs1⟩:=Mx hk
  have hc1:=hm.2 e1 he1 c1 hs1
  subst hc1
  exact Qb hB hK hf (own e he h ver c' hs) (hback y hy hyb e1 he1 h ver c1 hs1)
 refine ⟨fun e he=>?_,fun e he=>?_,List.Pairwise.filter _ hnd,fun e he=>?_⟩
 ·obtain ⟨h1,h2⟩:=Ac he
  rcases qP h1 with h1 | ⟨y,hy,k1,k2,k3⟩
  ·have:=hf.env e h1
   refine AV.ok_move (n:=s0.nxt) (Nat.le_add_right _ _) (fun h ver c _ hm=>mem0 h ver c hm) ?_
   exact AV.ok_same lp (Nat.le_refl _) Newer.rfl this Hp.le.rfl
  ·rcases h2 with h2 | h2
   ·omega
   ·have hyb:y.i∈b:=by rw[k2,Nat.add_sub_cancel_left] at h2;exact h2
    have hr:=hfact y (hL y hy) hyb
    have:=hbi _ hyb
    rw[k3]
    refine AV.ok_move (n:=s0.nxt+y.i+1) (by show s0.nxt+y.i+1≤s0.nxt+i;omega) (fun h ver c hel hm=>memj y (hL y hy) hyb h ver (List.mem_append_left _ hel) c hm) hr.1
 ·obtain ⟨h1,h2⟩:=Ac he
  rcases qP h1 with h1 | ⟨y,hy,k1,k2,k3⟩
  ·exact Nat.lt_of_lt_of_le (hf.ver e h1) (Nat.le_add_right _ _)
  ·rcases h2 with h2 | h2
   ·omega
   ·have:=hbi _ h2
    show e.2.1<s0.nxt+i
    omega
 ·obtain ⟨h1,h2⟩:=tn he
  rcases iB.1 h1 with h1 | ⟨y,hy,h1⟩
  ·refine Fi (n:=s0.nxt) (Nat.le_add_right _ _) (fun h ver c _ hm=>mem0 h ver c hm) ?_
   exact eU lp (Nat.le_refl _) Newer.rfl (hf.chs e h1) Hp.le.rfl
  ·obtain ⟨hv,hg⟩:=gb h1
   rcases h2 with h2 | h2
   ·omega
   ·have hyb:y.i∈b:=by rw[hv,Nat.add_sub_cancel_left] at h2;exact h2
    have hr:=hfact y (hL y hy) hyb
    have:=hbi _ hyb
    have hk:=hr.2.2 _ hg
    have he2:e=(e.1,s0.nxt+y.i,e.2.2):=by rw[←hv]
    rw[he2]
    refine Fi (n:=s0.nxt+y.i+1) (by show s0.nxt+y.i+1≤s0.nxt+i;omega) (fun h ver c hel hm=>?_) hk
    exact memj y (hL y hy) hyb h ver (List.mem_append_right _ (List.mem_flatMap.2 ⟨_,hg,hel⟩)) c hm
end
end R
namespace R
open Go.RowKit
open D
theorem Jp {t j:Nat} {l:List Nat} :j∈SP t l↔j=t∨j∈l:=by
 unfold SP
 split
 ·rename_i h
  have:=ln.1 h
  constructor
  ·exact fun h=>.inr h
  ·rintro (rfl | h)
   ·exact this
   ·exact h
 ·exact List.mem_cons
theorem B6 {j:Nat} : ∀ {l acc:List Nat},j∈B3 l acc↔j∈l∨j∈acc
 | [],acc=>by simp[B3]
 | t::l,acc=>by
  unfold B3
  rw[B6 (l:=l),Jp,List.mem_cons]
  constructor
  ·rintro (h | h | h) <;> simp[h]
  ·rintro ((h | h) | h) <;> simp[h]
def bAt (l:List TR) (k:Nat):List Nat:=match recAt k l with
 | some y=>y.b
 | none=>[]
theorem Oi {l:List TR} {j:Nat} : ∀ {js acc:List Nat},j∈bOf l js acc↔j∈acc∨ ∃k∈js,j=k∨j∈bAt l k
 | [],acc=>by simp[bOf]
 | k::js,acc=>by
  unfold bOf
  rw[Oi (js:=js),B6,Jp]
  show (j∈bAt l k∨j=k∨j∈acc)∨_↔_
  constructor
  ·rintro ((h | h | h) | ⟨k',hk,h⟩)
   ·exact .inr ⟨k,by simp,.inr h⟩
   ·exact .inr ⟨k,by simp,.inl h⟩
   ·exact .inl h
   ·exact .inr ⟨k',by simp[hk],h⟩
  ·rintro (h | ⟨k',hk,h⟩)
   ·exact .inl (.inr (.inr h))
   ·rcases List.mem_cons.1 hk with hk | hk
    ·subst hk
     rcases h with h | h
     ·exact .inl (.inr (.inl h))
     ·exact .inl (.inl h)
    ·exact .inr ⟨k',hk,h⟩
theorem yI {y:TR} : ∀ {l:List TR},y∈l→ ∃z,recAt y.i l=some z
 | x::l,h=>by
  unfold recAt
  split
  ·exact ⟨_,rfl⟩
  ·rename_i hx
   rcases List.mem_cons.1 h with h | h
   ·rw[h] at hx;exact absurd (Nat.beq_refl _) hx
   ·exact yI h
section
variable {P:Program} {w0:World} {n:Nat} {s0:Sg} {ops:List Oper} {l:List TR} {J:Hp} {θ:Th} {vs:Nat→Value}
theorem AllOk.closed (ha:AllOk P w0 n s0 ops l) (hlt: ∀x∈l,∀j∈x.b,j<x.i): ∀x∈l,∀y∈l,y.i∈x.b→ ∀k∈y.b,k∈x.b:=by
 have main: ∀m,∀x∈l,x.i=m→ ∀y∈l,y.i∈x.b→ ∀k∈y.b,k∈x.b:=by
  intro m
  induction m using Nat.strongRecOn with
  | _ m ih =>
   intro x hx hxm y hy hyb k hk
   obtain ⟨l1,h1,h2,h3,h4⟩:=ha.get hx
   have hyl:=hlt x hx _ hyb
   have hy1:=h4 y hy hyl
   rw[h1.hb,Oi] at hyb⊢
   rcases hyb with hyb | ⟨q,hq,hyb | hyb⟩
   ·cases hyb
   ·refine .inr ⟨q,hq,.inr ?_⟩
    subst hyb
    obtain ⟨z,hz⟩:=yI hy1
    unfold bAt
    rw[hz]
    obtain ⟨hz1,hz2⟩:=vj hz
    obtain rfl:=ha.uniq z (h3 z hz1) y hy hz2
    exact hk
   ·refine .inr ⟨q,hq,.inr ?_⟩
    unfold bAt at hyb⊢
    split at hyb
    ·rename_i z hz
     obtain ⟨hz1,hz2⟩:=vj hz
     have hzl:=h2.lt z hz1
     rw[←h1.hi] at hzl
     exact ih z.i (by omega) z (h3 z hz1) rfl y hy hyb k hk
    ·cases hyb
 exact fun x hx=>main x.i x hx rfl
theorem Oj (hf:Fine P w0 J θ s0):AllOk P w0 n s0 ops l→(wj s0.nxt s0.env l).Pairwise fun a b=>a.2.1≠b.2.1:=by
 induction l with
 | nil=>intro _;exact hf.nd
 | cons x l ih =>
  rintro ⟨h1,h2⟩
  refine nd_go x.o.dst (ih h2) fun e he=>?_
  rcases qP he with h | ⟨y,hy,k1,k2,k3⟩
  ·have:=hf.ver e h;omega
  ·have:=h2.lt y hy
   have:=h1.hi
   omega
where nd_go {env:List (Nat×Nat×AV)} {k:Nat} {av:AV} (d:Option Nat) (h:env.Pairwise fun a b=>a.2.1≠b.2.1) (hv: ∀e∈env,e.2.1<k):(HY d k av env).Pairwise fun a b=>a.2.1≠b.2.1:=Bg h hv
theorem words (hB:j4 s0.chs=true) (hK:fh (fb s0.nxt s0.chs l)=true) (hf:Fine P w0 J θ s0) (ha:AllOk P w0 n s0 ops l) (hc: ∀x∈l,wm s0.nxt x=true) (hlt: ∀x∈l,∀j∈x.b,j<x.i)
  (B:List Nat) (hcl: ∀y∈l,y.i∈B→ ∀k∈y.b,k∈B) (hfact: ∀y∈l,y.i∈B→Q2 P w0 J (oz θ s0.nxt vs) s0.nxt y (vs y.i)) :
  ∀x∈l,(∀k∈x.b,k∈B)→Fine P w0 J (oz θ s0.nxt vs) x.s∧(∀e∈iA s0.nxt x,∀h ver c,Says e h ver c→Hu s0 l h ver c)∧ ∀e∈x.r.chs (s0.nxt+x.i),∀h ver c,Says e h ver c→Hu s0 l h ver c:=by
 have main: ∀m,∀x∈l,x.i=m→(∀k∈x.b,k∈B)→Fine P w0 J (oz θ s0.nxt vs) x.s∧(∀e∈iA s0.nxt x,∀h ver c,Says e h ver c→Hu s0 l h ver c)∧ ∀e∈x.r.chs (s0.nxt+x.i),∀h ver c,Says e h ver c→Hu s0 l h ver c:=by
  intro m
  induction m using Nat.strongRecOn with
  | _ m ih =>
   intro x hx hxm hxB
   obtain ⟨l1,h1,h2,h3,h4⟩:=ha.get hx
   have IH: ∀y∈l,y.i∈x.b→_:=fun y hy hyb=>ih y.i (by have:=hlt x hx _ hyb;omega) y hy rfl (hcl y hy (hxB _ hyb))
   have hF:Fine P w0 J (oz θ s0.nxt vs) x.s:=by
    rw[h1.hs]
    exact Fl hB hK hf ha hc l1 h3 x.b x.i (hlt x hx) (fun y hy hyb=>hfact y hy (hxB _ hyb)) (fun y hy hyb=>(IH y hy hyb).2.1) (fun y hy hyb=>(IH y hy hyb).2.2) (Oj hf h2)
   have hsub: ∀e∈x.s.chs,∀h ver c,Says e h ver c→Hu s0 l h ver c:=by
    intro e he h ver c hs
    rw[h1.hs] at he
    obtain ⟨k1,k2⟩:=tn he
    rcases iB.1 k1 with k1 | ⟨y,hy,k1⟩
    ·exact .inl ⟨e,k1,hs⟩
    ·have hv:=(gb k1).1
     rcases k2 with k2 | k2
     ·omega
     ·rw[hv,Nat.add_sub_cancel_left] at k2
      exact (IH y (h3 y hy) k2).2.1 e k1 h ver c hs
   have hgv: ∀e∈iA s0.nxt x,∀h ver c,Says e h ver c→Hu s0 l h ver c:=by
    intro e he h ver c hs
    cases hr:x.run with
    | true =>
     obtain ⟨g1,g2⟩:=h1.good hr
     obtain ⟨hv,hg⟩:=gb he
     obtain ⟨k1,k2⟩:=hs
     rcases k2 with ⟨k2,k3⟩ | k2
     ·refine .inr ⟨x,hx,?_⟩
      have:e=(h,ver,c):=by rw[k3,←k1,←k2]
      rw[←this];exact he
     ·obtain ⟨e0,he0,k⟩:=g1.says J _ hF _ hg ver c k2
      simp only at k
      rw[k1] at k
      exact hsub e0 he0 h ver c k
    | false =>
     have:=h1.skip hr
     unfold iA at he
     rw[this] at he
     cases he
   refine ⟨hF,hgv,fun e he h ver c hs=>?_⟩
   unfold Res.chs at he
   rcases List.mem_append.1 he with he | he
   ·exact hgv e he h ver c hs
   ·refine hsub e ?_ h ver c hs
    cases hr:x.run with
    | true =>
     obtain ⟨g1,g2⟩:=h1.good hr
     exact g1.perm.mem_iff.2 (by rcases List.mem_append.1 he with he | he <;> simp[he])
    | false =>
     rw[h1.skip hr] at he
     simpa using he
 exact fun x hx hxB=>main x.i x hx rfl hxB
theorem pN {t:Nat} {av:AV} : ∀ {env:List (Nat×Nat×AV)},look env t=some av→ ∃v,wk env t=some v∧(t,v,av)∈env
 | (u,k,x)::l,h=>by
  unfold look at h
  unfold wk
  split at h
  ·rename_i hu
   obtain rfl:=Option.some.inj h
   rw[if_pos hu,Nat.eq_of_beq_eq_true hu]
   exact ⟨k,rfl,by simp⟩
  ·rename_i hu
   rw[if_neg hu]
   obtain ⟨v,h1,h2⟩:=pN h
   exact ⟨v,h1,by simp[h2]⟩
theorem Jq {t v:Nat} {av:AV} {f:Nat×Nat×AV→Bool} (hf: ∀e∈s0.env,f e=true):look ((wj s0.nxt s0.env l).filter f) t=some av→wk ((wj s0.nxt s0.env l).filter f) t=some v→v<s0.nxt→look s0.env t=some av:=by
 induction l with
 | nil =>
  intro h1 h2 h3
  rw[show (wj s0.nxt s0.env []).filter f=s0.env from List.filter_eq_self.2 hf] at h1
  exact h1
 | cons x l ih =>
  intro h1 h2 h3
  unfold wj HY at h1 h2
  split at h1
  ·rename_i d hd
   rw[hd] at h2
   simp only at h2
   rw[List.filter_cons] at h1 h2
   split at h1
   ·rename_i hk
    rw[if_pos hk] at h2
    unfold look at h1
    unfold wk at h2
    split at h1
    ·rename_i hu
     rw[if_pos hu] at h2
     have:=Option.some.inj h2
     omega
    ·rename_i hu
     rw[if_neg hu] at h2
     exact ih h1 h2 h3
   ·rename_i hk
    rw[if_neg hk] at h2
    exact ih h1 h2 h3
  ·rename_i hd
   rw[hd] at h2
   exact ih h1 h2 h3
theorem RO (hf:Fine P w0 J θ s0) {b:List Nat} {i:Nat} {L1:List TR} (hL: ∀y∈L1,y∈l) (hfact: ∀y∈l,y.i∈b→Q2 P w0 J (oz θ s0.nxt vs) s0.nxt y (vs y.i)) {t v:Nat} {av:AV}
  (h1:look (subS s0 L1 i b).env t=some av) (h2:wk (subS s0 L1 i b).env t=some v):(match Oe s0.nxt v with | some j=>vs j | none=>((envL θ s0).lookup t).getD undef)=av.v (oz θ s0.nxt vs):=by
 obtain ⟨v',h3,h4⟩:=pN h1
 obtain rfl:=Option.some.inj (h2.symm.trans h3)
 unfold Oe
 by_cases hv:v<s0.nxt
 ·rw[if_pos (Q1.2 hv)]
  have hb:=Jq (fun e he=>Jo.2 (.inl (hf.ver e he))) h1 h2 hv
  obtain ⟨e,he,rfl⟩:=pE hb
  rw[AV.v_same (lp (vs:=vs)) (hf.env e he)]
  simp only
  rw[show (envL θ s0).lookup t=_ from eL hb];rfl
 ·rw[if_neg (fun h=>hv (Q1.1 h))]
  obtain ⟨h5,h6⟩:=Ac h4
  rcases qP h5 with h5 | ⟨y,hy,k1,k2,k3⟩
  ·exact absurd (hf.ver _ h5) hv
  ·rcases h6 with h6 | h6
   ·exact absurd h6 hv
   ·have k2:v=s0.nxt+y.i:=k2
    have k3:av=y.r.av:=k3
    have h6:v - s0.nxt∈b:=h6
    rw[k2,Nat.add_sub_cancel_left] at h6
    rw[k2,Nat.add_sub_cancel_left,k3]
    exact (hfact y (hL y hy) h6).2.1.symm
end
end R
namespace R
open Go.RowKit
open D
def Mz (P:Program) (w0:World) (J:Hp) (θ:Th) (n0:Nat) (l:List TR) (T:List Ent):Sm where
 fact i vs:= ∀x∈l,x.i=i→Q2 P w0 J (oz θ n0 vs) n0 x (vs i)
 chunk k vs:=match T[k]? with
  | some e=>toCh P (oz θ n0 vs) e
  | none=>Ch.fr (fun _=>none) []
theorem DI {n0 t v:Nat} {env:List (Nat×Nat×AV)} : ∀ {ts:List Nat},t∈ts→wk env t=some v→Skel.srcOf t (B4 n0 env ts)=some (Oe n0 v)
 | u::ts,h,hv=>by
  unfold B4
  by_cases hu:u=t
  ·subst hu
   rw[hv]
   simp only
   unfold Skel.srcOf
   rw[if_pos (Nat.beq_refl u)]
  ·have ht:t∈ts:=(List.mem_cons.1 h).resolve_left fun e=>hu e.symm
   cases hw:wk env u with
   | none=>exact DI ht hv
   | some w =>
    simp only
    unfold Skel.srcOf
    rw[if_neg fun e=>hu (Nat.eq_of_beq_eq_true e)]
    exact DI ht hv
theorem fin_ok {n0 t v:Nat} {f:Option Nat→Value} : ∀ {env:List (Nat×Nat×AV)} {seen:List Nat},t∉seen→wk env t=some v→((Jn n0 env seen).map fun q=>(q.1,f q.2)).lookup t=some (f (Oe n0 v))
 | (u,k,x)::l,seen,hs,hv=>by
  unfold Jn
  unfold wk at hv
  split
  ·rename_i hin
   have hin:=ln.1 hin
   have hne:u≠t:=fun e=>hs (e ▸ hin)
   rw[if_neg fun e=>hne (Nat.eq_of_beq_eq_true e)] at hv
   exact fin_ok hs hv
  ·rename_i hin
   rw[List.map_cons,List.lookup_cons]
   by_cases hu:u=t
   ·subst hu
    rw[if_pos (Nat.beq_refl u)] at hv
    obtain rfl:=Option.some.inj hv
    simp
   ·rw[if_neg fun e=>hu (Nat.eq_of_beq_eq_true e)] at hv
    have:(t==u)=false:=by simpa using fun e=>hu e.symm
    rw[this]
    refine fin_ok (fun h=>?_) hv
    rcases List.mem_cons.1 h with h | h
    ·exact hu h.symm
    ·exact hs h
section
variable {V:Env} {P:Program} {I:Hp} {w0 w:World} {F:Ch} {J:Hp} {θ:Th} {s0:Sg} {ops:List Oper} {l:List TR} {a:Act}
theorem Fm {x:TR} {i:Nat} (h:i∈x.r.av.ids):i∈Mv x:=List.mem_append_left _ h
theorem Fo {x:TR} {g:Hdr×Chk} {i:Nat} (hg:g∈x.r.gives) (h:i∈yH g.1 g.2):i∈Mv x:=List.mem_append_right _ (List.mem_flatMap.2 ⟨g,hg,h⟩)
theorem RP (hf:Fine P w0 J θ s0) {n:Nat} (ha:AllOk P w0 n s0 ops l) (hlen:l.length=ops.length) (hK:fh (fb s0.nxt s0.chs l)=true) (hc: ∀x∈l,wm s0.nxt x=true) :
  Loc (l6 s0 ops l (fb s0.nxt s0.chs l)) (Mz P w0 J θ s0.nxt l (fb s0.nxt s0.chs l)) ops.length:=by
 have agree: ∀x∈l,∀vs vs':Nat→Value,(∀j,j=x.i∨j∈x.b→vs' j=vs j)→ ∀i∈Mv x,oz θ s0.nxt vs' i=oz θ s0.nxt vs i:=by
  intro x hx vs vs' hv i hi
  have:=hc x hx
  unfold wm at this
  rw[Bool.and_eq_true,oT] at this
  have h1:=this.1 i hi
  unfold allowed at h1
  rw[Bool.or_eq_true,Bool.or_eq_true,Q1,Q0,ln] at h1
  unfold oz
  by_cases hlt:i<s0.nxt
  ·rw[if_pos hlt,if_pos hlt]
  ·rw[if_neg hlt,if_neg hlt]
   exact hv _ (h1.resolve_left hlt)
 refine ⟨fun i hi vs vs' hv h x hx hxi=>?_,fun k hk vs vs'=>?_,fun i hi k hk vs vs' hv=>?_⟩
 ·subst hxi
  rw[(ha.opAt hx _).2] at hv
  have ag:=agree x hx vs vs' hv
  obtain ⟨h1,h2,h3⟩:=h x hx rfl
  refine ⟨AV.ok_loc (fun i hi=>ag i (Fm hi)) h1,?_,fun g hg=>P7 (fun i hi=>ag i (Fo hg hi)) (h3 g hg)⟩
  rw[AV.v_loc fun i hi=>ag i (Fm hi),h2,hv _ (.inl rfl)]
 ·obtain ⟨e,he,rfl⟩:=List.mem_map.1 hk
  have hT:=pM hK (iB.2 (.inl he))
  show (match _ with | some e=>toCh P (oz θ s0.nxt vs') e | none=>_)=match _ with | some e=>toCh P (oz θ s0.nxt vs) e | none=>_
  rw[hT]
  simp only
  rw[lg lp (hf.chs e he),lg lp (hf.chs e he)]
 ·obtain ⟨x,hx,hxi,-⟩:=ha.at (fun x=>x) i (by rw[hlen];exact hi)
  subst hxi
  rw[(ha.opAt hx _).2] at hv
  rw[(ha.opAt hx _).1] at hk
  obtain ⟨e,he,rfl⟩:=List.mem_map.1 hk
  have hT:=pM hK (iB.2 (.inr ⟨x,hx,he⟩))
  show (match _ with | some e=>toCh P (oz θ s0.nxt vs') e | none=>_)=match _ with | some e=>toCh P (oz θ s0.nxt vs) e | none=>_
  rw[hT]
  simp only
  exact Mt fun i hi=>agree x hx vs vs' hv i (Fo (gb he).2 hi)
theorem Qc (hf:Fine P w0 J θ s0) {n:Nat} (ha:AllOk P w0 n s0 ops l) (hlen:l.length=ops.length) (hB:j4 s0.chs=true) (hK:fh (fb s0.nxt s0.chs l)=true) (hc: ∀x∈l,wm s0.nxt x=true)
  (hok:(l6 s0 ops l (fb s0.nxt s0.chs l)).ok n (knS s0) ops=true) (hkn: ∀t,knS s0 t=true→((envL θ s0).lookup t).isSome=true) (hlt: ∀x∈l,∀j∈x.b,j<x.i) :
  ∀i o,ops[i]? =some o→(l6 s0 ops l (fb s0.nxt s0.chs l)).goal (Mz P w0 J θ s0.nxt l (fb s0.nxt s0.chs l)) P J w0 (envL θ s0) i o:=by
 intro i o ho vs hfacts
 obtain ⟨x,hx,hxi,-⟩:=ha.at (fun x=>x) i (by rw[hlen];exact (List.getElem?_eq_some_iff.1 ho).1)
 subst hxi
 obtain ⟨l1,h1,h2,h3,h4⟩:=ha.get hx
 obtain rfl:x.o=o:=Option.some.inj (h1.ho.symm.trans ho)
 obtain ⟨e1,e2⟩:=ha.opAt hx (fb s0.nxt s0.chs l)
 have hG:=Skel.good_of_ok hkn hok ho
 rw[e2] at hfacts
 have hfact: ∀y∈l,y.i∈x.b→Q2 P w0 J (oz θ s0.nxt vs) s0.nxt y (vs y.i):=fun y hy hyb=>hfacts y.i hyb y hy rfl
 have hFine:=(words hB hK hf ha hc hlt x.b (fun y hy hyb k hk=>ha.closed hlt x hx y hy hyb k hk) hfact x hx fun k hk=>hk).1
 have hnx:x.s.nxt=s0.nxt+x.i:=by rw[h1.hs];rfl
 have hw:xE x.o vs=some x.run:=by
  have hgd:=h1.gd
  unfold GdOk at hgd
  unfold xE
  cases hgo:x.o.guard with
  | none=>rw[hgo] at hgd;simp only at hgd⊢;rw[hgd]
  | some gw =>
   obtain ⟨g,want⟩:=gw
   rw[hgo] at hgd
   simp only at hgd⊢
   obtain ⟨y,hy,hyg,hc'⟩:=hgd
   obtain ⟨t,k1,k2⟩:=hG.guard g want hgo
   have hgb:g∈x.b:=by
    have ht:t∈slotsOf ops.toArray x.o:=by
     unfold slotsOf Oper.looksAt
     refine List.mem_append_right _ ?_
     rw[hgo]
     simp only
     rw[k1];simp
    rcases hG.slots t ht with ⟨q1,-,-⟩ | ⟨j,q1,-,q3,-⟩
    ·rw[k2] at q1;cases q1
    ·rw[k2] at q1
     obtain rfl:g=j:=by simpa using q1
     rwa [e2] at q3
   subst hyg
   have hv:=(hfact y (h3 y hy) hgb).2.1
   rcases hc' with ⟨c,hc',hr⟩ | ⟨hc',hr⟩
   ·rw[hc'] at hv
    rw[←hv,hr];rfl
   ·rw[hc'] at hv
    rw[←hv,hr];rfl
 rw[hw]
 have hthe: ∀v,oz θ s0.nxt (upd vs x.i v)=upd (oz θ s0.nxt vs) (s0.nxt+x.i) v:=fun v=>My
 have hch: ∀vs':Nat→Value,∀e∈fb s0.nxt s0.chs l,(Mz P w0 J θ s0.nxt l (fb s0.nxt s0.chs l)).chunk (numOf e (fb s0.nxt s0.chs l)) vs'=toCh P (oz θ s0.nxt vs') e:=by
  intro vs' e he
  show (match _ with | some e=>toCh P (oz θ s0.nxt vs') e | none=>_)=_
  rw[pM hK he]
 cases hr:x.run with
 | false =>
  have hs:=h1.skip hr
  refine ⟨fun y hy hyi=>?_,by rw[e1];show (x.r.ns.map _)= [];rw[hs];rfl,by rw[e1];show (iA _ x).map _= [];unfold iA;rw[hs];rfl⟩
  obtain rfl:=ha.uniq y hy x hx hyi
  refine ⟨?_,?_,fun g hg=>?_⟩
  ·rw[hs];trivial
  ·rw[hs,eT];rfl
  ·rw[hs] at hg;cases hg
 | true =>
  obtain ⟨hGd,hk⟩:=h1.good hr
  have base:=hGd.op J _ hFine
  have hin: ∀e,e∈x.r.rs++x.r.ns→e∈fb s0.nxt s0.chs l∧e∈x.s.chs:=by
   intro e he
   have he2:e∈x.s.chs:=hGd.perm.mem_iff.2 (List.mem_append_left _ he)
   refine ⟨?_,he2⟩
   rw[h1.hs] at he2
   rcases iB.1 (tn he2).1 with h | ⟨y,hy,h⟩
   ·exact iB.2 (.inl h)
   ·exact iB.2 (.inr ⟨y,h3 y hy,h⟩)
  have hev: ∀u∈x.o.op.operands,(l6 s0 ops l (fb s0.nxt s0.chs l)).ev (envL θ s0) x.i vs u=evL (envL (oz θ s0.nxt vs) x.s) u:=by
   intro u hu
   cases u with
   | tmp t =>
    unfold okO at hk
    rw[Bool.and_eq_true,Bool.and_eq_true] at hk
    have hx1:=List.all_eq_true.1 hk.1.1 (.tmp t) (by simpa using hu)
    simp only[Bool.or_false] at hx1
    obtain ⟨av,hav⟩:=Option.isSome_iff_exists.1 hx1
    have hav:look x.s.env t=some av:=hav
    rw[ak (x:=.tmp t) hav]
    obtain ⟨v,hv,hm⟩:=pN hav
    have ht:t∈slotsOf ops.toArray x.o:=by
     unfold slotsOf Oper.looksAt
     exact List.mem_append_left _ (List.mem_filterMap.2 ⟨.tmp t,by simpa using hu,rfl⟩)
    have hsrc:Skel.srcOf t ((l6 s0 ops l (fb s0.nxt s0.chs l)).op x.i).src=some (Oe s0.nxt v):=by
     rw[e1];exact DI ht hv
    have hval:=RO (L1:=l1) (b:=x.b) (i:=x.i) hf h3 hfact (t:=t) (v:=v) (av:=av) (by rw[←h1.hs];exact hav) (by rw[←h1.hs];exact hv)
    rw[←hval]
    show (match Skel.srcOf t _ with | some (some j)=>vs j | _=>_)=_
    rw[hsrc]
    cases Oe s0.nxt v <;> rfl
   | _=>rfl
  have hpre:((((l6 s0 ops l (fb s0.nxt s0.chs l)).op x.i).reads++((l6 s0 ops l (fb s0.nxt s0.chs l)).op x.i).needs).map ((Mz P w0 J θ s0.nxt l (fb s0.nxt s0.chs l)).chunk · vs))=(x.r.rs++x.r.ns).map (toCh P (oz θ s0.nxt vs)):=by
   rw[e1]
   show ((x.r.rs.map _)++(x.r.ns.map _)).map _=_
   rw[←List.map_append,List.map_map]
   exact List.map_congr_left fun e he=>hch vs e (hin e he).1
  intro wd C hs
  have hs':=hs
  rw[hpre] at hs'
  have hb:=base wd C hs'
  have hsel:noSelect x.o=true:=hG.sel
  rw[←k9 hsel hev] at hb
  refine hb.imp fun v w' hv=>⟨fun y hy hyi=>?_,?_⟩
  ·obtain rfl:=ha.uniq y hy x hx hyi
   rw[hthe,eT]
   obtain ⟨q1,q2,q3⟩:=hv.1
   rw[hnx] at q1 q2 q3
   exact ⟨q1,q2,q3⟩
  ·have hst:=hv.2
   rw[hnx] at hst
   have hgv:((((l6 s0 ops l (fb s0.nxt s0.chs l)).op x.i).reads++((l6 s0 ops l (fb s0.nxt s0.chs l)).op x.i).gives).map ((Mz P w0 J θ s0.nxt l (fb s0.nxt s0.chs l)).chunk · (upd vs x.i v)))=x.r.rs.map (toCh P (oz θ s0.nxt vs))++x.r.gives.map fun g=>toCh P (upd (oz θ s0.nxt vs) (s0.nxt+x.i) v) (g.1,s0.nxt+x.i,g.2):=by
    rw[e1]
    show ((x.r.rs.map _)++((iA s0.nxt x).map _)).map _=_
    rw[List.map_append,List.map_map,List.map_map]
    congr 1
    ·refine List.map_congr_left fun e he=>?_
     show (Mz P w0 J θ s0.nxt l (fb s0.nxt s0.chs l)).chunk (numOf e _) (upd vs x.i v)=_
     obtain ⟨m1,m2⟩:=hin e (List.mem_append_left _ he)
     rw[hch _ e m1,hthe]
     have:=hFine.chs e m2
     rw[hnx] at this
     exact lg Same.upd this
    ·unfold iA
     rw[List.map_map]
     refine List.map_congr_left fun g hg=>?_
     show (Mz P w0 J θ s0.nxt l (fb s0.nxt s0.chs l)).chunk (numOf (g.1,s0.nxt+x.i,g.2) _) (upd vs x.i v)=_
     rw[hch _ _ (iB.2 (.inr ⟨x,hx,List.mem_map.2 ⟨g,hg,rfl⟩⟩)),hthe]
   exact Eq.mp (congrArg (fun cs=>St J w0 w' (cs++C)) hgv.symm) hst
theorem Jr {Y:Type} {id:Nat} {k:Sg→Option Y} {res:Y} {Q:Exit→Act→World→Prop} (hT:TTok P V.tt) (hF:FTok P V.ft) (hm:P.follows .mixedOrders=true) (h:Fj V ops k s0=some res) (hS0:Sim P I w0 F V.n J θ s0 a w)
  (K: ∀s' θ' a' w',k s'=some res→Sim P I w0 F V.n J θ' s' a' w'→Fr s0 θ s' θ'→Q .normal a' w'):(Code.region id ops.toArray true).wp P Q a w:=by
 unfold Fj at h
 obtain ⟨l,h,ha,hlen⟩:=Jm (w0:=w0) hT hF h rfl rfl trivial
 obtain ⟨hpl,h⟩:=ah h
 unfold Og at hpl
 simp only[Bool.and_eq_true,List.all_eq_true] at hpl
 obtain ⟨hB,hK,hc,hok,hokB⟩:=hpl
 have hf:=hS0.fine
 have hkn: ∀t,knS s0 t=true→((envL θ s0).lookup t).isSome=true:=by
  intro t ht
  obtain ⟨av,hav⟩:=Option.isSome_iff_exists.1 ht
  rw[show (envL θ s0).lookup t=_ from eL hav];rfl
 have hlt: ∀x∈l,∀j∈x.b,j<x.i:=by
  intro x hx j hj
  obtain ⟨l1,h1,-⟩:=ha.get hx
  have hG:=Skel.good_of_ok hkn hok h1.ho
  have:=hG.bef j (by rw[(ha.opAt hx _).2];exact hj)
  exact this.1
 refine Ms (C:=[F]) (l6 s0 ops l (fb s0.nxt s0.chs l)) (Mz P w0 J θ s0.nxt l (fb s0.nxt s0.chs l)) hkn (RP hf ha hlen hK hc) hm hS0.agr hS0.st ?_ hok hokB (Qc hf ha hlen hB hK hc hok hkn hlt) ?_
 ·refine (List.Perm.of_eq ?_)
  congr 1
  show _=(s0.chs.map _).map _
  rw[List.map_map]
  refine List.map_congr_left fun e he=>?_
  show _=match _ with | some e=>toCh P (oz θ s0.nxt fun _=>undef) e | none=>_
  rw[pM hK (iB.2 (.inl he))]
  exact (lg lp (hf.chs e he)).symm
 ·intro vs a' w' hfacts hA hst
  have hfact: ∀y∈l,Q2 P w0 J (oz θ s0.nxt vs) s0.nxt y (vs y.i):=fun y hy=>hfacts y.i (by rw[←hlen];exact ha.lt y hy) y hy rfl
  have hall:=words hB hK hf ha hc hlt (List.range l.length) (fun y hy _ k hk=>List.mem_range.2 (Nat.lt_trans (hlt y hy k hk) (ha.lt y hy))) (fun y hy _=>hfact y hy)
  have hall': ∀x∈l,_:=fun x hx=>hall x hx fun k hk=>List.mem_range.2 (Nat.lt_trans (hlt x hx k hk) (ha.lt x hx))
  have hFine:Fine P w0 J (oz θ s0.nxt vs) (Mu s0 l):=Fl hB hK hf ha hc l (fun y hy=>hy) (List.range l.length) l.length (fun j hj=>List.mem_range.1 hj) (fun y hy _=>hfact y hy) (fun y hy _=>(hall' y hy).2.1) (fun y hy _=>(hall' y hy).2.2) (Oj hf ha)
  refine K (Mu s0 l) (oz θ s0.nxt vs) a' w' h ⟨hS0.le,hA.sub fun t v hv=>?_,?_,hFine⟩ (Fr.rfl.trans ⟨Nat.le_add_right _ _,lp,fun e he hv=>?_,fun e he h' ver c hs=>?_⟩)
  ·
   cases hl:look (Mu s0 l).env t with
   | none =>
    exfalso
    have: ∀ {env:List (Nat×Nat×AV)} {θ:Th},look env t=none→(env.map fun e=>(e.1,e.2.2.v θ)).lookup t=none:=by
     intro env θ
     induction env with
     | nil=>intro _;rfl
     | cons e env ih =>
      intro hh
      unfold look at hh
      split at hh
      ·cases hh
      ·rename_i hu
       rw[List.map_cons,List.lookup_cons]
       have hne:(t==e.1)=false:=by
        simp only[beq_eq_false_iff_ne];intro e';subst e';exact hu (Nat.beq_refl _)
       rw[show (t==(e.1,AV.v θ e.2.2).1)=false from hne]
       exact ih hh
    rw[show (envL (oz θ s0.nxt vs) (Mu s0 l)).lookup t=none from this hl] at hv
    cases hv
   | some av =>
    have hv2:=eL (θ:=oz θ s0.nxt vs) hl
    obtain rfl:=Option.some.inj (hv2.symm.trans hv)
    obtain ⟨ver,hver,-⟩:=pN hl
    have hval:=RO (L1:=l) (b:=List.range l.length) (i:=l.length) hf (fun y hy=>hy) (fun y hy _=>hfact y hy) (t:=t) (v:=ver) (av:=av) hl hver
    have:=fin_ok (n0:=s0.nxt) (seen:=[]) (f:=fun s=>match s with | some j=>vs j | none=>((envL θ s0).lookup t).getD undef) (by simp) hver
    have key: ∀M:List (Nat×Option Nat),(M.map fun q=>(q.1,match q.2 with | some j=>vs j | none=>((envL θ s0).lookup q.1).getD undef)).lookup t=(M.map fun q=>(q.1,(fun s=>match s with | some j=>vs j | none=>((envL θ s0).lookup t).getD undef) q.2)).lookup t:=by
     intro M
     induction M with
     | nil=>rfl
     | cons q M ih =>
      rw[List.map_cons,List.map_cons,List.lookup_cons,List.lookup_cons]
      by_cases e:t=q.1
      ·subst e;simp
      ·rw[show (t==q.1)=false from by simpa using e];exact ih
    exact (key _).trans (this.trans (congrArg some hval))
  ·have e:((Mu s0 l).chs.map (numOf · (fb s0.nxt s0.chs l))).map ((Mz P w0 J θ s0.nxt l (fb s0.nxt s0.chs l)).chunk · vs)=(Mu s0 l).chs.map (toCh P (oz θ s0.nxt vs)):=by
    rw[List.map_map]
    refine List.map_congr_left fun e he=>?_
    show (match _ with | some e=>toCh P (oz θ s0.nxt vs) e | none=>_)=_
    rw[pM hK (tn he).1]
   rw[←e];exact hst
  ·obtain ⟨h5,h6⟩:=Ac he
   rcases qP h5 with h5 | ⟨y,hy,k1,k2,k3⟩
   ·exact h5
   ·omega
  ·obtain ⟨h5,h6⟩:=tn he
   have horig:Hu s0 l h' ver c:=by
    rcases iB.1 h5 with h5 | ⟨y,hy,h5⟩
    ·exact .inl ⟨e,h5,hs⟩
    ·exact (hall' y hy).2.1 e h5 h' ver c hs
   rcases horig with ⟨e0,he0,hk⟩ | ⟨y,hy,hk⟩
   ·exact .inr ⟨e0,he0,hk⟩
   ·have:=(gb hk).1
    exact .inl (by simp only at this;omega)
theorem MA {tr:Trs} {s:Sg} (hS:Sim P I w0 F V.n J θ s a w): ∃J' θ',J.le J'∧Sim P I w0 F V.n J' θ' (Mw tr ops s) a w∧Fr s θ (Mw tr ops s) θ':=by
 obtain ⟨θ1,S1,F1⟩:=rQ hS
 obtain ⟨S2,F2⟩:=pI (hs:=wo (lj s) ops) S1
 show∃J' θ',J.le J'∧Sim P I w0 F V.n J' θ' (Fk tr ops (rU (wo (lj s) ops) (lj s))) a w∧Fr s θ (Fk tr ops (rU (wo (lj s) ops) (lj s))) θ'
 unfold Fk
 split
 ·exact ⟨J,θ1,Hp.le.rfl,S2,F1.trans F2⟩
 ·obtain ⟨J',θ',h1,h2,h3⟩:=qN S2
  exact ⟨J',θ',h1,h2,(F1.trans F2).trans h3⟩
theorem MB {Y:Type} {id:Nat} {k:Sg→Option Y} {res:Y} {Q:Exit→Act→World→Prop} (hT:TTok P V.tt) (hF:FTok P V.ft) (hm:P.follows .mixedOrders=true) {s:Sg} (h:Qa V ops k s=some res) (hS:Sim P I w0 F V.n J θ s a w)
  (K: ∀s' J' θ' a' w',k s'=some res→Sim P I w0 F V.n J' θ' s' a' w'→J.le J'→Fr s θ s' θ'→Q .normal a' w'):(Code.region id ops.toArray true).wp P Q a w:=by
 obtain ⟨J1,θ1,hJ,S1,F1⟩:=MA (tr:=V.tr) (ops:=ops) hS
 exact Jr hT hF hm (show Fj V ops k (Mw V.tr ops s)=some res from h) S1 fun s' θ' a' w' hk hS' hFr=>K s' J1 θ' a' w' hk hS' hJ (F1.trans hFr)
end
end R
namespace R
open Go.RowKit
open D
inductive Ann
 | no
 | two (a b:Ann)
 | loop (sh:List It) (a:Ann)
 | join (sh:List It) (a b:Ann)
 | joinX (sh:List It) (a b:Ann)
 | at (sh:List It) (a:Ann)
 | atX (sh:List It) (a:Ann)
def Ann.l:Ann→Ann
 | .two a _=>a
 | _=>.no
def Ann.r:Ann→Ann
 | .two _ b=>b
 | _=>.no
def B7:Code→List Nat
 | .region _ ops _=>ops.toList.filterMap (·.dst)
 | .seq a b=>B7 a++B7 b
 | .cond _ a b=>B7 a++B7 b
 | .block _ a=>B7 a
 | .loop a=>B7 a
 | .scope a=>B7 a
 | _=>[]
def Js:List It→List Nat
 | [] =>[]
 | .slot t _::is=>t::Js is
 | _::is=>Js is
def xM (c:Code) (is:List It):List Nat:=B7 c++Js is
def RQ {Y:Type} (i:Nat) (kb:Sg→Option Y) (kx:Nat→Sg→Option Y):Nat→Sg→Option Y:=fun j s=>if Nat.beq j i then kb s else kx j s
def RR (V:Env) {R Y:Type} (c:Code) (n:Ann) (kr:R→Option Y) (kx:Nat→Sg→Option Y) (kn:Sg→Option Y) (s:Sg) (run:(Z:Type)→Ann→(R→Option Z)→(Nat→Sg→Option Z)→(Sg→Option Z)→Sg→Option Z):Option Y:=match n with
 | .at sh n=>(we (xM c sh) sh s).bind fun q=>Option.bind (run (Oa (oy q.its)) n (fun _=>none) (fun _ _=>none) (fun s'=>(q.of s').bind fun d=>some (ofN _ d)) s) fun d=>kn (q.at (toN _ d))
 | .atX sh n=>(we (xM c sh) sh s).bind fun q=>K7 (run (Y ⊕ Oa (oy q.its)) n (fun r=>(kr r).bind fun t=>some (.inl t)) (fun i s'=>(kx i s').bind fun t=>some (.inl t)) (fun s'=>(q.of s').bind fun d=>some (.inr (ofN _ d))) s) fun d=>kn (q.at (toN _ d))
 | n=>run Y n kr kx kn s
noncomputable def iC (V:Env) {R:Type} (rt:Sg→Option R):(c:Code)→ {Y:Type} →Ann→(R→Option Y)→(Nat→Sg→Option Y)→(Sg→Option Y)→Sg→Option Y
 | .skip,_,_,kr,kx,kn,s=>kn s
 | .ret,_,_,kr,kx,kn,s=>(rt s).bind kr
 | .region id ops dr,_,n,kr,kx,kn,s=>RR V (.region id ops dr) n kr kx kn s fun Z n kr kx kn s=>match dr with
  | false=>BU V ops.toList (fun s=>kn (lj s)) ops.toList s
  | true=>Qa V ops.toList (fun s=>kn (lj s)) s
 | .seq a b,Y,n,kr,kx,kn,s=>match n with
  | .join sh n1 n2=>(we (xM a sh) sh s).bind fun q=>Option.bind (iC V rt a n1 (Y:=Oa (oy q.its)) (fun _=>none) (fun _ _=>none) (fun s'=>(q.of s').bind fun d=>some (ofN _ d)) s) fun d=>iC V rt b n2 kr kx kn (q.at (toN _ d))
  | .joinX sh n1 n2=>(we (xM a sh) sh s).bind fun q=>K7 (iC V rt a n1 (Y:=Y ⊕ Oa (oy q.its)) (fun r=>(kr r).bind fun t=>some (.inl t)) (fun i s'=>(kx i s').bind fun t=>some (.inl t)) (fun s'=>(q.of s').bind fun d=>some (.inr (ofN _ d))) s) fun d=>iC V rt b n2 kr kx kn (q.at (toN _ d))
  | n=>iC V rt a n.l kr kx (fun s'=>iC V rt b n.r kr kx kn s') s
 | .cond c a b,_,n,kr,kx,kn,s=>RR V (.cond c a b) n kr kx kn s fun Z n kr kx kn s=>(opd s c).bind fun v=>onB v (iC V rt a n.l kr kx kn s) (iC V rt b n.r kr kx kn s)
 | .block i (.loop c),_,n,kr,kx,kn,s=>RR V (.block i (.loop c)) n kr kx kn s fun Z n kr kx kn s=>match n with
  | .loop sh n=>(we (xM c sh) sh s).bind fun q=>(q.of s).bind fun d0 =>
    ay (ai (fun d=>iC V rt c n (Y:=Out R (Oa (oy q.its))) (fun r=>some (.ret r)) (RQ i (fun s'=>(q.of s').bind fun d=>some (.brk (ofN _ d))) fun _ _=>none) (fun s'=>(q.of s').bind fun d=>some (.nxt (ofN _ d))) (q.at (toN _ d))) aD (ofN _ d0)) kr (fun d=>kn (q.at (toN _ d)))
  | _=>none
 | .block i c,_,n,kr,kx,kn,s=>RR V (.block i c) n kr kx kn s fun Z n kr kx kn s=>iC V rt c n kr (RQ i kn kx) kn s
 | .exit i,_,_,kr,kx,kn,s=>kx i s
 | _,_,_,_,_,_,_=>none
section
variable {V:Env} {P:Program} {I:Hp} {w0:World} {F:Ch} {R:Type} {rt:Sg→Option R}
def IOk (V:Env) (P:Program) (I:Hp) (w0:World) (F:Ch) {R:Type} (rt:Sg→Option R) (c:Code):Prop:= ∀ {Y:Type} (n:Ann) {kr:R→Option Y} {kx:Nat→Sg→Option Y} {kn:Sg→Option Y} {s:Sg} {y:Y} {Q:Exit→Act→World→Prop} {J:Hp} {θ:Th} {a:Act} {w:World},
  iC V rt c n kr kx kn s=some y→Sim P I w0 F V.n J θ s a w→
  (∀J' θ' s' a' w',kn s'=some y→Sim P I w0 F V.n J' θ' s' a' w'→J.le J'→Fr s θ s' θ'→Q .normal a' w')→
  (∀i J' θ' s' a' w',kx i s'=some y→Sim P I w0 F V.n J' θ' s' a' w'→J.le J'→Fr s θ s' θ'→Q (.exit i) a' w')→
  (∀r J' θ' s' a' w',rt s'=some r→kr r=some y→Sim P I w0 F V.n J' θ' s' a' w'→J.le J'→Fr s θ s' θ'→Q .ret a' w')→c.wp P Q a w
def ROk (V:Env) (P:Program) (I:Hp) (w0:World) (F:Ch) {R:Type} (rt:Sg→Option R) (c:Code) (run:(Z:Type)→Ann→(R→Option Z)→(Nat→Sg→Option Z)→(Sg→Option Z)→Sg→Option Z):Prop:= ∀ {Y:Type} (n:Ann) {kr:R→Option Y} {kx:Nat→Sg→Option Y} {kn:Sg→Option Y} {s:Sg} {y:Y} {Q:Exit→Act→World→Prop} {J:Hp} {θ:Th} {a:Act} {w:World},
  run Y n kr kx kn s=some y→Sim P I w0 F V.n J θ s a w→
  (∀J' θ' s' a' w',kn s'=some y→Sim P I w0 F V.n J' θ' s' a' w'→J.le J'→Fr s θ s' θ'→Q .normal a' w')→
  (∀i J' θ' s' a' w',kx i s'=some y→Sim P I w0 F V.n J' θ' s' a' w'→J.le J'→Fr s θ s' θ'→Q (.exit i) a' w')→
  (∀r J' θ' s' a' w',rt s'=some r→kr r=some y→Sim P I w0 F V.n J' θ' s' a' w'→J.le J'→Fr s θ s' θ'→Q .ret a' w')→c.wp P Q a w
theorem Ad {c:Code} {run:(Z:Type)→Ann→(R→Option Z)→(Nat→Sg→Option Z)→(Sg→Option Z)→Sg→Option Z} (hr:ROk V P I w0 F rt c run) {Y:Type} (n:Ann) {kr:R→Option Y} {kx:Nat→Sg→Option Y} {kn:Sg→Option Y} {s:Sg} {y:Y} {Q:Exit→Act→World→Prop} {J:Hp} {θ:Th} {a:Act} {w:World}
  (h:RR V c n kr kx kn s run=some y) (hS:Sim P I w0 F V.n J θ s a w)
  (HN: ∀J' θ' s' a' w',kn s'=some y→Sim P I w0 F V.n J' θ' s' a' w'→J.le J'→Fr s θ s' θ'→Q .normal a' w')
  (HX: ∀i J' θ' s' a' w',kx i s'=some y→Sim P I w0 F V.n J' θ' s' a' w'→J.le J'→Fr s θ s' θ'→Q (.exit i) a' w')
  (HR: ∀r J' θ' s' a' w',rt s'=some r→kr r=some y→Sim P I w0 F V.n J' θ' s' a' w'→J.le J'→Fr s θ s' θ'→Q .ret a' w'):c.wp P Q a w:=by
 have plain: ∀n,run Y n kr kx kn s=some y→c.wp P Q a w:=fun n h=>hr n h hS HN HX HR
 cases n with
 | «at» sh n =>
  obtain ⟨q,hq,h⟩:=bind_some (show (we (xM c sh) sh s).bind _=some y from h)
  obtain ⟨d,h1,h2⟩:=bind_some h
  have hC:=rW hq hS.fine
  refine hr n h1 hS (fun J' θ' s' a' w' hk hS' hJ hFr=>?_) (fun i J' θ' s' a' w' hk hS' hJ hFr=>by cases hk) (fun r J' θ' s' a' w' q1 q2 hS' hJ hFr=>by cases q2)
  obtain ⟨d',hd,hk⟩:=bind_some hk
  obtain rfl:=Option.some.inj hk
  obtain ⟨θ2,S2,F2⟩:=wh hC hS' hFr hJ hd
  rw[mA] at h2
  exact HN J' θ2 _ a' w' h2 S2 hJ F2
 | atX sh n =>
  obtain ⟨q,hq,h⟩:=bind_some (show (we (xM c sh) sh s).bind _=some y from h)
  obtain ⟨o,h1,h2⟩:=yo h
  have hC:=rW hq hS.fine
  refine hr n h1 hS (fun J' θ' s' a' w' hk hS' hJ hFr=>?_) (fun i J' θ' s' a' w' hk hS' hJ hFr=>?_) (fun r J' θ' s' a' w' q1 q2 hS' hJ hFr=>?_)
  ·obtain ⟨d',hd,hk⟩:=bind_some hk
   obtain rfl:=Option.some.inj hk
   obtain ⟨θ2,S2,F2⟩:=wh hC hS' hFr hJ hd
   rcases h2 with ⟨d,e,h2⟩ | h2
   ·obtain rfl:=Sum.inr.inj e
    rw[mA] at h2
    exact HN J' θ2 _ a' w' h2 S2 hJ F2
   ·cases h2
  ·obtain ⟨t,ht,hk⟩:=bind_some hk
   obtain rfl:=Option.some.inj hk
   rcases h2 with ⟨d,e,h2⟩ | h2
   ·cases e
   ·obtain rfl:=Sum.inl.inj h2
    exact HX i J' θ' s' a' w' ht hS' hJ hFr
  ·obtain ⟨t,ht,hk⟩:=bind_some q2
   obtain rfl:=Option.some.inj hk
   rcases h2 with ⟨d,e,h2⟩ | h2
   ·cases e
   ·obtain rfl:=Sum.inl.inj h2
    exact HR r J' θ' s' a' w' q1 ht hS' hJ hFr
 | no=>exact plain _ h
 | two _ _=>exact plain _ h
 | loop _ _=>exact plain _ h
 | join _ _ _=>exact plain _ h
 | joinX _ _ _=>exact plain _ h
theorem wq (hT:TTok P V.tt) (hF:FTok P V.ft) (hm:P.follows .mixedOrders=true): ∀c:Code,IOk V P I w0 F rt c∧ ∀c',c= .loop c'→IOk V P I w0 F rt c':=by
 intro c
 induction c with
 | skip =>
  refine ⟨?_,fun c' e=>(by cases e)⟩
  intro Y n kr kx kn s y Q J θ a w h hS HN HX HR
  exact wp_skip (HN J θ s a w h hS Hp.le.rfl Fr.rfl)
 | ret =>
  refine ⟨?_,fun c' e=>(by cases e)⟩
  intro Y n kr kx kn s y Q J θ a w h hS HN HX HR
  obtain ⟨r,h1,h2⟩:=bind_some (show (rt s).bind kr=some y from h)
  exact wp_ret (HR r J θ s a w h1 h2 hS Hp.le.rfl Fr.rfl)
 | exit i =>
  refine ⟨?_,fun c' e=>(by cases e)⟩
  intro Y n kr kx kn s y Q J θ a w h hS HN HX HR
  exact wp_exit (HX i J θ s a w h hS Hp.le.rfl Fr.rfl)
 | region id ops dr =>
  refine ⟨?_,fun c' e=>(by cases e)⟩
  intro Y n kr kx kn s y Q J θ a w h hS HN HX HR
  refine Ad (fun {Y} n {kr kx kn s y Q J θ a w} h hS HN HX HR=>?_) n h hS HN HX HR
  cases dr with
  | true =>
   have h:Qa V ops.toList (fun s=>kn (lj s)) s=some y:=h
   have:=MB (id:=id) hT hF hm h hS fun s' J' θ' a' w' hk hS' hJ hFr=>by
    obtain ⟨θ2,S2,F2⟩:=rQ hS'
    exact HN J' θ2 (lj s') a' w' hk S2 hJ (hFr.trans F2)
   rwa [Array.toArray_toList] at this
  | false =>
   have h:BU V ops.toList (fun s=>kn (lj s)) ops.toList s=some y:=h
   exact wp_region_lit (l:=ops.toList) (BW hT hF h hS fun s' J' θ' a' w' hk hS' hJ hFr=>by
    obtain ⟨θ2,S2,F2⟩:=rQ hS'
    exact HN J' θ2 (lj s') a' w' hk S2 hJ (hFr.trans F2))
 | cond c x y ihx ihy =>
  refine ⟨?_,fun c' e=>(by cases e)⟩
  intro Y n kr kx kn s r Q J θ a w h hS HN HX HR
  refine Ad (fun {Y} n {kr kx kn s r Q J θ a w} h hS HN HX HR=>?_) n h hS HN HX HR
  obtain ⟨v,hv',h⟩:=bind_some (show (opd s c).bind _=some r from h)
  obtain ⟨b,hb,h⟩:=NP h
  have hk:HB (envL θ s) c=true:=by
   cases c with
   | tmp t =>
    have:=eL (θ:=θ) (show look s.env t=some v from hv')
    show ((envL θ s).lookup t).isSome=true
    rw[show (envL θ s).lookup t=_ from this];rfl
   | _=>rfl
  have hev:evL (envL θ s) c= .bool b:=(ak hv').trans (hb θ)
  cases b with
  | true=>exact K0 hS.agr hk hev rfl (ihx.1 n.l h hS HN HX HR)
  | false=>exact HJ hS.agr hk hev rfl (ihy.1 n.r h hS HN HX HR)
 | seq x z ihx ihz =>
  refine ⟨?_,fun c' e=>(by cases e)⟩
  intro Y n kr kx kn s y Q J θ a w h hS HN HX HR
  have plain:iC V rt x n.l kr kx (fun s'=>iC V rt z n.r kr kx kn s') s=some y→(Code.seq x z).wp P Q a w:=fun h =>
   wp_seq (ihx.1 n.l h hS (fun J' θ' s' a' w' hk hS' hJ hFr=>ihz.1 n.r hk hS' (fun J2 θ2 s2 a2 w2 k2 S2 L2 F2=>HN J2 θ2 s2 a2 w2 k2 S2 (hJ.trans L2) (hFr.trans F2)) (fun i J2 θ2 s2 a2 w2 k2 S2 L2 F2=>HX i J2 θ2 s2 a2 w2 k2 S2 (hJ.trans L2) (hFr.trans F2)) (fun r J2 θ2 s2 a2 w2 q1 q2 S2 L2 F2=>HR r J2 θ2 s2 a2 w2 q1 q2 S2 (hJ.trans L2) (hFr.trans F2)))
    (fun i J' θ' s' a' w' hk hS' hJ hFr=>O1 (HX i J' θ' s' a' w' hk hS' hJ hFr)) (fun r J' θ' s' a' w' q1 q2 hS' hJ hFr=>O2 (HR r J' θ' s' a' w' q1 q2 hS' hJ hFr)))
  cases n with
  | join sh n1 n2 =>
   obtain ⟨q,hq,h⟩:=bind_some (show (we (xM x sh) sh s).bind _=some y from h)
   obtain ⟨d,h1,h2⟩:=bind_some h
   have hC:=rW hq hS.fine
   refine wp_seq (ihx.1 n1 h1 hS (fun J' θ' s' a' w' hk hS' hJ hFr=>?_) (fun i J' θ' s' a' w' hk hS' hJ hFr=>by cases hk) (fun r J' θ' s' a' w' q1 q2 hS' hJ hFr=>by cases q2))
   obtain ⟨d',hd,hk⟩:=bind_some hk
   obtain rfl:=Option.some.inj hk
   obtain ⟨θ2,S2,F2⟩:=wh hC hS' hFr hJ hd
   rw[mA] at h2
   exact ihz.1 n2 h2 S2 (fun J3 θ3 s3 a3 w3 k3 S3 L3 F3=>HN J3 θ3 s3 a3 w3 k3 S3 (hJ.trans L3) (F2.trans F3)) (fun i J3 θ3 s3 a3 w3 k3 S3 L3 F3=>HX i J3 θ3 s3 a3 w3 k3 S3 (hJ.trans L3) (F2.trans F3)) (fun r J3 θ3 s3 a3 w3 q1 q2 S3 L3 F3=>HR r J3 θ3 s3 a3 w3 q1 q2 S3 (hJ.trans L3) (F2.trans F3))
  | joinX sh n1 n2 =>
   obtain ⟨q,hq,h⟩:=bind_some (show (we (xM x sh) sh s).bind _=some y from h)
   obtain ⟨o,h1,h2⟩:=yo h
   have hC:=rW hq hS.fine
   refine wp_seq (ihx.1 n1 h1 hS (fun J' θ' s' a' w' hk hS' hJ hFr=>?_) (fun i J' θ' s' a' w' hk hS' hJ hFr=>?_) (fun r J' θ' s' a' w' q1 q2 hS' hJ hFr=>?_))
   ·obtain ⟨d',hd,hk⟩:=bind_some hk
    obtain rfl:=Option.some.inj hk
    obtain ⟨θ2,S2,F2⟩:=wh hC hS' hFr hJ hd
    rcases h2 with ⟨d,e,h2⟩ | h2
    ·obtain rfl:=Sum.inr.inj e
     rw[mA] at h2
     exact ihz.1 n2 h2 S2 (fun J3 θ3 s3 a3 w3 k3 S3 L3 F3=>HN J3 θ3 s3 a3 w3 k3 S3 (hJ.trans L3) (F2.trans F3)) (fun i J3 θ3 s3 a3 w3 k3 S3 L3 F3=>HX i J3 θ3 s3 a3 w3 k3 S3 (hJ.trans L3) (F2.trans F3)) (fun r J3 θ3 s3 a3 w3 q1 q2 S3 L3 F3=>HR r J3 θ3 s3 a3 w3 q1 q2 S3 (hJ.trans L3) (F2.trans F3))
    ·cases h2
   ·obtain ⟨t,ht,hk⟩:=bind_some hk
    obtain rfl:=Option.some.inj hk
    rcases h2 with ⟨d,e,h2⟩ | h2
    ·cases e
    ·obtain rfl:=Sum.inl.inj h2
     exact O1 (HX i J' θ' s' a' w' ht hS' hJ hFr)
   ·obtain ⟨t,ht,hk⟩:=bind_some q2
    obtain rfl:=Option.some.inj hk
    rcases h2 with ⟨d,e,h2⟩ | h2
    ·cases e
    ·obtain rfl:=Sum.inl.inj h2
     exact O2 (HR r J' θ' s' a' w' q1 ht hS' hJ hFr)
  | no=>exact plain h
  | two _ _=>exact plain h
  | loop _ _=>exact plain h
  | «at» _ _=>exact plain h
  | atX _ _=>exact plain h
 | block i x ih =>
  refine ⟨?_,fun c' e=>(by cases e)⟩
  intro Y n kr kx kn s y Q J θ a w h hS HN HX HR
  have plain:ROk V P I w0 F rt (.block i x) (fun Z n kr kx kn s=>iC V rt x n kr (RQ i kn kx) kn s):=fun {Y} n {kr kx kn s y Q J θ a w} h hS HN HX HR =>
   wp_block (ih.1 n h hS (fun J' θ' s' a' w' hk hS' hJ hFr=>UE (HN J' θ' s' a' w' hk hS' hJ hFr))
    (fun j J' θ' s' a' w' hk hS' hJ hFr=>by
     unfold RQ at hk
     split at hk
     ·rename_i hj
      have:j=i:=Nat.eq_of_beq_eq_true hj
      subst this
      exact Rc (HN J' θ' s' a' w' hk hS' hJ hFr)
     ·rename_i hj
      exact Re (fun e=>hj (by rw[e];exact Nat.beq_refl i)) (HX j J' θ' s' a' w' hk hS' hJ hFr))
    (fun r J' θ' s' a' w' q1 q2 hS' hJ hFr=>Ua (HR r J' θ' s' a' w' q1 q2 hS' hJ hFr)))
  cases x with
  | loop x =>
   clear plain
   refine Ad (fun {Y} n {kr kx kn s y Q J θ a w} h hS HN HX HR=>?_) n h hS HN HX HR
   cases n with
   | loop sh n =>
    obtain ⟨q,hq,h⟩:=bind_some (show (we (xM x sh) sh s).bind _=some y from h)
    obtain ⟨d0,hd0,h⟩:=bind_some h
    obtain ⟨o,ho,hc⟩:=F0 h
    have hC:=rW hq hS.fine
    have hx:IOk V P I w0 F rt x:=ih.2 x rfl
    refine wp_block (K4 (fun d a w=> ∃J' θ',J.le J'∧Sim P I w0 F V.n J' θ' (q.at (toN _ d)) a w∧Fr s θ (q.at (toN _ d)) θ') ho ?_ ?_)
    ·obtain ⟨θ1,S1,F1⟩:=wh hC hS Fr.rfl Hp.le.rfl hd0
     exact ⟨J,θ1,Hp.le.rfl,by rw[mA];exact S1,by rw[mA];exact F1⟩
    ·rintro d o' hf hlast a w ⟨J1,θ1,L1,S1,F1⟩
     refine hx n hf S1 (fun J' θ' s' a' w' hk hS' hJ hFr=>?_) (fun j J' θ' s' a' w' hk hS' hJ hFr=>?_) (fun r J' θ' s' a' w' q1 q2 hS' hJ hFr=>?_)
     ·obtain ⟨d',hd,hk⟩:=bind_some hk
      obtain rfl:=Option.some.inj hk
      obtain ⟨θ2,S2,F2⟩:=wh hC hS' (F1.trans hFr) (L1.trans hJ) hd
      exact nrm ⟨_,rfl,J',θ2,L1.trans hJ,by rw[mA];exact S2,by rw[mA];exact F2⟩
     ·unfold RQ at hk
      split at hk
      ·rename_i hj
       have:j=i:=Nat.eq_of_beq_eq_true hj
       subst this
       obtain ⟨d',hd,hk⟩:=bind_some hk
       obtain rfl:=Option.some.inj hk
       have ho2:=hlast (by simp)
       obtain ⟨θ2,S2,F2⟩:=wh hC hS' (F1.trans hFr) (L1.trans hJ) hd
       rcases hc with ⟨d2,e,hc⟩ | ⟨r,e,hc⟩
       ·obtain rfl:=Out.brk.inj (ho2.trans e)
        rw[mA] at hc
        exact O1 (Rc (HN J' θ2 _ a' w' hc S2 (L1.trans hJ) F2))
       ·cases ho2.trans e
      ·cases hk
     ·obtain rfl:=Option.some.inj q2
      have ho2:=hlast (by simp)
      rcases hc with ⟨d2,e,hc⟩ | ⟨r',e,hc⟩
      ·cases ho2.trans e
      ·obtain rfl:=Out.ret.inj (ho2.trans e)
       exact O2 (Ua (HR r J' θ' s' a' w' q1 hc hS' (L1.trans hJ) (F1.trans hFr)))
   | _=>cases h
  | _=>exact Ad plain n h hS HN HX HR
 | loop x ih =>
  refine ⟨?_,fun c' e=>?_⟩
  ·intro Y n kr kx kn s y Q J θ a w h hS HN HX HR
   cases h
  ·cases e
   exact ih.1
 | _ =>
  refine ⟨?_,fun c' e=>(by cases e)⟩
  intro Y n kr kx kn s y Q J θ a w h hS HN HX HR
  cases h
end
end R
namespace R
open Go.RowKit
open D
def Jt (i:Nat):(p:PM)→p.den→AV
 | .rd t,d=>KR i t d
 | .ow t,d=>Ij (iy i [] t d)
 | .fn a b,d=>.one (.fn ⟨i,[]⟩ a b d)
 | .cap T t,d=>.one (.fz ⟨i,[]⟩ T t d 0)
 | .capf T a b,d=>.one (.fzf ⟨i,[]⟩ T a b d)
 | .ptr _ _,_=>.one (.ptr ⟨i,[]⟩ 0)
 | .eat t,d=>Ij (iy i [] t d)
 | .fk g,_=>.one (.val (.func (.func g) #[] #[]))
def Fp (i:Nat):(p:PM)→p.den→List (Hdr×Chk)
 | .ow t,d=>jg i [] t d
 | .ptr T t,d=>[(⟨i,[]⟩,.box T t d)]
 | .eat t,d=>jg i [] t d
 | _,_=>[]
def Fq:(i:Nat)→(ps:List PM)→denP ps→List (Nat×Nat×AV)
 | _,[],_=>[]
 | i,p::ps,d=>(i,i,Jt i p d.1)::Fq (i+1) ps d.2
def B8:(i:Nat)→(ps:List PM)→denP ps→List Ent
 | _,[],_=>[]
 | i,p::ps,d=>(Fp i p d.1).map (fun g=>(g.1,i,g.2))++B8 (i+1) ps d.2
def wt (ps:List PM) (d:denP ps):Sg:=⟨Fq 0 ps d,B8 0 ps d,ps.length⟩
def Up (P:Program) (w0:World) (J:Hp) (θ:Th) (n i:Nat):(p:PM)→Value→p.den→Prop
 | .ow t,v,d=>(iy i [] t d).2.map (·.v θ)=ga t.isProd v∧ ∀x∈(iy i [] t d).2,x.ok P w0 J θ n
 | .ptr _ _,v,_=>hv θ ⟨i,[]⟩=v∧i<n
 | _,_,_=>True
def StF (P:Program) (w0:World) (J:Hp) (θ:Th) (n:Nat):(i:Nat)→(ps:List PM)→List Value→denP ps→Prop
 | i,p::ps,v::vs,d=>Up P w0 J θ n i p v d.1∧StF P w0 J θ n (i+1) ps vs d.2
 | _,_,_,_=>True
section
variable {P:Program} {w0 w:World} {J:Hp} {θ:Th} {n:Nat} {C:List Ch}
theorem ug {id:Nat} {pre:List Nat} {t:Ty} {d:t.den} : ∀g∈jg id pre t d,Ht g.2:=fg t d 0
theorem Ju {p:PM} {i:Nat} {v:Value} {d:p.den} {ps:List PM} {vs:List Value} {e:denP ps} (hi:i<n) (hθ:θ i=v) (h:Te P w0 J p v d) (hS:St J w0 w (owCh (p::ps) (v::vs) (d,e)++C)) :
  (∀chs,(Jt i p d).ok P w0 J θ n chs)∧(Jt i p d).v θ=v∧St J w0 w ((Fp i p d).map (fun g=>toCh P θ (g.1,i,g.2))++(owCh ps vs e++C))∧(∀g∈Fp i p d,Ht g.2∧g.1.id=i)∧Up P w0 J θ n i p v d:=by
 cases p with
 | rd t =>
  obtain ⟨cs,h1,h2⟩:=h
  have hav:=fun chs=>oL (P:=P) (w0:=w0) (J:=J) (chs:=chs) hi hθ t d cs h2 h1
  exact ⟨fun chs=>(hav chs).1,(hav []).2,hS,fun g hg=>(by cases hg),trivial⟩
 | fn a b =>
  have hh:hv θ ⟨i,[]⟩=v:=hθ
  exact ⟨fun chs=>⟨hi,by rw[hh];exact h⟩,hh,hS,fun g hg=>(by cases hg),trivial⟩
 | cap T t =>
  obtain ⟨b,rfl,cells,h1,h2⟩:=h
  have hh:hv θ ⟨i,[]⟩= .pointer (some ⟨b,0,none⟩):=hθ
  refine ⟨fun chs=>⟨hi,cells,by rw[hh];exact h1,h2⟩,?_,hS,fun g hg=>(by cases hg),trivial⟩
  show Value.pointer (some ⟨bk (hv θ ⟨i,[]⟩),0,none⟩)=_
  rw[hh];rfl
 | capf T x y =>
  obtain ⟨b,rfl,u,h1,h2⟩:=h
  have hh:hv θ ⟨i,[]⟩= .pointer (some ⟨b,0,none⟩):=hθ
  refine ⟨fun chs=>⟨hi,u,by rw[hh];exact h1,h2⟩,?_,hS,fun g hg=>(by cases hg),trivial⟩
  show Value.pointer (some ⟨bk (hv θ ⟨i,[]⟩),0,none⟩)=_
  rw[hh];rfl
 | ptr T t =>
  obtain ⟨b,rfl⟩:=h
  have hh:hv θ ⟨i,[]⟩= .pointer (some ⟨b,0,none⟩):=hθ
  refine ⟨fun chs=>hi,?_,?_,fun g hg=>by obtain rfl:=List.mem_singleton.1 hg;exact ⟨trivial,rfl⟩,hh,hi⟩
  ·show Value.pointer (some ⟨bk (hv θ ⟨i,[]⟩),0,none⟩)=_
   rw[hh];rfl
  ·show St J w0 w (Ch.box (bk (hv θ ⟨i,[]⟩)) T t.rep d::_)
   rw[hh];exact hS
 | ow t =>
  have hS:St J w0 w (Ch.own t.rep (ga t.isProd v) d::(owCh ps vs e++C)):=hS
  obtain ⟨k1,k2,k3,k4,k5⟩:=rM (P:=P) (m:=i) (pre:=[]) (id:=i) (n:=n) hi (show hv θ ⟨i,[]⟩=v from hθ) h hS
  have q:=fun chs=>zH (P:=P) (w0:=w0) (J:=J) (θ:=θ) (n:=n) (chs:=chs) (iy i [] t d) (fun e=>oM e) k1
  exact ⟨fun chs=>(q chs).1,(q []).2.trans k3,k5,fun g hg=>⟨ug g hg,k4 g hg⟩,k2,k1⟩
 | eat t =>
  have hS:St J w0 w (Ch.own t.rep (ga t.isProd v) d::(owCh ps vs e++C)):=hS
  obtain ⟨k1,k2,k3,k4,k5⟩:=rM (P:=P) (m:=i) (pre:=[]) (id:=i) (n:=n) hi (show hv θ ⟨i,[]⟩=v from hθ) h hS
  have q:=fun chs=>zH (P:=P) (w0:=w0) (J:=J) (θ:=θ) (n:=n) (chs:=chs) (iy i [] t d) (fun e=>oM e) k1
  exact ⟨fun chs=>(q chs).1,(q []).2.trans k3,k5,fun g hg=>⟨ug g hg,k4 g hg⟩,trivial⟩
 | fk g =>
  obtain rfl:=h
  exact ⟨fun chs=>rfl,rfl,hS,fun g hg=>(by cases hg),trivial⟩
theorem Fs: ∀ {ps:List PM} {i:Nat} {vs:List Value} {d:denP ps} {C:List Ch},PArgs P w0 J ps vs d→(∀j v,vs[j]? =some v→θ (i+j)=v)→i+ps.length≤n→St J w0 w (owCh ps vs d++C)→
  (∀e∈Fq i ps d,(∀chs,e.2.2.ok P w0 J θ n chs)∧i≤e.1∧e.2.1=e.1∧e.1<i+ps.length∧vs[e.1 - i]? =some (e.2.2.v θ))∧((Fq i ps d).Pairwise fun a b=>a.2.1≠b.2.1)∧St J w0 w ((B8 i ps d).map (toCh P θ)++C)∧(∀e∈B8 i ps d,∀chs,okE P w0 J θ n chs e)∧StF P w0 J θ n i ps vs d
 | [],i,vs,d,C,h,_,_,hS=>by
  have h:vs= []:=h
  subst h
  exact ⟨fun e he=>(by cases he),List.Pairwise.nil,hS,fun e he=>(by cases he),trivial⟩
 | p::ps,i,vs,d,C,h,hθ,hn,hS=>by
  obtain ⟨v,r,rfl,h1,h3⟩:=h
  rw[List.length_cons] at hn
  obtain ⟨a1,a2,a3,a4,a5⟩:=Ju (n:=n) (i:=i) (θ:=θ) (e:=d.2) (show i<n by omega) (hθ 0 v rfl) h1 hS
  obtain ⟨k1,k2,k3,k4,k5⟩:=Fs (i:=i+1) h3 (fun j u hj=>by
   have:=hθ (j+1) u hj
   rwa [show i+(j+1)=i+1+j from by omega] at this) (by omega) (a3.perm (List.perm_append_comm_assoc _ _ _))
  refine ⟨fun e he=>?_,List.pairwise_cons.2 ⟨fun e he hh=>?_,k2⟩,?_,fun e he chs=>?_,a5,k5⟩
  ·rcases List.mem_cons.1 he with rfl | he
   ·exact ⟨a1,Nat.le_refl _,rfl,by rw[List.length_cons];show i<_;omega,by show (v::r)[i - i]? =_;rw[Nat.sub_self,a2];rfl⟩
   ·obtain ⟨q1,q2,q3,q4,q5⟩:=k1 e he
    refine ⟨q1,by omega,q3,by rw[List.length_cons];omega,?_⟩
    rw[show e.1 - i=(e.1 - (i+1))+1 from by omega];exact q5
  ·have:=k1 e he
   have hh:i=e.2.1:=hh
   omega
  ·show St J w0 w (((Fp i p d.1).map _++B8 (i+1) ps d.2).map (toCh P θ)++C)
   rw[List.map_append,List.map_map]
   refine k3.perm ?_
   rw[List.append_assoc]
   exact List.perm_append_comm_assoc _ _ _
  ·rcases List.mem_append.1 he with he | he
   ·obtain ⟨g,hg,rfl⟩:=List.mem_map.1 he
    obtain ⟨g1,g2⟩:=a4 g hg
    exact vR g1 (by omega) (by omega)
   ·exact k4 e he chs
theorem B9: ∀ {ps:List PM} {vs:List Value} {d:denP ps},PArgs P w0 J ps vs d→vs.length=ps.length
 | [],vs,d,h=>by
  have h:vs= []:=h
  subst h;rfl
 | p::ps,vs,d,h=>by
  obtain ⟨v,r,rfl,h1,h3⟩:=h
  simpa using B9 h3
end
def Qd (tt:TT) (s:Sg):ResultVar→Option AV
 | .tmp t=>look s.env t
 | .cell p T=>(QX (look s.env p)).bind fun h=>(td tt T).bind fun d=>(sZ h s.chs).bind fun b=>bp (Nat.beq b.cells.length d.n) (Tc d.agg b.cells)
theorem Qe {v:Option AV} {h:Hdr} (k:QX v=some h):v=some (.one (.ptr h 0)):=by
 unfold QX at k
 split at k
 ·rename_i h' off
  split at k
  ·rename_i ho
   rw[Nat.eq_of_beq_eq_true ho,Option.some.inj k]
  ·cases k
 ·cases k
section
variable {P:Program} {I:Hp} {w0 w:World} {F:Ch} {J:Hp} {θ:Th} {n:Nat} {s:Sg} {a:Act} {tt:TT}
theorem Qf (ha:Agr n a (envL θ s)) {t g:Nat} {T E:TypeId} {v:Value} {cs:List Ch} (h:(envL θ s).lookup t=some (.pointer (some ⟨g,0,none⟩))) (hs:St J w0 w cs) (i:Nat) (hi:cs[i]? =some (Ch.blk g [v] E)) (hT:TI P T false 1):C5 P a w (.cell t T) v:=by
 refine ⟨_,ha.2.2 t _ h,?_⟩
 have hg:=hs.heap i hi
 have hc:w.cell? ⟨g,0,none⟩=some v:=by simp[World.cell?,hg]
 simp[loadVar,Sem.run_bind,hT.run_agg,load,Sem.run,hc,Result.andThen]
theorem MC (hT:TTok P tt) (hS:Sim P I w0 F n J θ s a w) {r:ResultVar} {v:AV} (h:Qd tt s r=some v):C5 P a w r (v.v θ)∧v.ok P w0 J θ s.nxt s.chs:=by
 cases r with
 | tmp t=>exact ⟨O0 hS.agr (eL h),a6 (x:=.tmp t) hS.fine h⟩
 | cell p T =>
  obtain ⟨hh,h1,h⟩:=bind_some (show (QX (look s.env p)).bind _=some v from h)
  obtain ⟨d,hd,h⟩:=bind_some h
  obtain ⟨b,hb,h⟩:=bind_some h
  obtain ⟨hl,h⟩:=ah h
  have hl:=Nat.eq_of_beq_eq_true hl
  have hp:=kK hb
  have hok:=hS.fine.chs _ (hp.mem_iff.2 (List.mem_cons_self ..))
  obtain ⟨k1,k2⟩:=Ic (chs:=s.chs) h hok.2.2
  refine ⟨?_,k1⟩
  have hlk:(envL θ s).lookup p=some (.pointer (some ⟨bk (hv θ hh),0,none⟩)):=eL (Qe h1)
  have hst:=hS.st.perm ((hp.map (toCh P θ)).append_right [F])
  have hti:=(hT.get hd).ti
  cases hagg:d.agg with
  | true =>
   rw[hagg] at k2 hti
   rw[←k2]
   exact KZ hS.agr hlk hst 0 rfl hti (by rw[List.length_map];exact hl)
  | false =>
   rw[hagg] at k2 hti h
   have h1':d.n=1:=by
    have:=(hT.get hd).one
    rw[hagg] at this
    simpa using this
   obtain ⟨x,hx⟩:=List.length_eq_one_iff.1 (hl.trans h1')
   rw[h1'] at hti
   rw[hx] at k2
   rw[←k2]
   have hst2:St J w0 w (Ch.blk (bk (hv θ hh)) [x.v θ] b.T::(b.rest.map (toCh P θ)++ [F])):=by
    have:(toCh P θ (b.ent hh))=Ch.blk (bk (hv θ hh)) (b.cells.map (·.v θ)) b.T:=rfl
    rw[hx] at this
    rw[←show toCh P θ (b.ent hh)=Ch.blk (bk (hv θ hh)) [x.v θ] b.T from this]
    exact hst
   exact Qf hS.agr hlk hst2 0 rfl hti
end
def DJ:(ts:List Ty)→List AV→List Ent→Option (fZ ts×List Ent×List Ent)
 | [],[],chs=>some ((),[],chs)
 | t::ts,v::vs,chs=>bp (rO v==t.isProd) ((gK v).bind fun cs=>(dk t cs chs).bind fun q=>bp q.cells.isEmpty ((DJ ts vs q.rest).bind fun r=>some ((q.d,r.1),q.used++r.2.1,r.2.2)))
 | _,_,_=>none
def tp:(ts:List Ty)→List Value→fZ ts→List Ch
 | t::ts,v::vs,d=>Ch.own t.rep (ga t.isProd v) d.1::tp ts vs d.2
 | _,_,_=>[]
theorem yJ {P:Program} {w0:World} {J:Hp} {θ:Th} {n:Nat} {chs0:List Ent} : ∀ {ts:List Ty} {vs:List AV} {chs:List Ent} {r:fZ ts×List Ent×List Ent},DJ ts vs chs=some r→(∀v∈vs,v.ok P w0 J θ n chs0)→
  chs.Perm (r.2.1++r.2.2)∧vs.length=ts.length∧np J (r.2.1.map (toCh P θ)) (tp ts (vs.map (·.v θ)) r.1)∧ ∀(i:Nat) t v,ts[i]? =some t→vs[i]? =some v→lZ (v.v θ)=t.isProd
 | [],[],chs,r,h,_=>by
  obtain rfl:=Option.some.inj (show some _=some r from h)
  exact ⟨List.Perm.refl _,rfl,rF,fun i t v ht=>by simp at ht⟩
 | t::ts,v::vs,chs,r,h,hv'=>by
  obtain ⟨ha,h⟩:=ah (show bp (rO v==t.isProd) _=some r from h)
  have ha:rO v=t.isProd:=by simpa using ha
  obtain ⟨cs,hcs,h⟩:=bind_some h
  obtain ⟨q,hq,h⟩:=bind_some h
  obtain ⟨he,h⟩:=ah h
  obtain ⟨r',hr,h⟩:=bind_some h
  obtain rfl:=Option.some.inj h
  obtain ⟨c1,c2⟩:=fK hcs (hv' v (by simp))
  obtain ⟨p,cc,e1,e2⟩:=gL (J:=J) (θ:=θ) hq c1
  rw[List.isEmpty_iff.1 he,List.append_nil] at e1
  subst e1
  obtain ⟨k1,k2,k3,k4⟩:=yJ hr fun x hx=>hv' x (by simp[hx])
  have hcell:ga t.isProd (v.v θ)=cs.map (·.v θ)∧lZ (v.v θ)=t.isProd:=by
   rw[←ha]
   cases v with
   | agg xs =>
    obtain rfl:=Option.some.inj (show some xs=some cs from hcs)
    exact ⟨rfl,rfl⟩
   | one x =>
    obtain rfl:=Option.some.inj (show some [x] =some cs from hcs)
    refine ⟨rfl,?_⟩
    have h1:(x.v θ).oneCell'=true:=LV.one (show LV.ok P w0 J θ n x from hv' (.one x) (by simp))
    show lZ (x.v θ)=false
    generalize x.v θ=u at h1
    cases u <;> first | rfl | cases h1
   | _=>cases hcs
  refine ⟨by rw[List.append_assoc];exact p.trans (k1.append_left _),by rw[List.length_cons,List.length_cons,k2],?_,fun i t' v' ht hv0=>?_⟩
  ·show np J ((q.used++r'.2.1).map _) (Ch.own t.rep (ga t.isProd (v.v θ)) q.d::tp ts (vs.map _) r'.1)
   rw[List.map_append,hcell.1]
   exact oJ e2 k3
  ·cases i with
   | zero =>
    obtain rfl:t=t':=by simpa using ht
    obtain rfl:v=v':=by simpa using hv0
    exact hcell.2
   | succ i=>exact k4 i t' v' (by simpa using ht) (by simpa using hv0)
 | [],_::_,chs,r,h,_=>by cases h
 | _::_,[],chs,r,h,_=>by cases h
def SQ:List Value→Value
 | [v] =>v
 | vs=>.tuple vs.toArray
def Ft (P:Program) (a:Act) (w:World):List ResultVar→List Value→Prop
 | [],vs=>vs= []
 | r::rs,vs=> ∃v us,vs=v::us∧C5 P a w r v∧Ft P a w rs us
theorem uh {P:Program} {a:Act} {w:World} {f:ResultVar→Sem Value} (hf: ∀r v,C5 P a w r v→(f r).run P w= .ok v w): ∀ {l:List ResultVar} {vs:List Value},Ft P a w l vs→(l.mapM f).run P w= .ok vs w
 | [],vs,h=>by
  have h:vs= []:=h
  subst h
  rw[List.mapM_nil];rfl
 | r::l,vs,h=>by
  obtain ⟨v,us,rfl,h1,h2⟩:=h
  rw[List.mapM_cons,Sem.run_bind,hf r v h1]
  simp only[Result.andThen_ok,Sem.run_bind,uh hf h2]
  rfl
def SR (a:Act) (r:ResultVar):Sem Value:=match r with
 | .tmp t=>pure (a.tmps.getD t undef)
 | .cell p t=>do loadVar t (←asAddr (a.tmps.getD p undef))
theorem Qg {P:Program} {a:Act} {w:World} {r:ResultVar} {v:Value} (h:C5 P a w r v):(SR a r).run P w= .ok v w:=by
 cases r with
 | tmp t =>
  have h:a.tmps.getD t undef=v:=h
  show (pure (a.tmps.getD t undef):Sem Value).run P w=_
  rw[h];rfl
 | cell p T =>
  obtain ⟨A,h1,h2⟩:=h
  show ((asAddr (a.tmps.getD p undef)) >>=fun x=>loadVar T x).run P w=_
  rw[h1,Sem.run_bind]
  show Result.andThen (.ok A w) _=_
  rw[Result.andThen_ok];exact h2
theorem Ts {P:Program} {n:Nat} {a:Act} {w:World} {L:List (Nat×Value)} {fn:Func} {R:Ending→World→Prop} {vs:List Value} (ha:Agr n a L) (h:Ft P a w fn.results.toList vs) (hR:R (.returned (SQ vs)) w):bodyPost P fn R .ret a w:=by
 refine ⟨ha.1,SQ vs,?_,hR⟩
 have hr:((fn.results.mapM (SR a)):Sem (Array Value)).run P w= .ok vs.toArray w:=by
  rw[Array.mapM_eq_mapM_toList]
  have:=uh (f:=SR a) (fun r v=>Qg) h
  simp[this,Sem.run_map]
 show ((fn.results.mapM (SR a)) >>=fun vs=>pure (if h:vs.size=1 then vs[0] else .tuple vs):Sem Value).run P w=_
 rw[Sem.run_bind,hr,Result.andThen_ok]
 match vs with
 | [] =>rfl
 | [v] =>rfl
 | _::_::_=>rfl
def dG:(i:Nat)→(ps:List PM)→denP ps→List Ent→Option (fZ (outs ps)×List Ent×List Ent)
 | _,[],_,chs=>some ((),[],chs)
 | i,.ow t::ps,d,chs=>(dk t (iy i [] t d.1).2 chs).bind fun q=>bp q.cells.isEmpty ((dG (i+1) ps d.2 q.rest).bind fun r=>some ((q.d,r.1),q.used++r.2.1,r.2.2))
 | i,.ptr T t::ps,d,chs=>(vP ⟨i,[]⟩ T t chs).bind fun q=>(dG (i+1) ps d.2 q.2.2).bind fun r=>some ((q.1,r.1),q.2.1++r.2.1,r.2.2)
 | i,.rd _::ps,d,chs=>dG (i+1) ps d.2 chs
 | i,.fn _ _::ps,d,chs=>dG (i+1) ps d.2 chs
 | i,.eat _::ps,d,chs=>dG (i+1) ps d.2 chs
 | i,.cap _ _::ps,d,chs=>dG (i+1) ps d.2 chs
 | i,.capf _ _ _::ps,d,chs=>dG (i+1) ps d.2 chs
 | i,.fk _::ps,d,chs=>dG (i+1) ps d.2 chs
theorem eg {P:Program} {w0:World} {J J':Hp} {θ θ':Th} {n n':Nat} {chs0:List Ent} (hJ:J.le J') (hs:Same n θ θ'): ∀ {ps:List PM} {i:Nat} {d:denP ps} {chs:List Ent} {vs:List Value} {r:fZ (outs ps)×List Ent×List Ent},dG i ps d chs=some r→vs.length=ps.length→StF P w0 J θ n i ps vs d→(∀e∈chs,okE P w0 J' θ' n' chs0 e)→
  chs.Perm (r.2.1++r.2.2)∧np J' (r.2.1.map (toCh P θ')) (outCh ps vs r.1)
 | [],i,d,chs,vs,r,h,_,_,_=>by
  obtain rfl:=Option.some.inj (show some _=some r from h)
  exact ⟨List.Perm.refl _,rF⟩
 | p::ps,i,d,chs,[],r,h,hl,_,_=>by cases hl
 | .ow t::ps,i,d,chs,v::vs,r,h,hl,hF,hc=>by
  obtain ⟨q,hq,h⟩:=bind_some (show (dk t (iy i [] t d.1).2 chs).bind _=some r from h)
  obtain ⟨he,h⟩:=ah h
  obtain ⟨r',hr,h⟩:=bind_some h
  obtain rfl:=Option.some.inj h
  obtain ⟨⟨k1,k2⟩,k3⟩:=hF
  obtain ⟨p,cc,e1,e2⟩:=gL (P:=P) (w0:=w0) (J:=J') (θ:=θ') (n:=n) hq fun x hx=>LV.ok_same hs (Nat.le_refl _) (k2 x hx) hJ
  rw[List.isEmpty_iff.1 he,List.append_nil] at e1
  subst e1
  rw[gT hs k2,k1] at e2
  obtain ⟨q1,q2⟩:=eg hJ hs hr (by simpa using hl) k3 fun e he=>hc e (p.mem_iff.2 (by simp[he]))
  refine ⟨by rw[List.append_assoc];exact p.trans (q1.append_left _),?_⟩
  show np J' ((q.used++r'.2.1).map _) (Ch.own t.rep (ga t.isProd v) q.d::outCh ps vs r'.1)
  rw[List.map_append]
  exact oJ e2 q2
 | .ptr T t::ps,i,d,chs,v::vs,r,h,hl,hF,hc=>by
  obtain ⟨q,hq,h⟩:=bind_some (show (vP ⟨i,[]⟩ T t chs).bind _=some r from h)
  obtain ⟨r',hr,h⟩:=bind_some h
  obtain rfl:=Option.some.inj h
  obtain ⟨⟨k1,k2⟩,k3⟩:=hF
  obtain ⟨p,hb⟩:=yw (P:=P) (w0:=w0) (J:=J') (J':=J') (θ:=θ') hq Hp.le.rfl hc
  obtain ⟨q1,q2⟩:=eg hJ hs hr (by simpa using hl) k3 fun e he=>hc e (p.mem_iff.2 (by simp[he]))
  refine ⟨by rw[List.append_assoc];exact p.trans (q1.append_left _),?_⟩
  show np J' ((q.2.1++r'.2.1).map _) (Ch.box (bk v) T t.rep q.1::outCh ps vs r'.1)
  rw[List.map_append]
  have hh:hv θ' ⟨i,[]⟩=v:=(aK hs (show (⟨i,[]⟩:Hdr).id<n from k2)).trans k1
  rw[hh] at hb
  intro w F hsp
  obtain ⟨G,K,rfl,h1,h2⟩:=hsp.split
  exact ⟨G,K,rfl,hb w G h1,q2 w K h2⟩
 | .rd t::ps,i,d,chs,v::vs,r,h,hl,hF,hc=>eg (ps:=ps) hJ hs (show dG (i+1) ps d.2 chs=some r from h) (by simpa using hl) hF.2 hc
 | .fn _ _::ps,i,d,chs,v::vs,r,h,hl,hF,hc=>eg (ps:=ps) hJ hs (show dG (i+1) ps d.2 chs=some r from h) (by simpa using hl) hF.2 hc
 | .eat _::ps,i,d,chs,v::vs,r,h,hl,hF,hc=>eg (ps:=ps) hJ hs (show dG (i+1) ps d.2 chs=some r from h) (by simpa using hl) hF.2 hc
 | .cap _ _::ps,i,d,chs,v::vs,r,h,hl,hF,hc=>eg (ps:=ps) hJ hs (show dG (i+1) ps d.2 chs=some r from h) (by simpa using hl) hF.2 hc
 | .capf _ _ _::ps,i,d,chs,v::vs,r,h,hl,hF,hc=>eg (ps:=ps) hJ hs (show dG (i+1) ps d.2 chs=some r from h) (by simpa using hl) hF.2 hc
 | .fk _::ps,i,d,chs,v::vs,r,h,hl,hF,hc=>eg (ps:=ps) hJ hs (show dG (i+1) ps d.2 chs=some r from h) (by simpa using hl) hF.2 hc
def ofH:(ts:List Ty)→fZ ts→dens ts
 | [],_=>()
 | [_],d=>d.1
 | _::u::ts,d=>(d.1,ofH (u::ts) d.2)
theorem DK: ∀(ts:List Ty) (d:fZ ts),toH ts (ofH ts d)=d
 | [],_=>rfl
 | [_],_=>rfl
 | _::u::ts,d=>congrArg (Prod.mk d.1) (DK (u::ts) d.2)
def CX:(ts us:List Ty)→fZ ts→fZ us→fZ (ts++us)
 | [],_,_,e=>e
 | _::ts,us,d,e=>(d.1,CX ts us d.2 e)
theorem Ae: ∀(ts us:List Ty) (d:fZ ts) (e:fZ us),hFst ts us (CX ts us d e)=d
 | [],_,_,_=>rfl
 | _::ts,us,d,e=>congrArg (Prod.mk d.1) (Ae ts us d.2 e)
theorem Fu: ∀(ts us:List Ty) (d:fZ ts) (e:fZ us),hSnd ts us (CX ts us d e)=e
 | [],_,_,_=>rfl
 | _::ts,us,d,e=>Fu ts us d.2 e
def yK (tt:TT) (s:Sg):List ResultVar→Option (List AV)
 | [] =>some []
 | r::rs=>(Qd tt s r).bind fun v=>(yK tt s rs).bind fun vs=>some (v::vs)
def DL (s:Sg):List AV→List Hdr
 | [] =>[]
 | v::vs=>v7 v++DL s vs
def vk:List Ent→List Hdr
 | [] =>[]
 | e::l=>match e.2.2 with
  | .hole _ _ _ _ _ _ _ _ _ _=>e.1::vk l
  | _=>vk l
def RS:List AV→List (Bool×Hdr)
 | [] =>[]
 | v::vs=>Un true v++RS vs
def Ca (tr:Trs) (vs:List AV) (s:Sg):Sg:=match tr with
 | [] =>s
 | _=>LM tr (RS vs) s
def MF (tr:Trs) (vs:List AV) (s0:Sg):Sg:=match Ca tr vs s0 with
 | s=>rU (DL s0 vs++vk s.chs) s
def nlN:List AV→(ts:List Ty)→fZ ts→Int
 | [.one (.own _)],[.sl _ t],d=>((List.length (α:=t.den) d.1:Nat):Int)
 | [.one (.val v)],[.sl _ _],_=>match isNil v with
  | true=>1
  | false=>0
 | _,_,_=>0
def RT (an:List (Nat×Ty)) (vs:List AV) (ts:List Ty) (d:fZ ts):Option Unit:=match vZ 1000000 an with
 | true=>chk (0<nlN vs ts d)
 | false=>some ()
theorem RU {vs:List AV} {ts:List Ty} {d:fZ ts} {θ:Th} (h:0<nlN vs ts d) {v:Value} (hv:vs.map (·.v θ)= [v]):tY ts d v:=by
 unfold nlN at h
 split at h
 ·intro h0
  omega
 ·split at h
  ·rename_i h1
   intro _
   have:=kL h1
   subst this
   simpa [AV.v,LV.v] using hv.symm
  ·omega
 ·omega
def Jv (V:Env) (rvs:List ResultVar) (rs:List Ty) (ps:List PM) (d:denP ps) (s00:Sg):Option (dens (rs++outs ps)):=(yK V.tt s00 rvs).bind fun vs00=>LW vs00 s00 fun s0=>(yK V.tt s0 rvs).bind fun vs0=>match MF V.tr vs0 s0 with
 | s=>(yK V.tt s rvs).bind fun vs=>(DJ rs vs s.chs).bind fun r=>(dG 0 ps d r.2.2).bind fun o=>(RT V.an vs rs r.1).bind fun _=>some (ofH _ (CX rs (outs ps) r.1 o.1))
end R
end Go.Proofs.YtakjhbbbjbebdaaGreat
