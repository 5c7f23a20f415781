/- FnContainment: for every input the law returns true and changes nothing that was there. Part 4 of 8. -/
import Derived.Test.YtfbgafccgaoepaaGreatKC2
set_option synthInstance.maxSize 20000
set_option synthInstance.maxHeartbeats 2000000
set_option linter.unusedVariables false
set_option linter.unusedSimpArgs false
set_option linter.unnecessarySimpa false
set_option linter.unusedSectionVars false
set_option maxRecDepth 1000000
namespace Go.Proofs.YtfbgafccgaoepaaGreat
open Go.IntKind (i64)
namespace R
open Go.RowKit
open D
def Sc (h:Hdr) (s:Sg):Option Sg:=(pull h s.chs).bind fun r=>match r.1.2.2 with
 | .own (.sl E (.bag t)) xs=>some ⟨s.env,(h,s.nxt,.own (.sl E (.fro (.fro (.fro t)))) xs)::r.2,s.nxt+1⟩
 | _=>none
def vG (h:Hdr) (s:Sg):Sg:=match Sc h s with
 | some s'=>s'
 | none=>s
def Jo (o:Oper) (s:Sg):Sg:=match o.op with
 | .indexAddr _ x _=>match opd s x with
  | some (.one (.own h))=>vG h s
  | _=>s
 | _=>s
def aal:Chk->Bool
 | .own (.sl _ (.fro (.fro (.fro _)))) _=>true
 | _=>false
def FI (n:Nat) (e:Ent):Ent:=match e.2.2 with
 | .own (.sl E (.fro (.fro (.fro t)))) xs=>(e.1,n,.own (.sl E (.bag t)) xs)
 | _=>e
def P8 (s:Sg):Sg:=match s.chs.any fun e=>aal e.2.2 with
 | true=>⟨s.env,s.chs.map (FI s.nxt),s.nxt+1⟩
 | false=>s
def V3 (s:Sg):Sg:=P8 (ql s)
section
variable {P:Program} {I J:Hp} {w0 w:World} {F:Ch} {n:Nat} {θ:Th} {s s':Sg} {a:Act} {h:Hdr}
theorem DL (hs:Sc h s=some s') (hS:Sim P I w0 F n J θ s a w): ∃J',J.le J'/\Sim P I w0 F n J' θ s' a w/\Fr s θ s' θ:=by
 obtain ⟨r,hr,hs⟩:=bind_some hs
 obtain ⟨p,k⟩:=fh hr
 obtain ⟨⟨h2,ver,c⟩,rest⟩:=r
 obtain rfl:h2=h:=k
 cases c with
 | own t' d =>
  cases t' with
  | sl E t' =>
   cases t' with
   | bag t =>
    obtain rfl:=ae (show some _=some s' from hs)
    have hok:=hS.fine.chs _ (p.mem_iff.2 (List.mem_cons_self ..))
    have h1:St J w0 w (Ch.own (aw E (Bu t.rep)) [hv θ h2] d::(rest.map (toCh P θ)++ [F])):=hS.st.perm ((p.map (toCh P θ)).append_right [F])
    obtain ⟨J',hJ,hst⟩:=h1.freeze_els
    have hmem: ∀e,e∈rest->e∈s.chs:=fun e he=>p.mem_iff.2 (ba _ he)
    have hnew:Newer s.nxt s.chs ((h2,s.nxt,Chk.own (.sl E (.fro (.fro (.fro t)))) d)::rest):=fun e he h' ver' c hs'=>by
     rcases az he with rfl | he
     ·obtain ⟨rfl,hs'⟩:=hs'
      rcases hs' with ⟨h1,-⟩ | hs'
      ·exact .inl (Nat.le_of_eq h1)
      ·exact hs'.elim
     ·exact .inr ⟨e,hmem e he,hs'⟩
    refine ⟨J',hJ,⟨hS.le.trans hJ,hS.agr,?_,fun e he=>AV.ok_same Same.rfl (Nat.le_succ _) hnew (hS.fine.env e he) hJ,fun e he=>aN (hS.fine.ver e he),hS.fine.nd,fun e he=>?_,hS.fine.lay.mono hJ⟩,Nat.le_succ _,Same.rfl,fun e he _=>he,hnew⟩
    ·show St J' w0 w (Ch.own (aw E (qu (qu (qu t.rep)))) [hv θ h2] d::(rest.map (toCh P θ)++ [F]))
     obtain ⟨b1,b2,F0,⟨G,K,rfl,⟨hl,e2⟩,e3⟩,b4,b5⟩:=hst
     refine ⟨b1,b2,G++K,⟨G,K,rfl,⟨hl,?_⟩,e3⟩,b4,b5⟩
     rcases e2 with e2 | ⟨g,ofs,cap,cur,K1,hv',k1,k2,k3,k4,k6,k5⟩
     ·exact .inl e2
     ·exact .inr ⟨g,ofs,cap,cur,K1,hv',k1,k2,k3,k4,k6,OwnEls.turn (R:=qu t.rep) (S:=qu (qu (qu t.rep))) rfl (fun c x G hx=>⟨hx.1,hx.2⟩) k5⟩
    ·rcases az he with rfl | he
     ·exact ⟨aN hok.1,au _,trivial⟩
     ·exact dS Same.rfl (Nat.le_succ _) hnew (hS.fine.chs e (hmem e he)) hJ
   | _=>cases hs
  | _=>cases hs
 | _=>cases hs
theorem P9 {o:Oper} (hS:Sim P I w0 F n J θ s a w): ∃J',J.le J'/\Sim P I w0 F n J' θ (Jo o s) a w/\Fr s θ (Jo o s) θ:=by
 unfold Jo
 split
 ·split
  ·unfold vG
   split
   ·exact DL ‹_› hS
   ·exact ⟨J,Hp.le.rfl,hS,Fr.rfl⟩
  ·exact ⟨J,Hp.le.rfl,hS,Fr.rfl⟩
 ·exact ⟨J,Hp.le.rfl,hS,Fr.rfl⟩
theorem Hw {f g:Ent->Ch} {C:List Ch} : ∀ {l:List Ent} {K:List Nat},(∀e∈l,∀F,(f e).holds J w F->(g e).holds J w F)->Sep J (l.map f++C) w K->Sep J (l.map g++C) w K
 | [],K,_,h=>h
 | e::l,_,hh,⟨G,K',e1,h1,h2⟩=>⟨G,K',e1,hh e (by simp) G h1,Hw (fun e he=>hh e (by simp[he])) h2⟩
theorem Jp {n:Nat} {e:Ent} {h:Hdr} {ver:Nat} {c:Chk} (k:Says (FI n e) h ver c):ver=n\/Says e h ver c:=by
 unfold FI at k
 split at k
 ·obtain ⟨rfl,k⟩:=k
  rcases k with ⟨h1,-⟩ | k
  ·exact .inl h1.symm
  ·exact k.elim
 ·exact .inr k
theorem Qa (hS:Sim P I w0 F n J θ s a w):Sim P I w0 F n J θ (P8 s) a w/\Fr s θ (P8 s) θ:=by
 unfold P8
 split
 ·have hnew:Newer s.nxt s.chs (s.chs.map (FI s.nxt)):=fun e he h ver c hs=>by
   obtain ⟨e0,h0,rfl⟩:=List.mem_map.1 he
   rcases Jp hs with rfl | hs
   ·exact .inl (ay _)
   ·exact .inr ⟨e0,h0,hs⟩
  refine ⟨⟨hS.le,hS.agr,?_,fun e he=>AV.ok_same Same.rfl (Nat.le_succ _) hnew (hS.fine.env e he) Hp.le.rfl,fun e he=>aN (hS.fine.ver e he),hS.fine.nd,fun e he=>?_,hS.fine.lay⟩,Nat.le_succ _,Same.rfl,fun e he _=>he,hnew⟩
  ·obtain ⟨h1,h2,K,h3,h4,h5⟩:=hS.st
   refine ⟨h1,h2,K,?_,h4,h5⟩
   rw[List.map_map]
   refine Hw (fun e he G hG=>?_) h3
   show (toCh P θ (FI s.nxt e)).holds J w G
   obtain ⟨hh,ver,c⟩:=e
   unfold FI
   split
   ·rename_i E t xs hc
    obtain rfl:c= .own (.sl E (.fro (.fro (.fro t)))) xs:=hc
    obtain ⟨hl,e2⟩:=(show (aw E (qu (qu (qu t.rep)))).own J w [hv θ hh] xs G from hG)
    refine (show (aw E (Bu t.rep)).own J w [hv θ hh] xs G from ⟨hl,?_⟩)
    rcases e2 with e2 | ⟨g,ofs,cap,cur,K1,hv',k1,k2,k3,k4,k6,k5⟩
    ·exact .inl e2
    ·exact .inr ⟨g,ofs,cap,cur,K1,hv',k1,k2,k3,k4,k6,OwnEls.turn (R:=qu (qu (qu t.rep))) (S:=Bu t.rep) rfl (fun c x G hx=>by rw[hx.1];exact G0 hx.2) k5⟩
   ·exact hG
  ·obtain ⟨e0,h0,rfl⟩:=List.mem_map.1 he
   have hok:=hS.fine.chs e0 h0
   have:=dS Same.rfl (Nat.le_succ _) hnew hok (J':=J) Hp.le.rfl
   obtain ⟨hh,ver,c⟩:=e0
   unfold FI
   split
   ·exact ⟨this.1,au _,trivial⟩
   ·exact this
 ·exact ⟨hS,Fr.rfl⟩
theorem Mj (hS:Sim P I w0 F n J θ s a w): ∃θ',Sim P I w0 F n J θ' (V3 s) a w/\Fr s θ (V3 s) θ':=by
 obtain ⟨θ',S1,F1⟩:=xh hS
 obtain ⟨S2,F2⟩:=Qa S1
 exact ⟨θ',S2,F1.trans F2⟩
end
end R
namespace R
open Go.RowKit
open D
section
variable {Y:Type} (ft:FT) (s:Sg) (k:Res->Option Y)
def Mk (ns:List Int):List LV:=ns.map fun n=>.val (.int .i64 n)
def ZW (T:Nat) (g:FuncId) (x:Operand):Option Y:=(fs ft g).bind fun f=>(opd s x).bind fun v=>(dq ft s s.chs f.ps [v]).bind fun a=>bw (a.lent.isEmpty&&a.own.isEmpty) <|
 (appP f.ps f.m a.d).bind fun r=>(T4 (f.rs++outs f.ps) (toH _ r)).bind fun ns=>match opd s x with
 | some (.one lv)=>k ⟨[],[],s.chs,[(⟨s.nxt,[]⟩,.blk T (lv::Mk ns))],.one (.ptr ⟨s.nxt,[]⟩ 0)⟩
 | _=>none
end
section
variable {Y:Type} {ft:FT} {s:Sg} {k:Res->Option Y} {P:Program} {w0:World} {o:Oper} {res:Y} {x:Operand}
theorem Qb {J:Hp} {θ:Th} {n:Nat} {ns:List Int} : ∀z∈Mk ns,z.ok P w0 J θ n:=fun z hz=>by
 obtain ⟨m,hm,rfl⟩:=List.mem_map.1 hz
 exact Eq.refl true
theorem Uy {θ:Th} {ns:List Int} :(Mk ns).map (·.v θ)=ns.map (Value.int .i64):=by
 unfold Mk
 rw[List.map_map];rfl
theorem Uz {T:Nat} {g:FuncId} (hF:FTok P ft) (hk: ∀f,fs ft g=some f->NewOk P g T f) {ts:Array TypeId} (ho:o.op= .call { callee:=.value (.func g),args:= #[x],argTypes:=ts }) (h:ZW ft s k T g x=some res):Oks P w0 s o k res:=by
 obtain ⟨f,hf',h⟩:=bind_some h
 obtain ⟨v0,hv0',h⟩:=bind_some h
 obtain ⟨a,ha,h⟩:=bind_some h
 obtain ⟨hc,h⟩:=aj h
 rw[ah] at hc
 have hl0:a.lent= []:=List.isEmpty_iff.1 hc.1
 have ho0:a.own= []:=List.isEmpty_iff.1 hc.2
 obtain ⟨r,hr,h⟩:=bind_some h
 obtain ⟨ns,hns,h⟩:=bind_some h
 split at h
 ·rename_i lv hx
  refine ⟨_,h,by simp,aL rfl,fun J θ hf=>?_⟩
  have k1:lv.ok P w0 J θ s.nxt:=bu hf hx
  obtain rfl:v0= .one lv:=ae (hv0'.symm.trans hx)
  obtain ⟨q1,-,-⟩:=fE (J':=J) hF hf Hp.le.rfl ha (fun y hy=>by obtain rfl:=ak hy;exact k1) (fun e he=>he) (by rw[hl0];exact fun h hh=>by cases hh) (ghV θ a.gh) xX
  have hev:evL (envL θ s) x=lv.v θ:=aC (θ:=θ) hx
  have q1:PArgs P w0 J (ghV θ a.gh) f.ps [lv.v θ] a.d:=q1
  have hl:(#[] :Array Value).toList++(#[x] :Array Operand).toList.map (evL (envL θ s))++(#[] :Array Value).toList=([lv.v θ] :List Value).toArray.toList:=by
   simp only[List.map_cons,List.map_nil,List.nil_append,List.append_nil,hev]
  refine OpT.weak (nz (hk f hf').1 ho rfl hl ((hk f hf').2 w0 J (ghV θ a.gh) [lv.v θ] a.d r ns hf.lay q1 hr hns)) (fun v hv0=>?_) (fun v hv0=>?_)
  ·obtain ⟨b,rfl⟩:=hv0
   refine ⟨au _,by show Value.pointer (some ⟨bk (hv _ ⟨s.nxt,[]⟩),0,none⟩)=_;rw[cW];rfl,fun g hg=>?_⟩
   obtain rfl:=ak hg
   refine B6 (au _) (au _) fun z hz=>?_
   rcases az hz with rfl | hz
   ·exact LV.ok_same Same.upd (Nat.le_succ _) k1 Hp.le.rfl
   ·exact Qb z hz
  ·show [Ch.blk (bk v) ([lv.v θ] ++ns.map (Value.int .i64)) T] = [Ch.blk (bk (hv (upd θ s.nxt v) ⟨s.nxt,[]⟩)) ((lv::Mk ns).map (·.v (upd θ s.nxt v))) T]
   rw[cW,List.map_cons,Uy,LV.v_same Same.upd k1];rfl
 ·cases h
end
end R
namespace R
open Go.RowKit
open D
section
variable {P:Program} {I J:Hp} {w0 w:World} {C:List Ch} {o:Oper} {ev:Operand->Value} {α β:Type} {R:Rep α} {S:Rep β} {E T:TypeId}
theorem St.lend {v:Value} {xs:List α} {a:α} {i:Int} (ha:aK xs i=some a) (hS:R.size=1) (h:St I w0 w (Ch.own (aw E R) [v] xs::C)) :
  ∃c,c.oneCell'=true/\St I w0 w (Ch.own R [c] a::Ch.gap (aw E R) [v] R (fun y=>xs.set i.toNat y) (ptB v) (ptO v+(i.toNat*R.size+0)) c::C):=by
 obtain ⟨hb,hi,F,⟨G,K,rfl,e2,e3⟩,h2,h3⟩:=h
 have hlt:=(List.getElem?_eq_some_iff.1 (nZ ha)).1
 obtain ⟨g,ofs,cap,cur,K1,K3,c1,cell,c3,G1,rfl,hl,k1,k2,k3,k4,rfl,f1,f2,f3,f4,f5,f6⟩:=sZ e2 (nZ ha)
 obtain ⟨c,rfl⟩:=List.length_eq_one_iff.1 ((R.own_len f5).trans hS)
 have hperm:((g::(K1++(G1++K3)))++K).Perm (G1++((g::(K1++([] ++K3)))++K)):=by
  grind
 have hnd:=hperm.nodup_iff.1 h2
 refine ⟨c,R.own_one f5 c (by simp),hb,hi,G1++((g::(K1++([] ++K3)))++K),⟨G1,_,rfl,f5,g::(K1++([] ++K3)),K,rfl,?_,e3⟩,hnd,fun b hb=>h3 b (hperm.mem_iff.2 hb)⟩
 exact RR (S:=R) (off:=0) (u:=fun _ y=>y) (a:=a) (v0:=c) hlt hl k1 k2 k3 k4 f1 f2 f3 f4 f6 rfl (K2:=[]) (fun b hb e=>by grind) (fun b hb=>by cases hb) hS fun J w' d' y G' hJ hs ho=>by
  obtain ⟨d0,rfl⟩:=List.length_eq_one_iff.1 ((R.own_len ho).trans hS)
  exact ⟨G',by simp,ho⟩
theorem DM {cs:List Value} {f:β->α} {b off:Nat} {v:Value} {x:Operand} (hT:TI P T false 1) (ho:o.op= .load T x) (hx:ev x= .pointer (some ⟨b,off,none⟩)) (h1:v.oneCell'=true) :
  OpT P I w0 o ev [Ch.gap R cs S f b off v] (· =v) (fun _=>[Ch.gap R cs S f b off v]):=by
 intro w C hs
 obtain ⟨hb0,hi,F,⟨K,K2,rfl,⟨k1,⟨cur,E,k2,k2'⟩,k3,k4⟩,e3⟩,h4,h5⟩:=id hs
 obtain ⟨u,hr,hu⟩:=GS (P:=P) (w:=w) (b:=b) (off:=off) (d:=[v]) hT rfl (fun _=>rfl) (fun j u hj=>by
  have hj0:j=0:=by have:=(List.getElem?_eq_some_iff.1 hj).1;simpa using this
  subst hj0
  simp only[World.cell?,k2]
  simp_all)
 obtain rfl:v=u:=by simpa using (show [v] = [u] from hu)
 simp only[execOp,ho,hx,Sem.run_bind,hr,Result.andThen_ok]
 exact ⟨rfl,hs⟩
end
section
variable {Y:Type} (tt:TT) (s:Sg) (k:Res->Option Y)
def Sd (T:TypeId) (x:Operand):Option Y:=(td tt T).bind fun d=>match opd s x with
 | some (.elo h ver E t xs a i off)=>(BF h s.chs).bind fun r=>bw (Nat.beq r.k t.size&&Nat.beq r.off off && !d.agg&&Nat.beq d.n 1) ((chk (i=r.i)).bind fun _=>k ⟨[r.ent h],[],r.rest,[],.one r.lv⟩)
 | _=>none
end
section
variable {Y:Type} {tt:TT} {s:Sg} {k:Res->Option Y} {P:Program} {w0:World} {o:Oper} {res:Y} {x:Operand}
theorem Ml (hT:TTok P tt) {T:TypeId} (ho:o.op= .load T x) (h:Sd tt s k T x=some res):Oks P w0 s o k res:=by
 obtain ⟨d,hd,h⟩:=bind_some h
 split at h
 ·rename_i hh ver E t xs a i off hx
  obtain ⟨r,hr,h⟩:=bind_some h
  obtain ⟨hc,h⟩:=aj h
  rw[ah,ah,ah] at hc
  obtain ⟨⟨⟨hc1,hc2⟩,hc3⟩,hc4⟩:=hc
  obtain ⟨u,hi,h⟩:=bind_some h
  have hi:=bD hi
  have hc1:=aq hc1
  have hc2:=aq hc2
  have hc3:d.agg=false:=by simpa using hc3
  have hc4:=aq hc4
  have hp:=uc hr
  have hti:=(hT.get hd).ti
  rw[hc3,hc4] at hti
  refine ⟨_,h,ma hp,aL rfl,fun J θ hf=>?_⟩
  have hok:=gU hf hp
  have hlv:r.lv.ok P w0 J θ s.nxt:=hok.2.2.1
  have hxv:evL (envL θ s) x= .pointer (some ⟨ptB (hv θ hh),ptO (hv θ hh)+(r.i.toNat*r.k+r.off),none⟩):=by
   rw[aC (θ:=θ) hx,hc1,hc2,<-hi];rfl
  have:=DM (P:=P) (I:=J) (w0:=w0) (R:=r.t.rep) (S:=r.u.rep) (cs:=[hv θ hh]) (f:=r.f) (v:=r.lv.v θ) hti ho hxv (LV.one hlv)
  refine OpT.weak this (fun v hv0=>⟨LV.ok_same Same.upd (Nat.le_succ _) hlv Hp.le.rfl,?_,fun g hg=>by cases hg⟩) (fun v hv0=>rfl)
  rw[hv0]
  exact LV.v_same Same.upd hlv
 ·cases h
end
def UA (h:Hdr) (i:Int) (s:Sg):Option Sg:=(rowOf h s.chs).bind fun r=>bw (Nat.beq r.t.size 1) ((aK r.xs i).bind fun a =>
 some ⟨s.env,(⟨s.nxt,[]⟩,s.nxt,.own r.t a)::(h,s.nxt,.hole r.ver (.sl r.E r.t) r.xs r.t a (fun y=>r.xs.set i.toNat y) i r.t.size 0 (.own ⟨s.nxt,[]⟩))::r.rest,s.nxt+1⟩)
def WR {Y:Type} (h:Hdr) (i:Int) (s:Sg) (k:Sg->Option Y):Option Y:=(rowOf h s.chs).bind fun r=>bw (Nat.beq r.t.size 1) ((aK r.xs i).bind fun a =>
 k ⟨s.env,(⟨s.nxt,[]⟩,s.nxt,.own r.t a)::(h,s.nxt,.hole r.ver (.sl r.E r.t) r.xs r.t a (fun y=>r.xs.set i.toNat y) i r.t.size 0 (.own ⟨s.nxt,[]⟩))::r.rest,s.nxt+1⟩)
theorem Jq {Y:Type} {h:Hdr} {i:Int} {s:Sg} {k:Sg->Option Y} {y:Y} (e:WR h i s k=some y): ∃s',UA h i s=some s'/\k s'=some y:=by
 obtain ⟨r,hr,e⟩:=bind_some e
 obtain ⟨hc,e⟩:=aj e
 obtain ⟨a,ha,e⟩:=bind_some e
 refine ⟨_,?_,e⟩
 unfold UA
 rw[hr]
 show bw (Nat.beq r.t.size 1) _=_
 rw[hc]
 show (aK r.xs i).bind _=_
 rw[ha];rfl
section
variable {P:Program} {I J:Hp} {w0 w:World} {F:Ch} {n:Nat} {θ:Th} {s s':Sg} {a:Act}
theorem Qc {h:Hdr} {i:Int} (hs:UA h i s=some s') (hS:Sim P I w0 F n J θ s a w): ∃θ',Sim P I w0 F n J θ' s' a w/\Fr s θ s' θ':=by
 obtain ⟨r,hr,hs⟩:=bind_some hs
 obtain ⟨hc,hs⟩:=aj hs
 obtain ⟨x,hx,hs⟩:=bind_some hs
 obtain rfl:=ae hs
 have hsz:r.t.rep.size=1:=r.t.rep_size.trans (aq hc)
 obtain ⟨hp,hno⟩:=bf hr
 have hok:=gU hS.fine hp
 have h1:St J w0 w (Ch.own (aw r.E r.t.rep) [hv θ h] r.xs::(r.rest.map (toCh P θ)++ [F])):=hS.st.perm ((hp.map (toCh P θ)).append_right [F])
 obtain ⟨c,hc1,hst⟩:=St.lend hx hsz h1
 have hmem: ∀e,e∈r.rest->e∈s.chs:=fun e he=>hp.mem_iff.2 (ba _ he)
 have hsame:Same s.nxt θ (upd θ s.nxt c):=Same.upd
 have hnv:hv (upd θ s.nxt c) ⟨s.nxt,[]⟩=c:=cW
 have hov:hv (upd θ s.nxt c) h=hv θ h:=aS hsame hok.1
 have hnew:Newer s.nxt s.chs ((⟨s.nxt,[]⟩,s.nxt,.own r.t x)::(h,s.nxt,.hole r.ver (.sl r.E r.t) r.xs r.t x (fun y=>r.xs.set i.toNat y) i r.t.size 0 (.own ⟨s.nxt,[]⟩))::r.rest):=fun e he h' ver' c' hs'=>by
  rcases az he with rfl | he
  ·rcases hs'.2 with ⟨h1,-⟩ | h1
   ·exact .inl (Nat.le_of_eq h1)
   ·exact h1.elim
  ·rcases az he with rfl | he
   ·obtain ⟨rfl,hs'⟩:=hs'
    rcases hs' with ⟨h1,-⟩ | ⟨rfl,rfl⟩
    ·exact .inl (Nat.le_of_eq h1)
    ·exact .inr ⟨r.ent _,hp.mem_iff.2 (by simp),rfl,.inl ⟨rfl,rfl⟩⟩
   ·exact .inr ⟨e,hmem e he,hs'⟩
 have hset:r.xs.set i.toNat x=r.xs:=by
  obtain ⟨hlt,e⟩:=List.getElem?_eq_some_iff.1 (nZ hx)
  rw[<-e];exact List.set_getElem_self hlt
 have hown:(LV.own ⟨s.nxt,[]⟩).ok P w0 J (upd θ s.nxt c) (s.nxt+1):=⟨au _,by rw[hnv];exact hc1⟩
 refine ⟨upd θ s.nxt c,⟨hS.le,?_,?_,fun e he=>AV.ok_same hsame (Nat.le_succ _) hnew (hS.fine.env e he) Hp.le.rfl,fun e he=>aN (hS.fine.ver e he),hS.fine.nd,fun e he=>?_,hS.fine.lay⟩,Nat.le_succ _,hsame,fun e he _=>he,hnew⟩
 ·show Agr n a (envL (upd θ s.nxt c) s)
  rw[qA hsame hS.fine.env];exact hS.agr
 ·rw[List.map_cons,List.map_cons,dU hsame fun e he=>hS.fine.chs e (hmem e he)]
  have e1:toCh P (upd θ s.nxt c) (⟨s.nxt,[]⟩,s.nxt,.own r.t x)=Ch.own r.t.rep [c] x:=by
   show Ch.own r.t.rep [hv (upd θ s.nxt c) ⟨s.nxt,[]⟩] x=_
   rw[hnv]
  have e2:toCh P (upd θ s.nxt c) (h,s.nxt,.hole r.ver (.sl r.E r.t) r.xs r.t x (fun y=>r.xs.set i.toNat y) i r.t.size 0 (.own ⟨s.nxt,[]⟩))=Ch.gap (aw r.E r.t.rep) [hv θ h] r.t.rep (fun y=>r.xs.set i.toNat y) (ptB (hv θ h)) (ptO (hv θ h)+(i.toNat*r.t.rep.size+0)) c:=by
   show Ch.gap (aw r.E r.t.rep) [hv (upd θ s.nxt c) h] r.t.rep _ (ptB (hv (upd θ s.nxt c) h)) (ptO (hv (upd θ s.nxt c) h)+(i.toNat*r.t.size+0)) (hv (upd θ s.nxt c) ⟨s.nxt,[]⟩)=_
   rw[hnv,hov,<-r.t.rep_size]
  rw[e1,e2]
  exact hst
 ·rcases az he with rfl | he
  ·exact ⟨au _,au _,trivial⟩
  ·rcases az he with rfl | he
   ·refine ⟨aN hok.1,au _,hown,hok.2.1,hset,fun l hl=>?_⟩
    cases LV.own.inj hl
    refine ⟨au _,fun e he c' hs'=>?_⟩
    rcases az he with rfl | he
    ·rcases hs'.2 with ⟨-,h1⟩ | h1
     ·exact h1
     ·exact h1.elim
    ·rcases az he with rfl | he
     ·have:=hok.1
      rw[show h=(⟨s.nxt,[]⟩:Hdr) from hs'.1] at this
      exact absurd this (Nat.lt_irrefl _)
     ·have:=(hS.fine.chs e (hmem e he)).1
      rw[hs'.1] at this
      exact absurd this (Nat.lt_irrefl _)
   ·exact dS hsame (Nat.le_succ _) hnew (hS.fine.chs e (hmem e he)) Hp.le.rfl
end
theorem St.loose {α:Type} {E:TypeId} {R:Rep α} {I:Hp} {w0 w:World} {v:List Value} {xs:List α} {C:List Ch} (h:St I w0 w (Ch.own (aw E (qu (qu (qu R)))) v xs::C)):St I w0 w (Ch.own (aw E (Bu R)) v xs::C):=by
 obtain ⟨hb,hi,F,⟨G,K,rfl,⟨hl,e2⟩,e3⟩,h4,h5⟩:=h
 rcases e2 with ⟨rfl,rfl,rfl⟩ | ⟨g,ofs,cap,cur,K1,hv,k1,k2,k3,k4,k6,k5⟩
 ·exact ⟨hb,hi,_,⟨_,K,rfl,⟨hl,.inl ⟨rfl,rfl,rfl⟩⟩,e3⟩,h4,h5⟩
 ·exact ⟨hb,hi,_,⟨_,K,rfl,⟨hl,.inr ⟨g,ofs,cap,cur,K1,hv,k1,k2,k3,k4,k6,OwnEls.turn (R:=qu (qu (qu R))) (S:=Bu R) rfl (fun c x G hx=>by rw[hx.1];exact G0 hx.2) k5⟩⟩,e3⟩,h4,h5⟩
def Y8:Ty->Bool
 | .fro (.fro (.fro _))=>true
 | _=>false
section
variable {Y:Type} (tt:TT) (s:Sg) (k:Res->Option Y)
def Mm (T:TypeId) (x y:Operand):Option Y:=(td tt T).bind fun d=>match opd s x,opd s y with
 | some (.elo h ver E (.fro (.fro (.fro t))) xs a i off),some (.one (.own l))=>(rowOf h s.chs).bind fun r=>bw (Nat.beq r.ver ver&&Nat.beq d.n 1&&Nat.beq off 0&&Nat.beq t.size 1 && !d.agg) ((cy (.bag t) [.own l] r.rest).bind fun q=>bw q.cells.isEmpty (k ⟨[],r.ent h::q.used,q.rest,[(h,.own (.sl E (.bag t)) (List.set (α:=t.den) xs i.toNat q.d))],.any ⟨s.nxt,[]⟩⟩))
 | _,_=>none
end
section
variable {Y:Type} {tt:TT} {s:Sg} {k:Res->Option Y} {P:Program} {w0:World} {o:Oper} {res:Y} {x y:Operand}
theorem Jr (hT:TTok P tt) {T:TypeId} (ho:o.op= .store T x y) (h:Mm tt s k T x y=some res):Oks P w0 s o k res:=by
 obtain ⟨d,hd,h⟩:=bind_some h
 split at h
 ·rename_i hh ver E t xs a i off l hx hy
  obtain ⟨r,hr,h⟩:=bind_some h
  obtain ⟨hg,h⟩:=aj h
  rw[ah,ah,ah,ah] at hg
  obtain ⟨⟨⟨⟨hg1,hg2⟩,hg3⟩,hg4⟩,hg5⟩:=hg
  have hver:=aq hg1
  have hg2:=aq hg2
  have hg3:=aq hg3
  have hg4:=aq hg4
  have hg5:d.agg=false:=by simpa using hg5
  obtain ⟨q,hq,h⟩:=bind_some h
  obtain ⟨hbe,h⟩:=aj h
  obtain ⟨hp,-⟩:=bf hr
  have hti:=(hT.get hd).ti
  rw[hg5,hg2] at hti
  refine ⟨_,h,(hp.trans ((eW hq).cons _)),aL rfl,fun J θ hf=>?_⟩
  have ho':=bu hf hx
  have he:=vr hr hver ho'
  have hok:=gU hf hp
  have hlv:(LV.own l).ok P w0 J θ s.nxt:=bu hf hy
  have c1: ∀x ∈ [LV.own l],x.ok P w0 J θ s.nxt:=fun x hx=>by
   cases ak hx
   exact hlv
  obtain ⟨-,cc,e1,e2⟩:=gT (J:=J) (θ:=θ) hq c1
  rw[List.isEmpty_iff.1 hbe,List.append_nil] at e1
  subst e1
  have hsz:(Bu t.rep).size=1:=t.rep_size.trans hg4
  have:=tV (P:=P) (I:=J) (w0:=w0) (o:=o) (T:=T) (E:=E) (R:=Bu t.rep) (S:=Bu t.rep) (v:=hv θ hh) (u:=hv θ l) (k:=t.size) (off:=off) e2 ho'.2.1 (by rw[hg3];exact UpdO.self) hti ho (aC (θ:=θ) hx) (aC (θ:=θ) hy) (xI (LV.one hlv)) (Bz c1) rfl hsz t.rep_size (by omega)
  have key:OpT P J w0 o (evL (envL θ s)) (Ch.own (aw E (qu (qu (qu t.rep)))) [hv θ hh] xs::q.used.map (toCh P θ)) (fun _=>True) (fun _=>[Ch.own (aw E (Bu t.rep)) [hv θ hh] (List.set (α:=t.den) xs i.toNat q.d)]):=fun w C hs=>this w C (St.loose hs)
  rw[he]
  refine OpT.weak key (fun u hu=>⟨au _,cW,fun g hg=>?_⟩) (fun u hu=>?_)
  ·cases ak hg
   exact ⟨aN hok.1,au _,trivial⟩
  ·show [Ch.own _ [hv θ hh] _] = [Ch.own _ [hv (upd θ s.nxt u) hh] _]
   rw[show hv (upd θ s.nxt u) hh=hv θ hh from aS Same.upd hok.1];rfl
 ·cases h
end
end R
namespace R
open Go.RowKit
open D
structure Mp where
 ver:Nat
 md:MD
 m:List (md.k.den×md.e.den)
 rest:List Ent
def MD.ck (d:MD) (m:List (d.k.den×d.e.den)):Chk:=.map d.K d.E d.k d.e m
def YE (h:Hdr) (chs:List Ent):Option Mp:=(pull h chs).bind fun r=>match r.1.2.2 with
 | .map K E k e m=>some ⟨r.1.2.1,⟨K,E,k,e⟩,m,r.2⟩
 | _=>none
def Mp.ent (r:Mp) (h:Hdr):Ent:=(h,r.ver,r.md.ck r.m)
theorem FJ {h:Hdr} {chs:List Ent} {r:Mp} (e:YE h chs=some r):chs.Perm (r.ent h::r.rest):=by
 obtain ⟨q,hq,e⟩:=bind_some e
 obtain ⟨p,k⟩:=fh hq
 obtain ⟨⟨h',ver,c⟩,rest⟩:=q
 obtain rfl:h'=h:=k
 cases c with
 | map K E k e' m =>
  obtain rfl:=ae (show some _=some r from e)
  exact p
 | _=>cases e
def MK.beq:MK->MK->Bool
 | .int,.int=>true
 | .ii,.ii=>true
 | _,_=>false
def ME.beq:ME->ME->Bool
 | .int,.int=>true
 | .bool,.bool=>true
 | _,_=>false
def MD.beq (a b:MD):Bool:=Nat.beq a.K b.K&&Nat.beq a.E b.E&&MK.beq a.k b.k&&ME.beq a.e b.e
theorem MD.beq_eq {a b:MD} (h:MD.beq a b=true):a=b:=by
 obtain ⟨K,E,k,e⟩:=a
 obtain ⟨K',E',k',e'⟩:=b
 unfold MD.beq at h
 simp only[ah] at h
 obtain ⟨⟨⟨h1,h2⟩,h3⟩,h4⟩:=h
 obtain rfl:K=K':=aq h1
 obtain rfl:E=E':=aq h2
 obtain rfl:k=k':=by cases k <;> cases k' <;> first | rfl | cases h3
 obtain rfl:e=e':=by cases e <;> cases e' <;> first | rfl | cases h4
 rfl
def Qd:(k:MK)->AV->Option k.den
 | .int,.one (.val (.int .i64 n))=>some n
 | .ii,.agg [.val (.int .i64 a),.val (.int .i64 b)] =>some (a,b)
 | _,_=>none
theorem B7 {k:MK} {v:AV} {d:k.den} (h:Qd k v=some d) (θ:Th):v.v θ=k.val d:=by
 unfold Qd at h
 split at h
 ·rw[<-ae h];rfl
 ·rw[<-ae h];rfl
 ·cases h
def UB:(e:ME)->AV->Option e.den
 | .int,.one (.val (.int .i64 n))=>some n
 | .bool,.one (.val (.bool b))=>some b
 | .bool,.one (.nb b)=>some (!b)
 | _,_=>none
theorem Qe {e:ME} {v:AV} {d:e.den} (h:UB e v=some d) (θ:Th):v.v θ=e.val d:=by
 unfold UB at h
 split at h
 ·rw[<-ae h];rfl
 ·rw[<-ae h];rfl
 ·rw[<-ae h];rfl
 ·cases h
theorem ME.val_one (e:ME) (d:e.den):(e.val d).oneCell'=true:=by cases e <;> rfl
section
variable {Y:Type} (tt:TT) (s:Sg) (k:Res->Option Y)
def ZX (T:TypeId):Option Y:=(td tt T).bind fun d=>d.mp.bind fun md=>k ⟨[],[],s.chs,[(⟨s.nxt,[]⟩,md.ck [])],.one (.own ⟨s.nxt,[]⟩)⟩
def UC (T:TypeId) (m x y:Operand):Option Y:=(td tt T).bind fun d=>d.mp.bind fun md=>match opd s m with
 | some (.one (.own h))=>(YE h s.chs).bind fun r=>bw (MD.beq md r.md) ((opd s x).bind fun kv=>(Qd r.md.k kv).bind fun q=>(opd s y).bind fun ev=>(UB r.md.e ev).bind fun i =>
  (@E3 r.md.k.den r.md.e.den r.m r.md.k.ok r.md.e.ok q i).bind fun M=>k ⟨[],[r.ent h],r.rest,[(h,r.md.ck M)],.any ⟨s.nxt,[]⟩⟩)
 | _=>none
def Se (T:TypeId) (m x:Operand) (two:Bool):Option Y:=(td tt T).bind fun d=>d.mp.bind fun md=>match opd s m with
 | some (.one (.own h))=>(YE h s.chs).bind fun r=>bw (MD.beq md r.md) ((opd s x).bind fun kv=>(Qd r.md.k kv).bind fun q =>
  Yv false (r.md.k.ok q=true) (instDecidableEqBool _ _) (match two with
   | true=>k ⟨[r.ent h],[],r.rest,[],.tup [(false,[.val (r.md.e.val ((@lkM r.md.k.den r.md.e.den r.md.k.dec r.m q).getD r.md.e.z))]),(false,[.val (.bool (@lkM r.md.k.den r.md.e.den r.md.k.dec r.m q).isSome)])]⟩
   | false=>k ⟨[r.ent h],[],r.rest,[],.one (.val (r.md.e.val ((@lkM r.md.k.den r.md.e.den r.md.k.dec r.m q).getD r.md.e.z)))⟩))
 | _=>none
end
section
variable {Y:Type} {tt:TT} {s:Sg} {k:Res->Option Y} {P:Program} {w0:World} {o:Oper} {res:Y} {m x y:Operand}
theorem Mn {θ:Th} {h:Hdr} {ver:Nat} {md:MD} {M:List (md.k.den×md.e.den)} :toCh P θ (h,ver,md.ck M)= @Ch.mp P md.K md.E md.k.den md.e.den md.k.dec md.k.lit md.k.ok md.e.lit md.e.z (hv θ h) M:=rfl
theorem WS {I:Hp} {w:World} {C:List Ch} {K E:TypeId} {κ ε:Type} [DecidableEq κ] {lit:κ->Lit} {ok:κ->Bool} {elit:ε->Lit} {z:ε} {v:Value} {M:List (κ×ε)} (h:St I w0 w (Ch.mp P K E lit ok elit z v M::C)):v.oneCell'=true:=by
 obtain ⟨h1,h2,F,⟨G,G',rfl,⟨b,rfl,rfl,h3⟩,e⟩,h4,h5⟩:=h
 rfl
theorem UD (hT:TTok P tt) {T:TypeId} (ho:o.op= .makeMap T none) (h:ZX tt s k T=some res):Oks P w0 s o k res:=by
 obtain ⟨d,hd,h⟩:=bind_some h
 obtain ⟨md,hm,h⟩:=bind_some h
 refine ⟨_,h,by simp,aL rfl,fun J θ hf=>?_⟩
 have h1:= @Fg P J w0 o (evL (envL θ s)) md.k.den md.e.den md.k.dec md.k.lit md.k.ok md.e.lit md.e.z T md.K md.E ho
 intro w C hs
 refine (h1 w C hs).imp fun v w' hv=>?_
 have hone:=letI:=md.k.dec;WS hv.2
 refine ⟨⟨⟨au _,by rw[cW];exact hone⟩,cW,fun g hg=>?_⟩,?_⟩
 ·obtain rfl:=ak hg
  exact ⟨au _,au _,trivial⟩
 ·show St J w0 w' ([toCh P (upd θ s.nxt v) (⟨s.nxt,[]⟩,s.nxt,md.ck [])] ++C)
  rw[Mn,cW];exact hv.2
theorem Hx (hT:TTok P tt) {T:TypeId} (ho:o.op= .mapUpdate T m x y\/o.op= .insert T m x y) (h:UC tt s k T m x y=some res):Oks P w0 s o k res:=by
 obtain ⟨d,hd,h⟩:=bind_some h
 obtain ⟨md,hm,h⟩:=bind_some h
 split at h
 ·rename_i hh hx
  obtain ⟨r,hr,h⟩:=bind_some h
  obtain ⟨he,h⟩:=aj h
  obtain ⟨kv,hk,h⟩:=bind_some h
  obtain ⟨q,hq,h⟩:=bind_some h
  obtain ⟨ev,hev,h⟩:=bind_some h
  obtain ⟨i,hi,h⟩:=bind_some h
  obtain ⟨M,hM,h⟩:=bind_some h
  have hp:=FJ hr
  obtain ⟨m1,m2,m3⟩:=(hT.get hd).mp _ hm
  rw[MD.beq_eq he] at m1 m2 m3
  refine ⟨_,h,zQ hp,aL rfl,fun J θ hf=>?_⟩
  have hok:=gU hf hp
  have h1:= @IQ P J w0 o (evL (envL θ s)) r.md.k.den r.md.e.den r.md.k.dec r.md.k.lit r.md.k.val r.md.k.ok r.md.e.val r.md.e.lit r.md.e.ok r.md.e.z T r.md.K r.md.E m x y (hv θ hh) q i r.m M m2 m3 m1 ho (aC hx) ((aC hk).trans (B7 hq θ)) ((aC hev).trans (Qe hi θ)) hM
  refine OpT.weak h1 (fun u hu=>⟨au _,cW,fun g hg=>?_⟩) (fun u hu=>?_)
  ·obtain rfl:=ak hg
   exact ⟨aN hok.1,au _,trivial⟩
  ·show [_] = [toCh P (upd θ s.nxt u) (hh,s.nxt,r.md.ck M)]
   rw[Mn,show hv (upd θ s.nxt u) hh=hv θ hh from aS Same.upd hok.1]
 ·cases h
theorem Mo (hT:TTok P tt) {T:TypeId} {two:Bool} (ho:o.op= .lookup T m x two) (h:Se tt s k T m x two=some res):Oks P w0 s o k res:=by
 obtain ⟨d,hd,h⟩:=bind_some h
 obtain ⟨md,hm,h⟩:=bind_some h
 split at h
 ·rename_i hh hx
  obtain ⟨r,hr,h⟩:=bind_some h
  obtain ⟨he,h⟩:=aj h
  obtain ⟨kv,hk,h⟩:=bind_some h
  obtain ⟨q,hq,h⟩:=bind_some h
  obtain ⟨hok,h⟩:=Fk h
  have hp:=FJ hr
  obtain ⟨m1,m2,m3⟩:=(hT.get hd).mp _ hm
  rw[MD.beq_eq he] at m1 m2 m3
  cases two with
  | true =>
   refine ⟨_,h,ma hp,fun _ _ _ g hg=>(by cases hg),fun J θ hf=>?_⟩
   have h1:= @Fh P J w0 o (evL (envL θ s)) r.md.k.den r.md.e.den r.md.k.dec r.md.k.lit r.md.k.val r.md.k.ok r.md.e.val r.md.e.lit r.md.e.ok r.md.e.z T r.md.K r.md.E m x (hv θ hh) q r.m m2 m3 hok m1 ho (aC hx) ((aC hk).trans (B7 hq θ))
   refine OpT.weak h1 (fun u hu=>⟨fun y hy z hz=>?_,?_,fun g hg=>by cases hg⟩) (fun u hu=>rfl)
   ·rcases az hy with rfl | hy
    ·obtain rfl:=ak hz;exact ME.val_one _ _
    ·obtain rfl:=ak hy
     obtain rfl:=ak hz;exact Eq.refl true
   ·rw[hu];rfl
  | false =>
   refine ⟨_,h,ma hp,fun _ _ _ g hg=>(by cases hg),fun J θ hf=>?_⟩
   have h1:= @C8 P J w0 o (evL (envL θ s)) r.md.k.den r.md.e.den r.md.k.dec r.md.k.lit r.md.k.val r.md.k.ok r.md.e.val r.md.e.lit r.md.e.ok r.md.e.z T r.md.K r.md.E m x (hv θ hh) q r.m m2 m3 hok m1 ho (aC hx) ((aC hk).trans (B7 hq θ))
   refine OpT.weak h1 (fun u hu=>⟨ME.val_one _ _,?_,fun g hg=>by cases hg⟩) (fun u hu=>rfl)
   rw[hu];rfl
 ·cases h
end
end R
namespace R
open Go.RowKit
open D
structure Env where
 tt:TT
 ft:FT
 an:List (Nat×Ty)
 n:Nat
 tr:Trs
section
variable {Y:Type} (V:Env) (s:Sg) (k:Res->Option Y)
def Aw (d:Nat):List (Nat×Ty)->Bool
 | [] =>false
 | (u,_)::l=>Nat.beq u d || Aw d l
def Y9 (d:Nat):List (Nat×Ty)->Bool
 | [] =>false
 | (u,.raw)::l=>Nat.beq u d || Y9 d l
 | _::l=>Y9 d l
def Za (d:Option Nat) (an:List (Nat×Ty)):Bool:=match d with
 | some d=>Y9 d an
 | none=>false
def Zb (d:Nat):List (Nat×Ty)->Bool
 | [] =>false
 | (u,.str)::l=>Nat.beq u d || Zb d l
 | _::l=>Zb d l
def Zc (d:Option Nat) (an:List (Nat×Ty)):Bool:=match d with
 | some d=>Zb d an
 | none=>false
def WU (d:Option Nat) (an:List (Nat×Ty)):Bool:=match d with
 | some d=>Aw d an
 | none=>false
def UE (dst:Option Nat) (c:Call):Option Y:=match c.callee,c.args.toList,c.argTypes.toList with
 | .builtin .len,[x],[T] =>match opd s x with
  | some (.one (.own _))=>Wx V.tt s k T x
  | some (.vw _ _ _ _ _ _)=>Um V.tt s k T x
  | some (.xv _ _ _ _ _ _ _)=>Um V.tt s k T x
  | _=>sLen V.tt s k T x
 | .builtin .append,[x,y],[T,U] =>match Nat.beq T U with
  | true=>(match opd s x with
   | some (.vw _ _ _ _ _ _)=>WJ V.tt s k T x y
   | _=>(match opd s y with
    | some (.sub _ _ _ _ _ _)=>Ur V.tt s k T x y
    | some (.pre _ _ _ _ _ _)=>Ur V.tt s k T x y
    | _=>ZS V.tt V.an s k dst T x y))
  | false=>WK V.tt s k T U x y
 | .builtin .clear,[x],[T] =>L4 V.tt s k T x
 | .builtin .copy,[x,y],[T,_] =>match opd s x with
  | some (.vw _ _ _ _ _ _)=>L8 V.tt s k T x y
  | some (.xv _ _ _ _ _ _ _)=>L8 V.tt s k T x y
  | _=>WE V.tt s k T x y
 | .builtin .min,[x,y],[_,_] =>Y2 s k x y
 | .builtin .max,[x,y],[_,_] =>Y3 s k x y
 | .value (.func g),xs,_=>match (fs V.ft g).bind (·.cl) with
  | some q=>match Nat.beq q.2 7,xs with
   | true,xs=>R1 V.ft s k g xs
   | false,[x] =>(match Nat.beq q.2 9 with
    | true=>ZW V.ft s k q.1 g x
    | false=>bw (!Nat.beq q.2 0 && !Nat.ble 1000 q.2) (LD s k q.1 q.2 x))
   | false,[x,y] =>(match Nat.ble 1000 q.2 with
    | true=>Y7 s k q.1 (q.2 - 1000) x y
    | false=>bw (Nat.beq q.2 0) (Uq s k x y))
   | _,_=>none
  | none=>R0 V.ft s k g xs
 | .value (.tmp t),xs,_=>match Hk V.ft s t xs.length with
  | some c=>R2 V.ft s k c xs
  | none=>Lj V.ft s k t xs
 | _,_,_=>none
def step (o:Oper):Option Y:=match o.op with
  | .move x=>TU s k x
  | .assign x=>TU s k x
  | .pick c x y=>Wv s k c x y
  | .unOp .not _ x=>YW s k x
  | .unOp .neg _ x=>YX s k x
  | .binOp b t x y _=>match opd s y with
   | some (.capv _ _)=>Up s k b x y
   | _=>match opd s x with
    | some (.one (.rd _ (.tree _ _ _) _))=>Y4 V.tt s k b t x y
    | some (.one (.ptr _ _))=>Y4 V.tt s k b t x y
    | some (.one (.rdn _ _ _ _))=>YB V.tt s k b t x y
    | some (.one (.own _))=>YB V.tt s k b t x y
    | some (.one (.val (.slice _ _ _)))=>YB V.tt s k b t x y
    | some (.one (.val (.string _)))=>Uw V.tt s k b t x y
    | _=>Yw V.tt s k b t x y
  | .index T x i=>WQ V.tt s k T x i
  | .extract x i=>By s k x i
  | .indexAddr T x i=>match opd s x with
    | some (.one (.own h))=>(match BF h s.chs with
      | some _=>Md V.tt s k T x i
      | none=>KT V.tt s k T x i)
    | some (.vw _ _ _ _ _ _)=>FE V.tt s k T x i
    | some (.xv _ _ _ _ _ _ _)=>FE V.tt s k T x i
    | _=>KN V.tt s k T x i
  | .fieldAddr T x f=>match opd s x with
    | some (.one (.fz _ _ _ _ _))=>Ls V.tt s k T x f
    | some (.one (.rd _ (.tree _ _ _) _))=>Lx V.tt s k T x f
    | _=>RP V.tt s k T x f
  | .load T x=>match opd s x with
    | some (.elr _ _ _ _ _ _ _)=>RQ V.tt s k T x
    | some (.elo h _ _ _ _ _ _ _)=>(match BF h s.chs with
      | some _=>Sd V.tt s k T x
      | none=>RU V.tt s k T x)
    | some (.one (.fz _ _ _ _ _))=>Lr V.tt s k T x
    | some (.one (.fzf _ _ _ _ _))=>Lr V.tt s k T x
    | _=>RT V.tt s k T x
  | .store T x y=>match opd s x with
    | some (.elo h _ _ t _ _ _ _)=>match BF h s.chs with
      | some _=>K4 V.tt s k T x y
      | none=>(match Y8 t,opd s y with
        | true,some (.one (.own _))=>Mm V.tt s k T x y
        | _,_=>KU V.tt s k T x y)
    | _=>KS V.tt s k T x y
  | .nilCheck x=>Uf s k x
  | .slice T x (some lo) (some hi) (some mx)=>LZ V.tt s k T x lo hi mx
  | .slice T x lo hi none=>match opd s x with
    | some (.vw _ _ _ _ _ _)=>B1 V.tt s k T x lo hi
    | some (.xv _ _ _ _ _ _ _)=>B1 V.tt s k T x lo hi
    | some (.one (.own _))=>match Za o.dst V.an with
     | true=>B1 V.tt s k T x lo hi
     | false=>match Zc o.dst V.an with
      | true=>(match lo,hi with
        | none,some hi=>L7 V.tt s k T x hi
        | _,_=>none)
      | false=>match lo with
      | some _=>match WU o.dst V.an with
        | true=>LA V.tt s k T x lo hi
        | false=>LB V.tt s k T x lo hi
      | none=>match WU o.dst V.an with
        | true=>LC V.tt s k T x lo hi
        | false=>Lz V.tt s k T x lo hi
    | some (.one (.val (.string _)))=>Mg V.tt s k T x lo hi
    | _=>Ly V.tt s k T x lo hi
  | .box T x=>ZP s k T x
  | .alloc T=>RS V.tt s k T
  | .build T parts=>RW V.tt s k T parts
  | .buildSlice T m parts=>ZR V.tt V.an s k o.dst T m parts
  | .makeSlice T x y=>Wy V.tt V.an s k o.dst T x y
  | .call c=>UE V s k o.dst c
  | .makeFunc f x y=>R3 s k f x y
  | .makeMap T none=>ZX V.tt s k T
  | .convert S D x=>match opd s x with
    | some (.one (.val (.int _ _)))=>Ww V.tt s k S D x
    | _=>Sb V.tt s k S D x
  | .mapUpdate T m x y=>UC V.tt s k T m x y
  | .insert T m x y=>UC V.tt s k T m x y
  | .lookup T m x two=>Se V.tt s k T m x two
  | _=>none
end
section
variable {Y:Type} {V:Env} {s:Sg} {k:Res->Option Y} {P:Program} {w0:World} {o:Oper} {res:Y}
theorem Zd {α:Type} {a:Array α} {x:α} (h:a.toList= [x]):a= #[x]:=Array.ext' h
theorem WV {α:Type} {a:Array α} {x y:α} (h:a.toList= [x,y]):a= #[x,y]:=Array.ext' h
theorem Qf (hT:TTok P V.tt) (hF:FTok P V.ft) {c:Call} (ho:o.op= .call c) (h:UE V s k o.dst c=some res):Oks P w0 s o k res:=by
 have ⟨cal,args,tys⟩:=c
 unfold UE at h
 split at h
 ·grind[builtin,Zd,Pd,PN,TX]
 ·grind[builtin,WV,aq,PO,P4,T3,PZ]
 ·grind[builtin,Zd,Jh]
 ·grind[builtin,WV,L9,PD]
 ·grind[builtin,min,WV,Ug]
 ·grind[builtin,max,WV,Uh]
 ·rename_i g h1
  obtain rfl:cal= .value (.func g):=h1
  split at h
  ·rename_i q hq
   have ⟨f,hf,hq⟩:=bind_some hq
   split at h
   ·rename_i hb
    exact Lp hF (fun f' hf'=>by
     obtain rfl:f=f':=ae (hf.symm.trans hf')
     exact ((hF.get hf).cl q hq).2.1 hb) ho h
   ·rename_i x h7 hx
    obtain rfl:args= #[x]:=Zd hx
    split at h
    ·rename_i h9
     exact Uz hF (fun f' hf'=>by
      obtain rfl:f=f':=ae (hf.symm.trans hf')
      exact ((hF.get hf).cl q hq).2.2 h9) ho h
    ·rename_i h9
     have ⟨hb,h8⟩:=aj h
     rw[ah] at hb
     exact LJ (((hF.get hf).cl q hq).1.2.1 (by grind) h7 (by grind) h9) ho h8
   ·rename_i x y h7 hx
    obtain rfl:args= #[x,y]:=WV hx
    split at h
    ·rename_i hb
     exact Ux (((hF.get hf).cl q hq).1.2.2 hb) ho h
    ·have ⟨hb,h9⟩:=aj h
     exact P0 (((hF.get hf).cl q hq).1.1 hb) ho h9
   grind
  grind[Ln]
 ·grind[Lo,Lq]
 grind
theorem Mq (hT:TTok P V.tt) (hF:FTok P V.ft) (h:step V s k o=some res):Oks P w0 s o k res:=by
 unfold step at h
 split at h
 ·exact G8 (.inl ‹_›) h
 ·exact G8 (.inr ‹_›) h
 ·exact Pa ‹_› h
 ·exact TV ‹_› h
 ·exact TW ‹_› h
 ·have ho:= ‹o.op=_›
  split at h
  ·exact PY ho h
  ·split at h
   ·exact LF hT ho h
   ·exact LF hT ho h
   ·exact Fx hT ho h
   ·exact Fx hT ho h
   ·exact Fx hT ho h
   ·exact P5 hT ho h
   ·exact KO hT ho h
 ·exact P6 hT ‹_› h
 ·exact Fl ‹_› h
 ·have ho:= ‹o.op=_›
  split at h
  ·split at h
   ·exact Jm hT ho h
   ·exact IX hT ho h
  ·exact Au hT ho h
  ·exact Au hT ho h
  ·exact IU hT ho h
 ·have ho:= ‹o.op=_›
  split at h
  ·exact I5 hT ho h
  ·exact I6 hT ho h
  ·exact KP hT ho h
 ·have ho:= ‹o.op=_›
  split at h
  ·exact KQ hT ho h
  ·split at h
   ·exact Ml hT ho h
   ·exact KY hT ho h
  ·exact Dz hT ho h
  ·exact Dz hT ho h
  ·exact KX hT ho h
 ·have ho:= ‹o.op=_›
  split at h
  ·split at h
   ·exact I1 hT ho h
   ·split at h
    ·exact Jr hT ho h
    ·exact IY hT ho h
  ·exact IW hT ho h
 ·exact PA ‹_› h
 ·exact Jg hT ‹_› h
 ·have ho:= ‹o.op=_›
  split at h
  ·exact vD hT ho h
  ·exact vD hT ho h
  ·split at h
   ·exact vD hT ho h
   ·split at h
    ·split at h
     ·exact Jl hT ho h
     ·cases h
    ·split at h
     ·split at h
      ·exact I9 hT ho h
      ·exact Ja hT ho h
     ·split at h
      ·exact Jb hT ho h
      ·exact I8 hT ho h
  ·exact Jn hT ho h
  ·exact I7 hT ho h
 ·exact TY ‹_› h
 ·exact KV hT ‹_› h
 ·exact KZ hT ‹_› h
 ·exact T2 hT ‹_› h
 ·exact Pf hT ‹_› h
 ·exact Qf hT hF ‹_› h
 ·exact Lt ‹_› h
 ·exact UD hT ‹_› h
 ·have ho:= ‹o.op=_›
  split at h
  ·exact Pb hT ho h
  ·exact Mi hT ho h
 ·exact Hx hT (.inl ‹_›) h
 ·exact Hx hT (.inr ‹_›) h
 ·exact Mo hT ‹_› h
 ·cases h
end
inductive Gd
 | no | skip | bad
 | yes (t:Nat) (b neg want:Bool)
def guardOf (ops:List Oper) (s:Sg) (o:Oper):Gd:=match o.guard with
 | none=>.no
 | some (g,want)=>match ops[g]? with
  | some p=>match p.dst with
   | some t=>match look s.env t with
    | some (.one (.val (.bool b)))=>.yes t b false want
    | some (.one (.nb b))=>.yes t b true want
    | some .und=>.skip
    | _=>.bad
   | none=>.bad
  | none=>.bad
def FK (s:Sg) (t:Nat) (b:Bool):Sg:=⟨(t,s.nxt,.one (.val (.bool b)))::s.env,s.chs,s.nxt+1⟩
def ym:AV->List Hdr
 | .one (.own h)=>[h]
 | .agg xs=>xs.flatMap fun x=>match x with | .own h=>[h] | _=>[]
 | .elo h _ _ _ _ _ _ _=>[h]
 | _=>[]
def uq:List Hdr->Sg->Sg
 | [],s=>s
 | h::hs,s=>uq hs (settle 4 h s)
def Ax (s:Sg):List Operand->List Hdr
 | [] =>[]
 | x::xs=>(match opd s x with | some v=>ym v | none=>[])++Ax s xs
def Ze (o:Oper):List Operand:=match o.op with
 | .store _ _ y=>[y]
 | .build _ parts=>parts.toList.map (·.2)
 | .buildSlice _ _ parts=>parts.toList.map (·.2)
 | .call c=>c.args.toList
 | .box _ x=>[x]
 | .binOp _ _ x _ _=>[x]
 | .nilCheck x=>[x]
 | _=>[]
def ZY (o:Bool):AV->List (Bool×Hdr)
 | .one (.own h)=>[(false,h)]
 | .one (.ptr h off)=>if o&&Nat.beq off 0 then [(true,h)] else []
 | .agg xs=>xs.flatMap fun x=>match x with | .own h=>[(false,h)] | .ptr h off=>if o&&Nat.beq off 0 then [(true,h)] else [] | _=>[]
 | _=>[]
def YF (s:Sg) (o:Bool):List Operand->List (Bool×Hdr)
 | [] =>[]
 | x::xs=>(match opd s x with | some v=>ZY o v | none=>[])++YF s o xs
def keeps (o:Oper):Bool:=match o.op with
 | .binOp _ _ _ _ _=>false
 | .nilCheck _=>false
 | _=>true
def Mr:List LV->List (Bool×Hdr)
 | [] =>[]
 | .own h::l=>(false,h)::Mr l
 | _::l=>Mr l
def ldH (s:Sg) (o:Oper):List (Bool×Hdr):=match o.op with
 | .load _ x=>match opd s x with
  | some (.one (.ptr h _))=>match pj h s.chs with
   | some b=>Mr b.cells
   | none=>[]
  | _=>[]
 | _=>[]
def Qg:Trs->Bool
 | [] =>false
 | q::l=>Nat.beq q.2.1 0 || Qg l
def ldF (tr:Trs) (s:Sg) (o:Oper):List (Bool×Hdr):=match Qg tr with
 | true=>ldH s o
 | false=>[]
def Ms:Trs->Trs
 | [] =>[]
 | q::l=>match Nat.beq q.2.1 0 with
  | true=>Ms l
  | false=>q::Ms l
def Zf (s:Sg) (o:Oper):Bool:=match o.op with
 | .store _ x _=>match opd s x with
  | some (.one (.ptr _ _))=>true
  | _=>false
 | .call c=>match c.callee with
  | .value _=>false
  | .builtin .len=>false
  | _=>true
 | _=>false
def Zg (s:Sg) (q:Bool×Hdr):Bool:=match pull q.2 s.chs with
 | some r=>(match r.1.2.2 with
  | .own (.tree _ _ _) _=>true
  | _=>false)
 | none=>false
def aam (b:Bool) (s:Sg) (o:Oper):List (Bool×Hdr):=match b,o.op with
 | true,.assign x=>(YF s false [x]).filter (Zg s)
 | _,_=>[]
def ZZ (tr:Trs) (s:Sg) (o:Oper):List (Bool×Hdr):=match Qg tr&&Zf s o with
 | true=>[]
 | false=>aam (Qg tr) s o++YF s (keeps o) (Ze o)
def Mt:Trs->Trs
 | [] =>[]
 | q::l=>match q.2.2 with
  | .str=>Mt l
  | _=>q::Mt l
def WW:Trs->Bool
 | [] =>false
 | q::l=>(match q.2.2 with
  | .raw=>true
  | _=>false) || WW l
def aan (tr:Trs) (s:Sg) (o:Oper):List (Bool×Hdr):=match WW tr,o.op with
 | true,.assign x=>YF s false [x]
 | _,_=>[]
def Qh (tr:Trs) (o:Oper) (s:Sg):Sg:=match tr with
 | [] =>s
 | _=>PH (Mt tr) (aan tr s o++ZZ (Mt tr) s o) s
def YG (tr:Trs) (o:Oper) (s0:Sg):Sg:=match ql s0 with
 | s=>Qh tr o (Jo o (uq (Ax s o.op.operands.toList) s))
def Sf:List Ty->Bool
 | [.bag (.prod _ _)] =>true
 | _=>false
def tk (id:Nat):(ts:List Ty)->iV ts->AV
 | [.bag t],d=>BH id [.fro t] d
 | ts,d=>BH id ts d
def Mu {Y : Type} (ft : FT) (s : Sg) (k : Res -> Option Y) (g : FuncId) (xs : List Operand) : Option Y := (fs ft g).bind fun f => bw (!f.ov) <| (Dw s xs).bind fun vs => Dx ft s f vs fun L M R gh r =>
    k ⟨L, M, R, gV gh f.ps vs (hSnd f.rs (outs f.ps) (toH _ r)), tk s.nxt f.rs (hFst f.rs (outs f.ps) (toH _ r))⟩
def FL (ft:FT) (o:Oper):Option (FuncId×List Operand):=match o.op with
 | .call c=>match c.callee with
  | .value (.func g)=>(fs ft g).bind fun f=>match Sf f.rs with
   | true=>some (g,c.args.toList)
   | false=>none
  | _=>none
 | _=>none
section
variable {P:Program} {I:Hp} {w0 w:World} {F:Ch} {J:Hp} {θ:Th} {s:Sg} {a:Act}
theorem aao {α:Type} {R:Rep α} {cs:List Value} {d:α} {C:List Ch} (h:St J w0 w (Ch.own (Bu R) cs d::C)): ∃J',J.le J'/\St J' w0 w (Ch.own (qu R) cs d::C):=by
 have ⟨J',h1,h2,hb,hi,G,h4,h5,h6⟩:=h.freeze
 exact ⟨J',h1,hb,hi,[] ++G,⟨[],G,rfl,⟨rfl,h2⟩,h4⟩,h5,h6⟩
theorem Js {id n:Nat} (hid:id<n) {chs:List Ent} {v:Value} (hu:θ id=v) {C:List Ch} : ∀(ts:List Ty) (d:iV ts),Sf ts=true->resFa ts v->St J w0 w (resGv ts d v++C)->
  ∃J',J.le J'/\(tk id ts d).ok P w0 J' θ n chs/\(tk id ts d).v θ=v/\St J' w0 w C
 | [.bag (.prod a b)],d,_,hf,h=>by
  have h:St J w0 w (Ch.own (Bu (Ty.prod a b).rep) (jU (Ty.prod a b).isProd v) d.1::C):=h
  obtain ⟨J',h1,h2⟩:=aao h
  have h2:St J' w0 w (resGv [Ty.fro (Ty.prod a b)] d v++C):=h2
  obtain ⟨q1,q2,-,q4⟩:=BJ (P:=P) (m:=0) (chs:=chs) hid hu [Ty.fro (Ty.prod a b)] d C hf h2
  exact ⟨J',h1,q1,q2,q4⟩
theorem Mv {Y:Type} {V:Env} {res:Y} {Q:Exit->Act->World->Prop} {ops:Array Oper} {rest:List Oper} {o:Oper} {k:Res->Option Y} (hF:FTok P V.ft) {q:FuncId×List Operand} (hq:FL V.ft o=some q) (h:Mu V.ft s k q.1 q.2=some res) (hS:Sim P I w0 F V.n J θ s a w) (hg:o.guard=none) (hk:okO V.n s o=true)
  (K: ∀r J' θ' a' w',k r=some res->J.le J'->Sim P I w0 F V.n J' θ' (after s o.dst r) a' w'->Fr s θ (after s o.dst r) θ'->wpList P ops Q rest a' w'):wpList P ops Q (o::rest) a w:=by
 unfold FL at hq
 split at hq
 ·rename_i c ho
  obtain ⟨cal,args,tys⟩:=c
  split at hq
  ·rename_i g hc
   obtain rfl:cal= .value (.func g):=hc
   obtain ⟨f0,hf0,hq⟩:=bind_some hq
   split at hq
   ·rename_i hl
    cases ae hq
    obtain ⟨f,hf',h⟩:=bind_some h
    obtain rfl:f0=f:=ae (hf0.symm.trans hf')
    have ⟨hov,h⟩:=aj h
    have ⟨vs,hvs,h⟩:=bind_some h
    have hov:f0.ov=false:=by simpa using hov
    have hfo:=hF.get hf'
    have hcl:=BT (P:=P) (w0:=w0) (g:=g) hvs
    obtain ⟨L,M,R,r,a0,h,hp,ha,h1⟩:=uk (w0:=w0) hF (hfo.en hov) (fact:=fun _=>resFa f0.rs) (hfo.con hov) hcl ho h
    have hall: ∀e,e∈L\/e∈R->okE P w0 J θ s.nxt s.chs e:=fun e he=>hS.fine.chs e (hp.mem_iff.2 (by grind))
    have hp2:(s.chs.map (toCh P θ)++ [F]).Perm ((L.map (toCh P θ)++M.map (toCh P θ))++(R.map (toCh P θ)++ [F])):=by
     have:=(hp.map (toCh P θ)).append_right [F]
     grind
    have hnew:Newer s.nxt s.chs (Res.chs ⟨L,M,R,gV a0.gh f0.ps vs (hSnd f0.rs (outs f0.ps) (toH _ r)),tk s.nxt f0.rs (hFst f0.rs (outs f0.ps) (toH _ r))⟩ s.nxt):=Res.newer hp fun g hg ver c hs=>(dG g hg ver c hs).elim
    refine RG hS.agr hS.st hg (h1 J θ hS.fine) hp2 (KG hk) fun v a w hv A S=>?_
    have S1:St J w0 w (resGv f0.rs (hFst f0.rs (outs f0.ps) (toH _ r)) v++(outCh (ghV θ a0.gh) f0.ps (vs.map (·.v θ)) (hSnd f0.rs (outs f0.ps) (toH _ r))++(L.map (toCh P θ)++(R.map (toCh P θ)++ [F])))):=S.perm (by
     grind[aD,List.perm_append_comm_assoc])
    obtain ⟨J',hJ,q1,q2,S2⟩:=Js (P:=P) (n:=s.nxt+1) (chs:=Res.chs ⟨L,M,R,gV a0.gh f0.ps vs (hSnd f0.rs (outs f0.ps) (toH _ r)),tk s.nxt f0.rs (hFst f0.rs (outs f0.ps) (toH _ r))⟩ s.nxt) (au _) (fq (vs:=θ) (i:=s.nxt) (v:=v)) f0.rs (hFst f0.rs (outs f0.ps) (toH _ r)) hl hv S1
    have hfi:Fine P w0 J' θ s:=⟨fun e he=>AV.ok_same Same.rfl (ay _) Newer.rfl (hS.fine.env e he) hJ,hS.fine.ver,hS.fine.nd,fun e he=>dS Same.rfl (ay _) Newer.rfl (hS.fine.chs e he) hJ,hS.fine.lay.mono hJ⟩
    have ⟨b1,b2⟩:=jr (P:=P) (θ:=θ) (θ':=upd θ s.nxt v) (m:=s.nxt) hfi Same.upd (ay _) (hSnd f0.rs (outs f0.ps) (toH _ r)) ha (qG hcl J' θ hfi) (fun e he=>he) (fun q hq=>⟨hq,xX q hq⟩) S2
    refine K _ J' (upd θ s.nxt v) a w h hJ ⟨hS.le.trans hJ,?_,?_,fun e he=>?_,fun e he=>?_,Ak hfi.nd hfi.ver,fun e he=>?_,hfi.lay⟩ (Fr.put Same.upd hnew)
    ·rw[show envL (upd θ s.nxt v) (after s o.dst ⟨L,M,R,gV a0.gh f0.ps vs (hSnd f0.rs (outs f0.ps) (toH _ r)),tk s.nxt f0.rs (hFst f0.rs (outs f0.ps) (toH _ r))⟩)=Kl o.dst v (envL θ s) from xe (qA Same.upd hfi.env) q2];exact A
    ·have e:(after s o.dst ⟨L,M,R,gV a0.gh f0.ps vs (hSnd f0.rs (outs f0.ps) (toH _ r)),tk s.nxt f0.rs (hFst f0.rs (outs f0.ps) (toH _ r))⟩).chs.map (toCh P (upd θ s.nxt v))=((gV a0.gh f0.ps vs (hSnd f0.rs (outs f0.ps) (toH _ r))).map fun g=>toCh P (upd θ s.nxt v) (g.1,s.nxt,g.2))++(L.map (toCh P θ)++R.map (toCh P θ)):=by
      show (Res.chs _ s.nxt).map _=_
      unfold Res.chs
      rw[aM,aM,List.map_map,dU Same.upd fun e he=>hall e (.inl he),dU Same.upd fun e he=>hall e (.inr he)]
      rfl
     rw[e]
     refine b1.perm ?_
     simp only[aD]
     rfl
    ·rcases l7 he with h | h
     ·rw[h.1];exact q1
     ·exact AV.ok_same Same.upd (Nat.le_succ _) hnew (hfi.env e h) Hp.le.rfl
    ·rcases l7 he with h | h
     ·rw[h.2];exact au _
     ·exact aN (hfi.ver e h)
    ·rcases aH he with he | he
     ·obtain ⟨g,hg',rfl⟩:=List.mem_map.1 he
      exact BP (b2 g hg').1 (Nat.le_succ _) (aN (b2 g hg').2) (au _)
     ·exact dS Same.upd (Nat.le_succ _) hnew (hfi.chs e (hp.mem_iff.2 (by grind))) Hp.le.rfl
   ·cases hq
  ·cases hq
 ·cases hq
end
section
variable {Y:Type} (V:Env) (all:List Oper) (k:Sg->Option Y)
noncomputable def Qi (kont:Sg->Option Y) (o:Oper) (s:Sg):Option Y:=match guardOf all s o with
 | .bad=>none
 | .no=>bw (okO V.n s o) (match Uo V.tt s o with
  | some q=>R9 q.2.xs.length fun c=>kont (after s o.dst (Sa q c))
  | none=>match FL V.ft o with
   | some q=>Mu V.ft s (fun r=>kont (after s o.dst r)) q.1 q.2
   | none=>step V s (fun r=>kont (after s o.dst r)) o)
 | .skip=>bw (dstOk V.n o.dst) (kont (skip s o.dst))
 | .yes t b neg want=>if b then (match (!neg)==want with
   | true=>bw (okO V.n (FK s t (!neg)) o) (step V (FK s t (!neg)) (fun r=>kont (after (FK s t (!neg)) o.dst r)) o)
   | false=>bw (dstOk V.n o.dst) (kont (skip (FK s t (!neg)) o.dst)))
  else (match neg==want with
   | true=>bw (okO V.n (FK s t neg) o) (step V (FK s t neg) (fun r=>kont (after (FK s t neg) o.dst r)) o)
   | false=>bw (dstOk V.n o.dst) (kont (skip (FK s t neg) o.dst)))
noncomputable def Hy:List Oper->Sg->Option Y
 | [],s=>k s
 | o::os,s=>Qi V all (Hy os) o (YG V.tr o s)
end
section
variable {Y:Type} {V:Env} {P:Program} {I:Hp} {w0 w:World} {F:Ch} {J:Hp} {θ:Th} {s:Sg} {a:Act} {res:Y} {Q:Exit->Act->World->Prop}
theorem Jt {h:Hdr} {s':Sg} (hs:Fq h s=some s') (hS:Sim P I w0 F V.n J θ s a w):Fr s θ s' θ:=by
 have ⟨r,hr,hs⟩:=bind_some hs
 have ⟨q,hq,hs⟩:=bind_some hs
 have hp:=uc hr
 have ⟨l,ver,hl,hp2,hu⟩:=Dj hq
 cases hb:q.1 with
 | true =>
  rw[hb] at hs
  cases ae (show some _=some s' from hs)
  refine ⟨Nat.le_succ _,Same.rfl,fun e he _=>he,fun e he h' ver' c hs'=>?_⟩
  rcases az he with rfl | he
  ·obtain ⟨rfl,hs'⟩:=hs'
   rcases hs' with ⟨rfl,rfl⟩ | hs'
   ·exact .inr ⟨r.ent h,hp.mem_iff.2 (by simp),rfl,.inr ⟨rfl,rfl⟩⟩
   ·exact hs'.elim
  grind
 | false =>
  rw[hb] at hs
  cases ae (show some _=some s' from hs)
  refine ⟨Nat.le_succ _,Same.rfl,fun e he _=>he,fun e he h' ver' c hs'=>?_⟩
  rcases az he with rfl | he
  ·obtain ⟨rfl,hs'⟩:=hs'
   rcases hs' with ⟨rfl,rfl⟩ | hs'
   ·grind
   ·exact hs'.elim
  grind
theorem DN: ∀ {m:Nat} {h:Hdr} {s:Sg},Sim P I w0 F V.n J θ s a w->Fr s θ (settle m h s) θ
 | 0,_,_,hS=>Fr.rfl
 | m+1,h,s,hS=>by
  unfold settle
  split
  ·split
   ·split
    ·rename_i hs
     exact (DN hS).trans (Jt hs (xR hS))
    ·exact Fr.rfl
   ·exact Fr.rfl
  ·exact Fr.rfl
theorem rQ: ∀ {hs:List Hdr} {s:Sg},Sim P I w0 F V.n J θ s a w->Sim P I w0 F V.n J θ (uq hs s) a w/\Fr s θ (uq hs s) θ
 | [],s,hS=>⟨hS,Fr.rfl⟩
 | h::hs,s,hS=>by
  have ⟨k1,k2⟩:=rQ (hs:=hs) (xR (m:=4) (h:=h) hS)
  exact ⟨k1,(DN hS).trans k2⟩
theorem UF {t:Nat} {b:Bool} (hS:Sim P I w0 F V.n J θ s a w) (hv':(envL θ s).lookup t=some (.bool b)):Sim P I w0 F V.n J θ (FK s t b) a w/\Fr s θ (FK s t b) θ:=by
 refine ⟨⟨hS.le,hS.agr.sub fun u v h=>?_,hS.st,fun e he=>?_,fun e he=>?_,Ak (d:=some t) (av:=.one (.val (.bool b))) hS.fine.nd hS.fine.ver,fun e he=>dS Same.rfl (Nat.le_succ _) Newer.rfl (hS.fine.chs e he) Hp.le.rfl,hS.fine.lay⟩,Nat.le_succ _,Same.rfl,fun e he h=>?_,Newer.rfl⟩
 ·have h:List.lookup u ((t,Value.bool b)::envL θ s)=some v:=h
  grind
 ·rcases az he with rfl | he
  ·rfl
  ·exact AV.ok_same Same.rfl (Nat.le_succ _) Newer.rfl (hS.fine.env e he) Hp.le.rfl
 ·rcases az he with rfl | he
  ·exact au _
  ·exact aN (hS.fine.ver e he)
 ·rcases az he with rfl | he
  ·grind
  omega
theorem Qj {ops:Array Oper} {o:Oper} :match guardOf ops.toList s o with
  | .no=>o.guard=none
  | .skip=> ∃g want d,o.guard=some (g,want)/\(ops[g]?).bind (·.dst)=some d/\(envL θ s).lookup d=some undef
  | .yes t b neg want=> ∃g,o.guard=some (g,want)/\(ops[g]?).bind (·.dst)=some t/\(envL θ s).lookup t=some (.bool (if neg then !b else b))
  | .bad=>True:=by
 unfold guardOf
 cases hg:o.guard with
 | none=>rfl
 | some gw =>
  have ⟨g,want⟩:=gw
  simp only
  cases hp:ops.toList[g]? with
  | none=>trivial
  | some p =>
   simp only
   cases hd:p.dst with
   | none=>trivial
   | some t =>
    simp only
    have hd':(ops[g]?).bind (·.dst)=some t:=by
     rw[<-Array.getElem?_toList,hp];exact hd
    cases hl:look s.env t with
    | none=>trivial
    | some v =>
     have hv':=gl (θ:=θ) hl
     cases v with
     | one x =>
      cases x with
      | val u =>
       cases u with
       | bool b=>exact ⟨g,rfl,hd',hv'⟩
       | _=>trivial
      | nb b=>exact ⟨g,rfl,hd',hv'⟩
      | _=>trivial
     | und=>exact ⟨g,want,t,rfl,hd',hv'⟩
     | _=>trivial
theorem B8 {o:Oper} {r:Res} (hG:GoodA P w0 J θ s o r) (hS:Sim P I w0 F V.n J θ s a w) {θ':Th} (hs:Same s.nxt θ θ'):Fr s θ (after s o.dst r) θ' :=
 Fr.put hs (Res.newer hG.perm hG.says)
theorem Qk (hT:TTok P V.tt) (hF:FTok P V.ft) {ops:Array Oper} {rest:List Oper} {o:Oper} {kont:Sg->Option Y} (h:Qi V ops.toList kont o s=some res) (hS:Sim P I w0 F V.n J θ s a w)
  (K': ∀s' J' θ' a' w',kont s'=some res->J.le J'->Sim P I w0 F V.n J' θ' s' a' w'->Fr s θ s' θ'->wpList P ops Q rest a' w'):wpList P ops Q (o::rest) a w:=by
 have K: ∀s' θ' a' w',kont s'=some res->Sim P I w0 F V.n J θ' s' a' w'->Fr s θ s' θ'->wpList P ops Q rest a' w':=fun s' θ' a' w' h1=>K' s' J θ' a' w' h1 Hp.le.rfl
 have hg:=Qj (θ:=θ) (s:=s) (ops:=ops) (o:=o)
 have run: ∀s1,Sim P I w0 F V.n J θ s1 a w->Fr s θ s1 θ->(∀g want,o.guard=some (g,want)-> ∃d,(ops[g]?).bind (·.dst)=some d/\(envL θ s1).lookup d=some (.bool want))->bw (okO V.n s1 o) (step V s1 (fun r=>kont (after s1 o.dst r)) o)=some res->wpList P ops Q (o::rest) a w:=by
  intro s1 hS1 hF1 hgd h
  have ⟨hk,h⟩:=aj h
  obtain ⟨r,hr,hG⟩:=Mq hT hF h
  cases hgo:o.guard with
  | none=>exact RN (hG.at hS1.fine) hS1 hgo hk fun θ' a' w' hs hS'=>K _ θ' a' w' hr hS' (hF1.trans (B8 (hG.at hS1.fine) hS1 hs))
  | some gw =>
   have ⟨g,want⟩:=gw
   have ⟨d,hd,hv'⟩:=hgd g want hgo
   exact TP (hG.at hS1.fine) hS1 hgo hd hv' rfl hk fun θ' a' w' hs hS'=>K _ θ' a' w' hr hS' (hF1.trans (B8 (hG.at hS1.fine) hS1 hs))
 have skp: ∀s1,Sim P I w0 F V.n J θ s1 a w->Fr s θ s1 θ-> ∀g want d b,o.guard=some (g,want)->(ops[g]?).bind (·.dst)=some d->(envL θ s1).lookup d=some (.bool b)->b=(!want)->bw (dstOk V.n o.dst) (kont (skip s1 o.dst))=some res->wpList P ops Q (o::rest) a w:=by
  intro s1 hS1 hF1 g want d b hgo hd hv' hb h
  have ⟨hk,h⟩:=aj h
  exact O8 hS1 hgo hd hv' hb hk fun a' hS'=>K _ θ a' w h hS' (hF1.trans (Fr.put Same.rfl Newer.rfl))
 unfold Qi at h
 split at h
 ·cases h
 ·have ⟨hk,h9⟩:=aj h
  split at h9
  ·rename_i q hq
   have ⟨q1,q2,hG⟩:=PX hT hq hS
   grind[FG,RN,B8]
  ·split at h9
   ·rename_i hq
    exact Mv hF hq h9 hS (by rename_i hgo _ _ _ _;rw[hgo] at hg;exact hg) hk fun r J' θ' a' w' h1 h2 h3 h4=>K' _ J' θ' a' w' h1 h2 h3 h4
   ·refine run s hS Fr.rfl (fun g want e=>by grind) ?_
    rw[hk];exact h9
 ·rename_i hgo
  rw[hgo] at hg
  have ⟨g,want,d,h1,h2,h3⟩:=hg
  have ⟨hk,h⟩:=aj h
  exact IR hS h1 h2 h3 hk fun a' hS'=>K _ θ a' w h hS' (Fr.put Same.rfl Newer.rfl)
 ·rename_i t b neg want hgo
  have both: ∀c:Bool,(envL θ s).lookup t=some (.bool c)->(match c==want with
    | true=>bw (okO V.n (FK s t c) o) (step V (FK s t c) (fun r=>kont (after (FK s t c) o.dst r)) o)
    | false=>bw (dstOk V.n o.dst) (kont (skip (FK s t c) o.dst)))=some res->wpList P ops Q (o::rest) a w:=by
   intro c hc h
   have ⟨q1,q2⟩:=UF hS hc
   have hlk:(envL θ (FK s t c)).lookup t=some (.bool c):=by
    show List.lookup t ((t,Value.bool c)::envL θ s)=_
    grind
   split at h
   ·grind
   ·grind
  grind
theorem UG {tr:Trs} {o:Oper} (hS:Sim P I w0 F V.n J θ s a w): ∃J' θ',J.le J'/\Sim P I w0 F V.n J' θ' (YG tr o s) a w/\Fr s θ (YG tr o s) θ':=by
 have ⟨θ1,S1,F1⟩:=xh hS
 have ⟨S2,F2⟩:=rQ (hs:=Ax (ql s) o.op.operands.toList) S1
 have ⟨J2,hJ2,S3,F3⟩:=P9 (o:=o) S2
 show∃J' θ',J.le J'/\Sim P I w0 F V.n J' θ' (Qh tr o (Jo o (uq (Ax (ql s) o.op.operands.toList) (ql s)))) a w/\Fr s θ (Qh tr o (Jo o (uq (Ax (ql s) o.op.operands.toList) (ql s)))) θ'
 unfold Qh
 split
 ·exact ⟨J2,θ1,hJ2,S3,(F1.trans F2).trans F3⟩
 ·obtain ⟨J',θ',h1,h2,h3⟩:=tg S3
  exact ⟨J',θ',hJ2.trans h1,h2,((F1.trans F2).trans F3).trans h3⟩
theorem DO (hT:TTok P V.tt) (hF:FTok P V.ft) {ops:Array Oper} {k:Sg->Option Y} : ∀ {l:List Oper} {s:Sg} {J:Hp} {θ:Th} {a:Act} {w:World},Hy V ops.toList k l s=some res->Sim P I w0 F V.n J θ s a w->
  (∀s' J' θ' a' w',k s'=some res->Sim P I w0 F V.n J' θ' s' a' w'->J.le J'->Fr s θ s' θ'->Q .normal a' w')->wpList P ops Q l a w
 | [],s,J,θ,a,w,h,hS,K=>wpList_nil (K s J θ a w h hS Hp.le.rfl Fr.rfl)
 | o::os,s,J,θ,a,w,h,hS,K=>by
  have ⟨J1,θ1,q0,q1,q2⟩:=UG (tr:=V.tr) (o:=o) hS
  exact Qk hT hF (show Qi V ops.toList (Hy V ops.toList k os) o (YG V.tr o s)=some res from h) q1 fun s' J' θ' a' w' hk hJ' hS' hFr =>
   DO hT hF hk hS' fun s2 J2 θ2 a2 w2 hk2 hS2 hJ2 hFr2=>K s2 J2 θ2 a2 w2 hk2 hS2 ((q0.trans hJ').trans hJ2) ((q2.trans hFr).trans hFr2)
end
end R
namespace R
open Go.RowKit
open D
inductive Knd
 | num (k:IntKind) | boo | str
 | rd (E:TypeId) (t:Ty)
 | own (E:TypeId) (t:Ty)
 | map (d:MD)
 | tre (T E:TypeId) (t:Ty)
 | bx (T:TypeId) (k:IntKind)
def Knd.den:Knd->Type
 | .num _=>Int
 | .boo=>Bool
 | .str=>ByteArray
 | .rd _ t=>List t.den
 | .own _ t=>List t.den
 | .map d=>List (d.k.den×d.e.den)
 | .tre _ _ t=>Tr t.den
 | .bx _ _=>Int
def WX {a b:MD} (h:a=b) (m:List (a.k.den×a.e.den)):List (b.k.den×b.e.den):=h ▸ m
def DP (d:MD) (x:LV) (chs:List Ent):Option (List (d.k.den×d.e.den)×List Ent):=match x with
 | .own h=>(YE h chs).bind fun r=>if h:MD.beq r.md d=true then some (WX (MD.beq_eq h) r.m,r.rest) else none
 | _=>none
theorem DQ {d:MD} {x:LV} {chs:List Ent} {q:List (d.k.den×d.e.den)×List Ent} (h:DP d x chs=some q): ∃hh ver,x= .own hh/\chs.Perm ((hh,ver,d.ck q.1)::q.2):=by
 unfold DP at h
 split at h
 ·rename_i hh
  have ⟨r,hr,h⟩:=bind_some h
  have hp:=FJ hr
  have ⟨ver,md,m,rest⟩:=r
  split at h
  ·rename_i he
   cases MD.beq_eq he
   cases ae h
   exact ⟨hh,ver,rfl,hp⟩
  grind
 grind
def Hz (T:TypeId) (k:IntKind) (x:LV) (chs:List Ent):Option (Int×List Ent):=match x with
 | .ptr h off=>bw (Nat.beq off 0) ((pj h chs).bind fun b=>bw (Nat.beq b.T T) (match b.cells with
  | [c] =>(BA k c).bind fun d=>some (d,b.rest)
  | _=>none))
 | _=>none
theorem DR {T:TypeId} {k:IntKind} {x:LV} {chs:List Ent} {q:Int×List Ent} (h:Hz T k x chs=some q): ∃hh ver c,x= .ptr hh 0/\BA k c=some q.1/\chs.Perm ((hh,ver,.blk T [c])::q.2):=by
 cases x with
 | ptr hh off =>
  have ⟨h0,h⟩:=aj (show bw (Nat.beq off 0) _=some q from h)
  cases aq h0
  have ⟨b,hb,h2⟩:=bind_some h
  have ⟨h1,h3⟩:=aj h2
  have hp:=jq hb
  have ⟨ver,T',cells,rest⟩:=b
  obtain rfl:T'=T:=aq h1
  match cells,h3,hp with
  | [c],h,hp =>
   have ⟨d,hd,h4⟩:=bind_some (show (BA k c).bind _=some q from h)
   cases ae h4
   exact ⟨hh,ver,c,rfl,hd,hp⟩
  | [],h,_=>cases h
  | _::_::_,h,_=>cases h
 | _=>cases h
def Si:List Knd->Type
 | [] =>Unit
 | [k] =>k.den
 | k::l::ks=>k.den×Si (l::ks)
def pY:List Knd->Type
 | [] =>Unit
 | k::ks=>k.den×pY ks
def toN:(ks:List Knd)->Si ks->pY ks
 | [],_=>()
 | [_],d=>(d,())
 | _::l::ks,d=>(d.1,toN (l::ks) d.2)
def ofN:(ks:List Knd)->pY ks->Si ks
 | [],_=>()
 | [_],d=>d.1
 | _::l::ks,d=>(d.1,ofN (l::ks) d.2)
theorem oj: ∀(ks:List Knd) (d:pY ks),toN ks (ofN ks d)=d
 | [],_=>rfl
 | [_],_=>rfl
 | _::l::ks,d=>congrArg (Prod.mk d.1) (oj (l::ks) d.2)
def Sj (k:Knd) (x:LV) (chs:List Ent):Option (k.den×List Ent):=match k with
 | .num k=>(BA k x).bind fun d=>some (d,chs)
 | .boo=>(Al x).bind fun d=>some (d,chs)
 | .str=>(IV x).bind fun d=>some (d,chs)
 | .rd E t=>(Pc E t x).bind fun d=>some (d,chs)
 | .own E t=>(ua E t x chs).bind fun q=>some (q.1,q.2.2)
 | .map d=>DP d x chs
 | .tre T E t=>(V1 T E t x).bind fun d=>some (d,chs)
 | .bx T k=>Hz T k x chs
def YH (id:Nat):(k:Knd)->k.den->LV
 | .num k,d=>.val (.int k d)
 | .boo,d=>.val (.bool d)
 | .str,d=>.val (.string d)
 | .rd E t,d=>.rd ⟨id,[]⟩ (.sl E t) d
 | .own _ _,_=>.own ⟨id,[]⟩
 | .map _,_=>.own ⟨id,[]⟩
 | .tre T E t,d=>.rd ⟨id,[]⟩ (.tree T E t) d
 | .bx _ _,_=>.ptr ⟨id,[]⟩ 0
def V4 (id ver:Nat):(k:Knd)->k.den->List Ent
 | .own E t,d=>[(⟨id,[]⟩,ver,.own (.sl E t) d)]
 | .map md,d=>[(⟨id,[]⟩,ver,md.ck d)]
 | .bx T k,d=>[(⟨id,[]⟩,ver,.blk T [.val (.int k d)])]
 | _,_=>[]
def zR:(ks:List Knd)->List LV->List Ent->Option (pY ks×List Ent)
 | [],[],chs=>some ((),chs)
 | k::ks,x::xs,chs=>(Sj k x chs).bind fun q=>(zR ks xs q.2).bind fun r=>some ((q.1,r.1),r.2)
 | _,_,_=>none
def B9 (id:Nat):(ks:List Knd)->pY ks->List LV
 | [],_=>[]
 | k::ks,d=>YH id k d.1::B9 (id+1) ks d.2
def Ca (id ver:Nat):(ks:List Knd)->pY ks->List Ent
 | [],_=>[]
 | k::ks,d=>V4 id ver k d.1++Ca (id+1) ver ks d.2
section
variable {P:Program} {w0 w:World} {J:Hp} {θ:Th} {n:Nat} {C:List Ch}
theorem St.bun {ls:List Ch} {α:Type} {R:Rep α} {cs:List Value} {x:α} (h:St J w0 w (ls++C)) (hb:Bun J ls R cs x):St J w0 w (Ch.own R cs x::C):=by
 have ⟨h1,h2,F,h3,h4,h5⟩:=h
 obtain ⟨G,K,rfl,e1,e2⟩:=h3.split
 exact ⟨h1,h2,G++K,⟨G,K,rfl,hb w G e1,e2⟩,h4,h5⟩
theorem Ql {α:Type} {R:Rep α} {u:Value} {x:α} (h:St J w0 w (Ch.own R [u] x::C)):u.oneCell'=true:=by
 obtain ⟨h1,h2,F,⟨G,K,rfl,k,e⟩,h4,h5⟩:=h
 exact R.own_one k u (by simp)
theorem UH {k:Knd} {x:LV} {chs:List Ent} {q:k.den×List Ent} (h:Sj k x chs=some q) (hx:x.ok P w0 J θ n) (hS:St J w0 w (chs.map (toCh P θ)++C)) {θ':Th} {id ver m:Nat} (hid:θ' id=x.v θ) (hm:id<m) :
  (YH id k q.1).ok P w0 J θ' m/\(YH id k q.1).v θ'=x.v θ/\St J w0 w ((V4 id ver k q.1).map (toCh P θ')++(q.2.map (toCh P θ)++C))/\ ∀e∈q.2,e∈chs:=by
 have hh:hv θ' ⟨id,[]⟩=x.v θ:=hid
 cases k with
 | num k =>
  have ⟨d,hd,h⟩:=bind_some (show (BA k x).bind _=some q from h)
  cases ae h
  exact ⟨Eq.refl true,(BB hd θ).symm,hS,fun e he=>he⟩
 | boo =>
  have ⟨d,hd,h⟩:=bind_some (show (Al x).bind _=some q from h)
  cases ae h
  exact ⟨Eq.refl true,(Df hd θ).symm,hS,fun e he=>he⟩
 | str =>
  have ⟨d,hd,h⟩:=bind_some (show (IV x).bind _=some q from h)
  cases ae h
  exact ⟨Eq.refl true,(G9 hd θ).symm,hS,fun e he=>he⟩
 | rd E t =>
  have ⟨d,hd,h⟩:=bind_some (show (Pc E t x).bind _=some q from h)
  cases ae h
  refine ⟨⟨hm,?_⟩,hh,hS,fun e he=>he⟩
  grind[xL]
 | tre T E t =>
  have ⟨d,hd,h⟩:=bind_some (show (V1 T E t x).bind _=some q from h)
  cases ae h
  refine ⟨⟨hm,?_⟩,hh,hS,fun e he=>he⟩
  grind[Fm]
 | own E t =>
  have ⟨r,hr,h⟩:=bind_some (show (ua E t x chs).bind _=some q from h)
  cases ae h
  have ⟨p,hb⟩:=xN hr P J θ
  have h1:St J w0 w (Ch.own (Ty.sl E t).rep [x.v θ] r.1::(r.2.2.map (toCh P θ)++C)):=by
   refine St.bun ?_ hb
   have:=hS.perm ((p.map (toCh P θ)).append_right C)
   grind
  refine ⟨⟨hm,by grind[Ql]⟩,hh,?_,fun e he=>p.mem_iff.2 (by grind)⟩
  show St J w0 w (Ch.own _ [hv θ' ⟨id,[]⟩] _::_)
  simp_all
 | map d =>
  obtain ⟨h0,ver0,rfl,p⟩:=DQ (show DP d x chs=some q from h)
  have h1:St J w0 w (toCh P θ (h0,ver0,d.ck q.1)::(q.2.map (toCh P θ)++C)):=by
   have:=hS.perm ((p.map (toCh P θ)).append_right C)
   exact this
  have e0:hv θ h0=LV.v θ (.own h0):=rfl
  have h2:St J w0 w (@Ch.mp P d.K d.E d.k.den d.e.den d.k.dec d.k.lit d.k.ok d.e.lit d.e.z (hv θ h0) (show List (d.k.den×d.e.den) from q.1)::(q.2.map (toCh P θ)++C)):=h1
  refine ⟨⟨hm,by rw[hh];exact hx.2⟩,hh,?_,fun e he=>p.mem_iff.2 (by grind)⟩
  show St J w0 w (@Ch.mp P d.K d.E d.k.den d.e.den d.k.dec d.k.lit d.k.ok d.e.lit d.e.z (hv θ' ⟨id,[]⟩) (show List (d.k.den×d.e.den) from q.1)::_)
  simp_all
 | bx T k =>
  obtain ⟨h0,ver0,c,rfl,hc,p⟩:=DR (show Hz T k x chs=some q from h)
  have h1:=hS.perm ((p.map (toCh P θ)).append_right C)
  have e0:bk (hv θ' ⟨id,[]⟩)=bk (hv θ h0):=by rw[hh];rfl
  refine ⟨hm,?_,?_,fun e he=>p.mem_iff.2 (by grind)⟩
  ·show Value.pointer (some ⟨bk (hv θ' ⟨id,[]⟩),0,none⟩)=_
   rw[e0];rfl
  ·show St J w0 w (Ch.blk (bk (hv θ' ⟨id,[]⟩)) [.int k _] T::_)
   rw[e0,<-BB hc θ];exact h1
theorem xi: ∀ {ks:List Knd} {xs:List LV} {chs:List Ent} {q:pY ks×List Ent} {id ver:Nat} {C:List Ch},zR ks xs chs=some q->(∀x∈xs,x.ok P w0 J θ n)->St J w0 w (chs.map (toCh P θ)++C)-> ∀ {θ':Th} {m:Nat},(∀i x,xs[i]? =some x->θ' (id+i)=x.v θ)->id+ks.length<=m->
  (∀x∈B9 id ks q.1,x.ok P w0 J θ' m)/\(B9 id ks q.1).map (·.v θ')=xs.map (·.v θ)/\St J w0 w ((Ca id ver ks q.1).map (toCh P θ')++(q.2.map (toCh P θ)++C))/\ ∀e∈q.2,e∈chs
 | [],[],chs,q,id,ver,C,h,_,hS,θ',m,_,_=>by
  cases ae (show some _=some q from h)
  exact ⟨fun x hx=>(by cases hx),rfl,hS,fun e he=>he⟩
 | k::ks,x::xs,chs,q,id,ver,C,h,hx,hS,θ',m,hid,hm=>by
  have ⟨a,ha,h⟩:=bind_some (show (Sj k x chs).bind _=some q from h)
  have ⟨b,hb,h⟩:=bind_some h
  cases ae h
  have hm':id<m:=by rw[aB] at hm;omega
  have ⟨a1,a2,a3,a4⟩:=UH (ver:=ver) ha (hx x (by simp)) hS (θ':=θ') (id:=id) (m:=m) (hid 0 x rfl) hm'
  have ⟨b1,b2,b3,b4⟩:=xi (id:=id+1) (ver:=ver) (C:=(V4 id ver k a.1).map (toCh P θ')++C) hb (fun y hy=>hx y (by grind)) (a3.perm (List.perm_append_comm_assoc _ _ _)) (θ':=θ') (m:=m) (fun i y hy=>by
   have:=hid (i+1) y hy
   grind) (by grind)
  refine ⟨fun y hy=>?_,?_,?_,fun e he=>a4 e (b4 e he)⟩
  ·rcases az hy with rfl | hy
   ·exact a1
   grind
  ·grind[LV.v,B9]
  ·refine b3.perm ?_
   grind[List.perm_append_comm_assoc,Ca,toCh,V4,aD]
 | [],_::_,chs,q,id,ver,C,h,_,_,_,_,_,_=>by cases h
 | _::_,[],chs,q,id,ver,C,h,_,_,_,_,_,_=>by cases h
end
inductive It
 | slot (t:Nat) (k:Knd)
 | box (t:Nat) (ks:List Knd)
 | row (t:Nat) (E:TypeId) (u:Ty)
 | agg (t:Nat) (ks:List Knd)
 | par (i:Nat) (p:List Nat) (E:TypeId) (u:Ty)
 | gone (t:Nat)
 | cur (t:Nat)
 | pbx (i:Nat) (ks:List Knd)
def It.s (t:Nat):It:=.slot t (.num .i64)
inductive RIt
 | slot (t:Nat) (k:Knd)
 | box (h:Hdr) (T:TypeId) (ks:List Knd)
 | row (h:Hdr) (E:TypeId) (u:Ty)
 | agg (t:Nat) (k:Knd) (ks:List Knd)
 | cur (h:Hdr) (T:TypeId) (g:Hdr) (E:TypeId) (xs:List Int)
def RIt.ks:RIt->List Knd
 | .slot _ k=>[k]
 | .box _ _ ks=>ks
 | .row _ E u=>[.own E u]
 | .agg _ k ks=>k::ks
 | .cur _ _ _ _ _=>[.num .i64,.num .i64]
def qm:List RIt->List Knd
 | [] =>[]
 | r::rs=>r.ks++qm rs
def ON:Option AV->Option Hdr
 | some (.one (.ptr h off))=>if Nat.beq off 0 then some h else none
 | _=>none
def WY:Option AV->Option Hdr
 | some (.one (.own h))=>some h
 | _=>none
theorem UI {v:Option AV} {h:Hdr} (k:WY v=some h):v=some (.one (.own h)):=by
 unfold WY at k
 grind
def WZ (h:Hdr) (chs:List Ent):Option (Hdr×TypeId×TypeId×List Int):=(pull h chs).bind fun r=>match r.1.2.2 with
 | .blk T [.rd g (.sl E (.int .u8)) xs,_,_] =>some (g,T,E,xs)
 | _=>none
theorem HA {h g:Hdr} {T E:TypeId} {xs:List Int} {chs:List Ent} (k:WZ h chs=some (g,T,E,xs)): ∃ver a b,(h,ver,Chk.blk T [.rd g (.sl E (.int .u8)) xs,a,b])∈chs:=by
 have ⟨r,hr,k2⟩:=bind_some k
 have ⟨p,e⟩:=fh hr
 grind
def resolve (s:Sg):It->Option RIt
 | .slot t k=>some (.slot t k)
 | .box t ks=>(ON (look s.env t)).bind fun h=>(pj h s.chs).bind fun b=>some (.box h b.T ks)
 | .row t E u=>(WY (look s.env t)).bind fun h=>some (.row h E u)
 | .agg t ks=>match ks with
  | k::ks=>some (.agg t k ks)
  | [] =>none
 | .par i p E u=>bw (Nat.blt i s.nxt) (some (.row ⟨i,p⟩ E u))
 | .gone _=>none
 | .pbx i ks=>(pj ⟨i,[]⟩ s.chs).bind fun b=>some (.box ⟨i,[]⟩ b.T ks)
 | .cur t=>(ON (look s.env t)).bind fun h=>(WZ h s.chs).bind fun q=>some (.cur h q.2.1 q.1 q.2.2.1 q.2.2.2)
def xj (s:Sg):List It->Option (List RIt)
 | [] =>some []
 | i::is=>(resolve s i).bind fun r=>(xj s is).bind fun rs=>some (r::rs)
def oneOf:Option AV->Option LV
 | some (.one x)=>some x
 | _=>none
theorem Qm {v:Option AV} {x:LV} (h:oneOf v=some x):v=some (.one x):=by
 unfold oneOf at h
 grind
def Mw:Option AV->Option (List LV)
 | some (.agg xs)=>some xs
 | _=>none
theorem Qn {v:Option AV} {x:List LV} (h:Mw v=some x):v=some (.agg x):=by
 unfold Mw at h
 grind
def Qo (env:List (Nat×Nat×AV)) (chs:List Ent):(r:RIt)->Option (pY r.ks×List Ent)
 | .slot t k=>(oneOf (look env t)).bind fun x=>zR [k] [x] chs
 | .box h T ks=>(pj h chs).bind fun b=>bw (Nat.beq b.T T) (zR ks b.cells b.rest)
 | .row h E u=>zR [.own E u] [.own h] chs
 | .agg t k ks=>(Mw (look env t)).bind fun xs=>zR (k::ks) xs chs
 | .cur h T g E _=>(te h T E chs).bind fun q=>bw (Hdr.beq q.g g) (some ((q.d.2.1,q.d.2.2,()),q.rest))
def Qp:(ks ls:List Knd)->pY ks->pY ls->pY (ks++ls)
 | [],_,_,e=>e
 | _::ks,ls,d,e=>(d.1,Qp ks ls d.2 e)
def Sk:(ks ls:List Knd)->pY (ks++ls)->pY ks
 | [],_,_=>()
 | _::ks,ls,d=>(d.1,Sk ks ls d.2)
def UJ:(ks ls:List Knd)->pY (ks++ls)->pY ls
 | [],_,d=>d
 | _::ks,ls,d=>UJ ks ls d.2
theorem FM: ∀(ks ls:List Knd) (d:pY ks) (e:pY ls),Sk ks ls (Qp ks ls d e)=d
 | [],_,_,_=>rfl
 | _::ks,ls,d,e=>congrArg (Prod.mk d.1) (FM ks ls d.2 e)
theorem FN: ∀(ks ls:List Knd) (d:pY ks) (e:pY ls),UJ ks ls (Qp ks ls d e)=e
 | [],_,_,_=>rfl
 | _::ks,ls,d,e=>FN ks ls d.2 e
def UK (env:List (Nat×Nat×AV)):(rs:List RIt)->List Ent->Option (pY (qm rs)×List Ent)
 | [],chs=>some ((),chs)
 | r::rs,chs=>(Qo env chs r).bind fun q=>(UK env rs q.2).bind fun p=>some (Qp r.ks (qm rs) q.1 p.1,p.2)
def V5 (id:Nat):(r:RIt)->pY r.ks->List (Nat×Nat×AV)
 | .slot t k,d=>[(t,id,.one (YH id k d.1))]
 | .agg t k ks,d=>[(t,id,.agg (B9 id (k::ks) d))]
 | _,_=>[]
def V6 (id ver:Nat):(r:RIt)->pY r.ks->List Ent
 | .slot _ k,d=>Ca id ver [k] d
 | .agg _ k ks,d=>Ca id ver (k::ks) d
 | .box h T ks,d=>(h,ver,.blk T (B9 id ks d))::Ca id ver ks d
 | .row h E u,d=>[(h,ver,.own (.sl E u) d.1)]
 | .cur h T g E xs,d=>[(h,ver,.blk T [.rd g (.sl E (.int .u8)) xs,.val (.int .i64 d.1),.val (.int .i64 d.2.1)])]
def zS:(id:Nat)->(rs:List RIt)->pY (qm rs)->List (Nat×Nat×AV)
 | _,[],_=>[]
 | id,r::rs,d=>V5 id r (Sk r.ks (qm rs) d)++zS (id+r.ks.length) rs (UJ r.ks (qm rs) d)
def vH (ver:Nat):(id:Nat)->(rs:List RIt)->pY (qm rs)->List Ent
 | _,[],_=>[]
 | id,r::rs,d=>V6 id ver r (Sk r.ks (qm rs) d)++vH ver (id+r.ks.length) rs (UJ r.ks (qm rs) d)
structure Cut where
 nxt:Nat
 its:List RIt
 env:List (Nat×Nat×AV)
 chs:List Ent
def Cut.top (c:Cut):Nat:=c.nxt+(qm c.its).length
def Cut.at (c:Cut) (d:pY (qm c.its)):Sg:=⟨zS c.nxt c.its d++c.env,vH c.top c.nxt c.its d++c.chs,c.top+1⟩
def Zh (t:Nat):List Nat->Bool
 | [] =>false
 | u::l=>Nat.beq u t || Zh t l
def Ju (l:List (Nat×Nat×AV)) (t:Nat):Option Nat:=match l with
 | [] =>none
 | (u,k,_)::l=>if Nat.beq u t then some k else Ju l t
def xk (env:List (Nat×Nat×AV)):List (Nat×Nat×AV)->Bool
 | [] =>true
 | e::l=>(match Ju env e.1 with | some v=>Nat.beq v e.2.1 | none=>false)&&xk env l
def FP:List Ent->List Ent->Option (List Ent)
 | [],chs=>some chs
 | e::l,chs=>(pull e.1 chs).bind fun r=>bw (Nat.beq r.1.2.1 e.2.1) (FP l r.2)
def distinctH:List Ent->Bool
 | [] =>true
 | e::l=>zP e.1 l&&distinctH l
def W0:Option AV->List Hdr
 | some (.one (.ptr h _))=>[h]
 | _=>[]
def om (s:Sg):List RIt->List Hdr
 | [] =>[]
 | .slot t (.bx _ _)::rs=>W0 (look s.env t)++om s rs
 | .slot t _::rs=>(match look s.env t with | some v=>ym v | none=>[])++om s rs
 | .box h _ _::rs=>(match pj h s.chs with | some b=>ym (.agg b.cells) | none=>[])++om s rs
 | .row h _ _::rs=>h::om s rs
 | .cur _ _ _ _ _::rs=>om s rs
 | .agg t _ _::rs=>(match look s.env t with | some v=>ym v | none=>[])++om s rs
def yn:List Ent->List Hdr
 | [] =>[]
 | (h,_,.own _ _)::l=>h::yn l
 | _::l=>yn l
def Cut.of (c:Cut) (s0:Sg):Option (pY (qm c.its)):=match uq (yn c.chs) (uq (om s0 c.its) s0) with
 | s=>(UK s.env c.its s.chs).bind fun q=>(FP c.chs q.2).bind fun _=>bw (xk s.env c.env) (some q.1)
def RIt.hdrs:RIt->List Hdr
 | .slot _ _=>[]
 | .box h _ _=>[h]
 | .row h _ _=>[h]
 | .agg _ _ _=>[]
 | .cur h _ g _ _=>[h,g]
def hdrsR:List RIt->List Hdr
 | [] =>[]
 | r::rs=>r.hdrs++hdrsR rs
def DS:List (Nat×Nat×AV)->List Nat->List (Nat×Nat×AV)
 | [],_=>[]
 | e::l,seen=>match Zh e.1 seen with
  | true=>DS l seen
  | false=>e::DS l (e.1::seen)
theorem rR: ∀ {l:List (Nat×Nat×AV)} {seen:List Nat},(DS l seen).Sublist l
 | [],_=>List.Sublist.refl _
 | e::l,seen=>by
  unfold DS
  split
  ·exact rR.cons _
  ·exact rR.cons_cons _
def UL:List It->List It
 | [] =>[]
 | .gone _::is=>UL is
 | i::is=>i::UL is
def UM (s:Sg):List It->List Hdr
 | [] =>[]
 | .gone t::is=>(match look s.env t with
  | some (.one (.ptr h _))=>match pj h s.chs with | some b=>ym (.agg b.cells) | none=>[]
  | some v=>ym v
  | none=>[])++UM s is
 | _::is=>UM s is
def yo (ks:List Nat) (is:List It) (s:Sg):Option Cut:=(xj s (UL is)).bind fun rs=>bw (distinctH s.chs) (some ⟨s.nxt,rs,DS (s.env.filter fun e=> !Zh e.1 ks) [],s.chs.filter fun e=> !ZU e.1 (UM s is++(om s rs++hdrsR rs))⟩)
theorem UN {P:Program} {w0:World} {J:Hp} {θ:Th} {m id ver:Nat} {chs:List Ent} {k:Knd} {d:k.den} (h1:id<m) (h2:ver<m): ∀e∈V4 id ver k d,okE P w0 J θ m chs e:=by
 cases k with
 | own E t=>intro e he;cases ak he;exact ⟨h1,h2,trivial⟩
 | map md=>intro e he;cases ak he;exact ⟨h1,h2,trivial⟩
 | bx T k=>intro e he;cases ak he;exact ⟨h1,h2,fun x hx=>by cases ak hx;rfl⟩
 | _=>intro e he;cases he
theorem xl {P:Program} {w0:World} {J:Hp} {θ:Th} {m ver:Nat} {chs:List Ent} (h2:ver<m): ∀ {ks:List Knd} {id:Nat} {d:pY ks},id+ks.length<=m-> ∀e∈Ca id ver ks d,okE P w0 J θ m chs e
 | [],_,_,_=>fun e he=>by cases he
 | k::ks,id,d,h1=>fun e he=>by
  rw[aB] at h1
  rcases aH he with he | he
  ·exact UN (by omega) h2 e he
  ·exact xl h2 (by omega) e he
section
variable {P:Program} {w0 w:World} {J:Hp} {θ:Th} {n:Nat} {C:List Ch}
def RitOk (P:Program) (w0:World) (J:Hp) (θ:Th) (n:Nat):RIt->Prop
 | .cur _ _ g E xs=>LV.ok P w0 J θ n (.rd g (.sl E (.int .u8)) xs)
 | _=>True
def Z0 (P:Program) (w0 w:World) (J:Hp) (θ:Th) (env:List (Nat×Nat×AV)) (chs:List Ent) (hs:List Hdr) (len:Nat) (rest:List Ent) (E:Nat->List (Nat×Nat×AV)) (N:Nat->Nat->List Ent):Prop:=
 ∃vals:List Value,vals.length=len/\ ∀(θ':Th) (id ver m:Nat),(∀i v,vals[i]? =some v->θ' (id+i)=v)->id+len<=m->ver<m->(∀h∈hs,hv θ' h=hv θ h/\h.id<m)-> ∀C,St J w0 w (chs.map (toCh P θ)++C)->
  (∀e∈E id,(∀chs',e.2.2.ok P w0 J θ' m chs')/\ ∃x,look env e.1=some x/\e.2.2.v θ'=x.v θ)/\(∀chs',∀e∈N id ver,okE P w0 J θ' m chs' e)/\St J w0 w ((N id ver).map (toCh P θ')++(rest.map (toCh P θ)++C))
theorem Qq {env:List (Nat×Nat×AV)} {chs chs0:List Ent} {r:RIt} {q:pY r.ks×List Ent} (h:Qo env chs r=some q) (henv: ∀e∈env,e.2.2.ok P w0 J θ n chs0) (hchs: ∀e∈chs,okE P w0 J θ n chs0 e) {n1:Nat} (hrit:RitOk P w0 J θ n1 r) :
  Z0 P w0 w J θ env chs r.hdrs r.ks.length q.2 (fun id=>V5 id r q.1) (fun id ver=>V6 id ver r q.1):=by
 cases r with
 | slot t k =>
  have ⟨x,hx,h⟩:=bind_some (show (oneOf (look env t)).bind _=some q from h)
  have hx:=Qm hx
  ·have hxo:x.ok P w0 J θ n:=by
    have ⟨e,he,h1⟩:=rM hx
    have:=henv e he
    rw[h1] at this
    exact this
   refine ⟨[x.v θ],rfl,fun θ' id ver m hid hm hv' hh C hS=>?_⟩
   have ⟨k1,k2,k3,k4⟩:=xi (ver:=ver) (C:=C) (id:=id) (θ':=θ') (m:=m) h (fun y hy=>by cases ak hy;omega) hS (fun i y hy=>by
    cases i with
    | zero=>simp at hy;rw[<-hy];exact hid 0 _ rfl
    | succ i=>grind) hm
   refine ⟨fun e he=>?_,fun chs'=>xl hv' hm,k3⟩
   cases ak he
   exact ⟨fun chs'=>k1 _ (by simp[B9]),_,hx,(List.cons.inj (show _::_=_::_ from k2)).1⟩
 | box hh T ks =>
  have ⟨b,hb,h⟩:=bind_some (show (pj hh chs).bind _=some q from h)
  have ⟨hT,h⟩:=aj h
  have hT:=aq hT
  have hp:=jq hb
  have hbk:=hchs (b.ent hh) (hp.mem_iff.2 (by simp))
  have hlen: ∀ {ks:List Knd} {xs:List LV} {chs:List Ent} {q:pY ks×List Ent},zR ks xs chs=some q->xs.length=ks.length:=by
   intro ks
   induction ks with
   | nil=>intro xs chs q h;cases xs with
    | nil=>rfl
    | cons _ _=>cases h
   | cons k ks ih=>intro xs chs q h;cases xs with
    | nil=>cases h
    | cons x xs =>
     have ⟨a,ha,h⟩:=bind_some (show (Sj k x chs).bind _=some q from h)
     have ⟨c,hc,h⟩:=bind_some h
     grind
  have hl:=hlen h
  have hvl:(b.cells.map (·.v θ)).length=ks.length:=by rw[List.length_map];exact hl
  have hget: ∀ {θ':Th} {id:Nat},(∀i v,(b.cells.map (·.v θ))[i]? =some v->θ' (id+i)=v)-> ∀i x,b.cells[i]? =some x->θ' (id+i)=x.v θ:=fun hid i x hx=>hid i _ (by grind)
  refine ⟨b.cells.map (·.v θ),hvl,fun θ' id ver m hid hm hv' hh' C hS=>?_⟩
  ·have hS':St J w0 w (b.rest.map (toCh P θ)++(Ch.blk (bk (hv θ hh)) (b.cells.map (·.v θ)) b.T::C)):=by
    refine (hS.perm ((hp.map (toCh P θ)).append_right C)).perm ?_
    exact (List.perm_middle (l₁:=b.rest.map (toCh P θ)) (l₂:=C)).symm
   have ⟨k1,k2,k3,k4⟩:=xi (ver:=ver) (id:=id) (θ':=θ') (m:=m) h hbk.2.2 hS' (hget hid) hm
   have ⟨g1,g2⟩:=hh' hh (by simp[RIt.hdrs])
   refine ⟨fun e he=>(by cases he),fun chs' e he=>?_,?_⟩
   ·rcases az he with rfl | he
    ·exact ⟨g2,hv',k1⟩
    ·exact xl hv' hm e he
   ·show St J w0 w (Ch.blk (bk (hv θ' hh)) ((B9 id ks q.1).map (·.v θ')) T::((Ca id ver ks q.1).map (toCh P θ')++(q.2.map (toCh P θ)++C)))
    refine k3.perm ?_
    grind[aD,List.perm_middle]
 | agg t k ks =>
  have ⟨xs,hx,h⟩:=bind_some (show (Mw (look env t)).bind _=some q from h)
  have hx:=Qn hx
  have hxo: ∀x∈xs,x.ok P w0 J θ n:=by
   have ⟨e,he,h1⟩:=rM hx
   have:=henv e he
   rw[h1] at this
   exact this
  have hlen: ∀ {ks:List Knd} {xs:List LV} {chs:List Ent} {q:pY ks×List Ent},zR ks xs chs=some q->xs.length=ks.length:=by
   intro ks
   induction ks with
   | nil=>intro xs chs q h;cases xs with
    | nil=>rfl
    | cons _ _=>cases h
   | cons k ks ih=>intro xs chs q h;cases xs with
    | nil=>cases h
    | cons x xs =>
     have ⟨a,ha,h⟩:=bind_some (show (Sj k x chs).bind _=some q from h)
     have ⟨c,hc,h⟩:=bind_some h
     grind
  refine ⟨xs.map (·.v θ),by rw[List.length_map];exact hlen h,fun θ' id ver m hid hm hv' hh C hS=>?_⟩
  have ⟨k1,k2,k3,k4⟩:=xi (ver:=ver) (C:=C) (id:=id) (θ':=θ') (m:=m) h hxo hS (fun i y hy=>hid i _ (by grind)) hm
  refine ⟨fun e he=>?_,fun chs'=>xl hv' hm,k3⟩
  cases ak he
  refine ⟨fun chs'=>k1,_,hx,?_⟩
  show Value.agg ((B9 id (k::ks) q.1).map (·.v θ')).toArray=Value.agg (xs.map (·.v θ)).toArray
  rw[k2]
 | row hh E u =>
  have ⟨a,ha,h⟩:=bind_some (show (Sj (.own E u) (.own hh) chs).bind _=some q from h)
  have ⟨c,hc,h⟩:=bind_some h
  cases ae (show some ((),a.2)=some c from hc)
  cases ae h
  have ⟨r,hr,ha⟩:=bind_some (show (ua E u (.own hh) chs).bind _=some a from ha)
  cases ae ha
  have ⟨p,hb⟩:=xN hr P J θ
  refine ⟨[hv θ hh],rfl,fun θ' id ver m hid hm hv' hh' C hS=>?_⟩
  have h1:St J w0 w (Ch.own (Ty.sl E u).rep [hv θ hh] r.1::(r.2.2.map (toCh P θ)++C)):=by
   refine St.bun ?_ hb
   have:=hS.perm ((p.map (toCh P θ)).append_right C)
   grind
  refine ⟨fun e he=>(by cases he),fun chs' e he=>?_,?_⟩
  ·cases ak he
   exact ⟨(hh' hh (by simp[RIt.hdrs])).2,hv',trivial⟩
  ·show St J w0 w (Ch.own _ [hv θ' hh] _::_)
   simp_all[RIt.hdrs]
 | cur hh T g E xs =>
  have ⟨b,hb,h⟩:=bind_some (show (te hh T E chs).bind _=some q from h)
  have ⟨hg,h⟩:=aj h
  cases ae h
  have hg:=Hdr.beq_eq hg
  have ⟨p,ver0,he⟩:=mC hb
  refine ⟨[.int .i64 b.d.2.1,.int .i64 b.d.2.2],rfl,fun θ' id ver m hid hm hv' hh' C hS=>?_⟩
  have ⟨g1,g2⟩:=hh' hh (by simp[RIt.hdrs])
  have ⟨g3,g4⟩:=hh' g (by simp[RIt.hdrs])
  refine ⟨fun e he=>(by cases he),fun chs' e he=>?_,?_⟩
  ·cases ak he
   refine ⟨g2,hv',fun z hz=>?_⟩
   rcases az hz with rfl | hz
   ·exact ⟨g4,by rw[g3];exact hrit.2⟩
   ·rcases az hz with rfl | hz
    ·rfl
    ·cases ak hz
     rfl
  ·show St J w0 w (Ch.blk (bk (hv θ' hh)) [hv θ' g,.int .i64 b.d.2.1,.int .i64 b.d.2.2] T::(b.rest.map (toCh P θ)++C))
   have h1:=hS.perm ((p.map (toCh P θ)).append_right C)
   rw[List.map_cons,he] at h1
   rw[g1,g3,<-hg]
   exact h1
theorem Qr {k:Knd} {x:LV} {chs:List Ent} {q:k.den×List Ent} (h:Sj k x chs=some q): ∀e∈q.2,e∈chs:=by
 cases k with
 | num k=>have ⟨d,hd,h⟩:=bind_some (show (BA k x).bind _=some q from h);grind
 | boo=>have ⟨d,hd,h⟩:=bind_some (show (Al x).bind _=some q from h);grind
 | str=>have ⟨d,hd,h⟩:=bind_some (show (IV x).bind _=some q from h);grind
 | rd E t=>have ⟨d,hd,h⟩:=bind_some (show (Pc E t x).bind _=some q from h);grind
 | own E t =>
  have ⟨r,hr,h⟩:=bind_some (show (ua E t x chs).bind _=some q from h)
  exact fun e he=>(xO hr).mem_iff.2 (by grind)
 | tre T E t=>have ⟨d,hd,h⟩:=bind_some (show (V1 T E t x).bind _=some q from h);grind
 | map d =>
  obtain ⟨h0,ver0,-,p⟩:=DQ (show DP d x chs=some q from h)
  grind
 | bx T k =>
  obtain ⟨h0,ver0,c,-,-,p⟩:=DR (show Hz T k x chs=some q from h)
  grind
theorem qK: ∀ {ks:List Knd} {xs:List LV} {chs:List Ent} {q:pY ks×List Ent},zR ks xs chs=some q-> ∀e∈q.2,e∈chs
 | [],[],chs,q,h=>by cases ae (show some _=some q from h);grind
 | k::ks,x::xs,chs,q,h=>by
  have ⟨a,ha,h⟩:=bind_some (show (Sj k x chs).bind _=some q from h)
  have ⟨b,hb,h⟩:=bind_some h
  cases ae h
  exact fun e he=>Qr ha e (qK hb e he)
 | [],_::_,chs,q,h=>by cases h
 | _::_,[],chs,q,h=>by cases h
theorem Mx {env:List (Nat×Nat×AV)} {chs:List Ent} {r:RIt} {q:pY r.ks×List Ent} (h:Qo env chs r=some q): ∀e∈q.2,e∈chs:=by
 cases r with
 | slot t k =>
  have ⟨x,hx,h⟩:=bind_some (show (oneOf (look env t)).bind _=some q from h)
  exact qK h
 | box hh T ks =>
  have ⟨b,hb,h⟩:=bind_some (show (pj hh chs).bind _=some q from h)
  have ⟨hT,h⟩:=aj h
  exact fun e he=>(jq hb).mem_iff.2 (ba _ (qK h e he))
 | row hh E u=>exact qK (show zR [.own E u] [.own hh] chs=some q from h)
 | cur hh T g E xs =>
  have ⟨b,hb,h⟩:=bind_some (show (te hh T E chs).bind _=some q from h)
  have ⟨hg,h⟩:=aj h
  cases ae h
  exact fun e he=>(mC hb).1.mem_iff.2 (ba _ he)
 | agg t k ks =>
  have ⟨x,hx,h⟩:=bind_some (show (Mw (look env t)).bind _=some q from h)
  exact qK h
theorem HB {env:List (Nat×Nat×AV)} {chs0:List Ent} {n1:Nat} (henv: ∀e∈env,e.2.2.ok P w0 J θ n chs0): ∀ {rs:List RIt} {chs:List Ent} {q:pY (qm rs)×List Ent},UK env rs chs=some q->(∀e∈chs,okE P w0 J θ n chs0 e)->(∀r∈rs,RitOk P w0 J θ n1 r)->
  (∀e∈q.2,e∈chs)/\Z0 P w0 w J θ env chs (hdrsR rs) (qm rs).length q.2 (fun id=>zS id rs q.1) (fun id ver=>vH ver id rs q.1)
 | [],chs,q,h,_,_=>by
  cases ae (show some _=some q from h)
  exact ⟨fun e he=>he,[],rfl,fun θ' id ver m _ _ _ _ C hS=>⟨fun e he=>(by cases he),fun chs' e he=>(by cases he),hS⟩⟩
 | r::rs,chs,q,h,hchs,hrit=>by
  have ⟨a,ha,h⟩:=bind_some (show (Qo env chs r).bind _=some q from h)
  have ⟨b,hb,h⟩:=bind_some h
  cases ae h
  have hsub:=Mx ha
  have ⟨v1,l1,k1⟩:=Qq (w:=w) ha henv hchs (hrit r (by simp))
  have ⟨s2,v2,l2,k2⟩:=HB henv hb (fun e he=>hchs e (hsub e he)) fun x hx=>hrit x (by grind)
  refine ⟨fun e he=>hsub e (s2 e he),v1++v2,by rw[al,l1,l2];exact (al ..).symm,fun θ' id ver m hid hm hv' hh C hS=>?_⟩
  have hm:id+(r.ks.length+(qm rs).length)<=m:=by
   have:(qm (r::rs)).length=r.ks.length+(qm rs).length:=al ..
   rw[this] at hm;exact hm
  have ⟨a1,a2,a3⟩:=k1 θ' id ver m (fun i v hi=>hid i v (by grind)) (by omega) hv' (fun x hx=>hh x (aT _ hx)) C hS
  have ⟨b1,b2,b3⟩:=k2 θ' (id+r.ks.length) ver m (fun i v hi=>by
   have:=hid (r.ks.length+i) v (by grind)
   grind) (by omega) hv' (fun x hx=>hh x (aX _ hx)) ((V6 id ver r a.1).map (toCh P θ')++C) (a3.perm (List.perm_append_comm_assoc _ _ _))
  have e1:zS id (r::rs) (Qp r.ks (qm rs) a.1 b.1)=V5 id r a.1++zS (id+r.ks.length) rs b.1:=by
   show V5 id r (Sk _ _ _)++zS _ rs (UJ _ _ _)=_
   rw[FM,FN]
  have e2:vH ver id (r::rs) (Qp r.ks (qm rs) a.1 b.1)=V6 id ver r a.1++vH ver (id+r.ks.length) rs b.1:=by
   show V6 id ver r (Sk _ _ _)++vH ver _ rs (UJ _ _ _)=_
   rw[FM,FN]
  show (∀e∈zS id (r::rs) (Qp r.ks (qm rs) a.1 b.1),_)/\(∀chs',∀e∈vH ver id (r::rs) (Qp r.ks (qm rs) a.1 b.1),_)/\St J w0 w ((vH ver id (r::rs) (Qp r.ks (qm rs) a.1 b.1)).map _++_)
  refine ⟨fun e he=>?_,fun chs' e he=>?_,?_⟩
  ·grind
  ·grind
  ·refine b3.perm ?_
   grind[List.perm_append_comm_assoc,vH,toCh,V6,aD]
end
end R
namespace R
open Go.RowKit
open D
def FQ:Chk->Prop
 | .hole _ _ _ _ _ _ _ _ _ _=>False
 | _=>True
theorem Qs {id ver:Nat} {k:Knd} {d:k.den} : ∀e∈V4 id ver k d,e.2.1=ver/\FQ e.2.2:=by
 cases k with
 | own E t=>intro e he;cases ak he;exact ⟨rfl,trivial⟩
 | map md=>intro e he;cases ak he;exact ⟨rfl,trivial⟩
 | bx T k=>intro e he;cases ak he;exact ⟨rfl,trivial⟩
 | _=>intro e he;cases he
theorem ur {ver:Nat} : ∀ {ks:List Knd} {id:Nat} {d:pY ks},∀e∈Ca id ver ks d,e.2.1=ver/\FQ e.2.2
 | [],_,_=>fun e he=>by cases he
 | k::ks,id,d=>fun e he=>by
  rcases aH he with he | he
  ·exact Qs e he
  ·exact ur e he
theorem DT {ver:Nat} : ∀ {rs:List RIt} {id:Nat} {d:pY (qm rs)},∀e∈vH ver id rs d,e.2.1=ver/\FQ e.2.2
 | [],_,_=>fun e he=>by cases he
 | r::rs,id,d=>fun e he=>by
  rcases aH he with he | he
  ·cases r with
   | slot t k=>exact ur e he
   | box h T ks =>
    rcases az he with rfl | he
    ·exact ⟨rfl,trivial⟩
    ·exact ur e he
   | row h E u=>cases ak he;exact ⟨rfl,trivial⟩
   | agg t k ks=>exact ur e he
   | cur h T g E xs=>cases ak he;exact ⟨rfl,trivial⟩
  ·exact DT e he
theorem DU: ∀ {rs:List RIt} {id:Nat} {d:pY (qm rs)},(∀e∈zS id rs d,id<=e.2.1/\e.2.1<id+(qm rs).length)/\(zS id rs d).Pairwise fun a b=>a.2.1≠b.2.1
 | [],_,_=>⟨fun e he=>(by cases he),List.Pairwise.nil⟩
 | r::rs,id,d=>by
  have hl:(qm (r::rs)).length=r.ks.length+(qm rs).length:=al ..
  have ⟨k1,k2⟩:=DU (rs:=rs) (id:=id+r.ks.length) (d:=UJ r.ks (qm rs) d)
  have hE: ∀e∈V5 id r (Sk r.ks (qm rs) d),e.2.1=id/\0<r.ks.length:=fun e he=>by
   cases r with
   | slot t k=>cases ak he;exact ⟨rfl,Nat.one_pos⟩
   | agg t k ks=>cases ak he;exact ⟨rfl,Nat.succ_pos _⟩
   | box _ _ _=>cases he
   | row _ _ _=>cases he
   | cur _ _ _ _ _=>cases he
  have hP:(V5 id r (Sk r.ks (qm rs) d)).Pairwise fun a b=>a.2.1≠b.2.1:=by
   cases r with
   | slot t k=>exact List.pairwise_singleton _ _
   | agg t k ks=>exact List.pairwise_singleton _ _
   | box _ _ _=>exact List.Pairwise.nil
   | row _ _ _=>exact List.Pairwise.nil
   | cur _ _ _ _ _=>exact List.Pairwise.nil
  refine ⟨fun e he=>?_,List.pairwise_append.2 ⟨hP,k2,fun a ha b hb=>?_⟩⟩
  ·rcases aH he with he | he
   ·grind
   grind
  grind
theorem HC {t v:Nat} : ∀ {l:List (Nat×Nat×AV)},Ju l t=some v-> ∃x,look l t=some x/\(t,v,x)∈l
 | (u,k,x)::l,h=>by
  unfold Ju at h
  split at h
  ·simp_all[look,if_pos,Nat.beq_refl]
  ·have ⟨y,h1,h2⟩:=HC h
   simp_all[look,if_neg]
theorem yp {env:List (Nat×Nat×AV)} : ∀ {l:List (Nat×Nat×AV)},xk env l=true-> ∀e∈l,Ju env e.1=some e.2.1
 | e::l,h,x,hx=>by
  have h:((match Ju env e.1 with | some v=>Nat.beq v e.2.1 | none=>false)&&xk env l)=true:=h
  rw[ah] at h
  rcases az hx with rfl | hx
  ·grind[hv,aq]
  ·exact yp h.2 x hx
theorem Ay: ∀ {l chs rest:List Ent},FP l chs=some rest->(∀e∈l,∀e'∈chs,e'.1=e.1->e'.2.1=e.2.1->e'=e)->chs.Perm (l++rest)
 | [],chs,rest,h,_=>by cases ae (show some _=some rest from h);rfl
 | e::l,chs,rest,h,k=>by
  have ⟨r,hr,h⟩:=bind_some (show (pull e.1 chs).bind _=some rest from h)
  have ⟨hv,h⟩:=aj h
  have ⟨p,he⟩:=fh hr
  have hre:=k e (by simp) r.1 (p.mem_iff.2 (by simp)) he (aq hv)
  rw[hre] at p
  exact p.trans ((Ay h fun x hx x' hx'=>k x (by grind) x' (p.mem_iff.2 (by grind))).cons e)
theorem wD: ∀ {l:List Ent},distinctH l=true-> ∀a∈l,∀b∈l,a.1=b.1->a=b
 | e::l,h,a,ha,b,hb,hab=>by
  have h:(zP e.1 l&&distinctH l)=true:=h
  rw[ah] at h
  rcases az ha with h1 | h1
  ·rcases az hb with h2 | h2
   ·rw[h1,h2]
   ·rw[h1] at hab;exact absurd hab.symm (nD h.1 h2)
  ·rcases az hb with h2 | h2
   ·grind[absurd,nD]
   ·exact wD h.2 a h1 b h2 hab
theorem My {l:List (Nat×Nat×AV)} (h:l.Pairwise fun a b=>a.2.1≠b.2.1): ∀a∈l,∀b∈l,a.2.1=b.2.1->a=b:=by
 induction l with
 | nil=>grind
 | cons e l ih =>
  intro a ha b hb hab
  have ⟨h1,h2⟩:=List.pairwise_cons.1 h
  rcases az ha with k1 | k1
  ·rcases az hb with k2 | k2
   ·rw[k1,k2]
   ·rw[k1] at hab;exact absurd hab (h1 b k2)
  ·rcases az hb with k2 | k2
   ·rw[k2] at hab;exact absurd hab.symm (h1 a k1)
   ·exact ih h2 a k1 b k2 hab
structure CutOk (P:Program) (w0:World) (c:Cut) (s:Sg) (J0:Hp) (θ0:Th):Prop where
 nxt:c.nxt=s.nxt
 env: ∀e∈c.env,e∈s.env
 nd:c.env.Pairwise fun a b=>a.2.1≠b.2.1
 chs: ∀e∈c.chs,e∈s.chs
 dist:distinctH s.chs=true
 hdr: ∀h∈hdrsR c.its,h.id<s.nxt
 fine:Fine P w0 J0 θ0 s
 rit: ∀r∈c.its,RitOk P w0 J0 θ0 s.nxt r
section
variable {V:Env} {P:Program} {I:Hp} {w0 w:World} {F:Ch} {J J0:Hp} {θ θ0:Th} {s s':Sg} {a:Act} {c:Cut}
theorem uu {ks:List Nat} {is:List It} (h:yo ks is s=some c) (hf:Fine P w0 J θ s):CutOk P w0 c s J θ:=by
 have ⟨rs,hrs,h⟩:=bind_some h
 have ⟨hd,h⟩:=aj h
 cases ae h
 have hres: ∀ {is:List It} {rs:List RIt},xj s is=some rs-> ∀h∈hdrsR rs,h.id<s.nxt:=by
  intro is
  induction is with
  | nil=>intro rs h x hx;cases ae (show some _=some rs from h);cases hx
  | cons i is ih =>
   intro rs h x hx
   have ⟨r,hr,h⟩:=bind_some (show (resolve s i).bind _=some rs from h)
   have ⟨rs',hrs',h⟩:=bind_some h
   cases ae h
   rcases aH hx with hx | hx
   ·cases i with
    | slot t k=>cases ae (show some _=some r from hr);cases hx
    | gone t=>cases hr
    | cur t =>
     have ⟨h0,h1,hr⟩:=bind_some (show (ON (look s.env t)).bind _=some r from hr)
     have ⟨⟨g,T,E,xs⟩,hb,hr⟩:=bind_some hr
     cases ae hr
     have ⟨ver,a,b,hm⟩:=HA hb
     have hok:=hf.chs _ hm
     rcases az hx with rfl | hx
     ·exact hok.1
     ·cases ak hx
      exact (show LV.ok P w0 J θ s.nxt (.rd _ (.sl E (.int .u8)) xs) from hok.2.2 _ (by simp)).1
    | agg t ks =>
     cases ks with
     | nil=>cases hr
     | cons k ks=>cases ae (show some _=some r from hr);cases hx
    | par i p E u =>
     have ⟨hi,hr⟩:=aj (show bw (Nat.blt i s.nxt) _=some r from hr)
     cases ae hr
     cases ak hx
     simp_all
    | box t ks =>
     have ⟨h0,h1,hr⟩:=bind_some (show (ON (look s.env t)).bind _=some r from hr)
     have ⟨b,hb,hr⟩:=bind_some hr
     cases ae hr
     cases ak hx
     exact (hf.chs _ ((jq hb).mem_iff.2 (List.mem_cons_self ..))).1
    | pbx i ks =>
     have ⟨b,hb,hr⟩:=bind_some (show (pj ⟨i,[]⟩ s.chs).bind _=some r from hr)
     cases ae hr
     cases ak hx
     exact (hf.chs _ ((jq hb).mem_iff.2 (List.mem_cons_self ..))).1
    | row t E u =>
     have ⟨h0,h1,hr⟩:=bind_some (show (WY (look s.env t)).bind _=some r from hr)
     cases ae hr
     cases ak hx
     have ⟨e,he,h2⟩:=rM (UI h1)
     have:=hf.env e he
     rw[h2] at this
     exact this.1
   grind
 have hrit: ∀ {is:List It} {rs:List RIt},xj s is=some rs-> ∀r∈rs,RitOk P w0 J θ s.nxt r:=by
  intro is
  induction is with
  | nil=>intro rs h x hx;cases ae (show some _=some rs from h);cases hx
  | cons i is ih =>
   intro rs h x hx
   have ⟨r,hr,h⟩:=bind_some (show (resolve s i).bind _=some rs from h)
   have ⟨rs',hrs',h⟩:=bind_some h
   cases ae h
   rcases az hx with rfl | hx
   ·cases i with
    | slot t k=>cases ae (show some _=some x from hr);trivial
    | gone t=>cases hr
    | agg t ks =>
     cases ks with
     | nil=>cases hr
     | cons k ks=>cases ae (show some _=some x from hr);trivial
    | par i p E u =>
     have ⟨hi,hr⟩:=aj (show bw (Nat.blt i s.nxt) _=some x from hr)
     cases ae hr
     trivial
    | box t ks =>
     have ⟨h0,h1,hr⟩:=bind_some (show (ON (look s.env t)).bind _=some x from hr)
     have ⟨b,hb,hr⟩:=bind_some hr
     cases ae hr
     trivial
    | pbx i ks =>
     have ⟨b,hb,hr⟩:=bind_some (show (pj ⟨i,[]⟩ s.chs).bind _=some x from hr)
     cases ae hr
     trivial
    | row t E u =>
     have ⟨h0,h1,hr⟩:=bind_some (show (WY (look s.env t)).bind _=some x from hr)
     cases ae hr
     trivial
    | cur t =>
     have ⟨h0,h1,hr⟩:=bind_some (show (ON (look s.env t)).bind _=some x from hr)
     have ⟨⟨g,T,E,xs⟩,hb,hr⟩:=bind_some hr
     cases ae hr
     have ⟨ver,a,b,hm⟩:=HA hb
     exact (show LV.ok P w0 J θ s.nxt (.rd g (.sl E (.int .u8)) xs) from (hf.chs _ hm).2.2 _ (List.mem_cons_self ..))
   grind
 exact ⟨rfl,fun e he=>(List.mem_filter.1 (rR.mem he)).1,(hf.nd.filter _).sublist rR,fun e he=>(List.mem_filter.1 he).1,hd,hres hrs,hf,hrit hrs⟩
theorem yq (hC:CutOk P w0 c s J0 θ0) (hS:Sim P I w0 F V.n J θ s' a w) (hFr:Fr s θ0 s' θ) (hJ:J0.le J) {d:pY (qm c.its)} (h:c.of s'=some d): ∃θ',Sim P I w0 F V.n J θ' (c.at d) a w/\Fr s θ0 (c.at d) θ':=by
 unfold Cut.of at h
 have ⟨S1,F1⟩:=rQ (hs:=om s' c.its) hS
 have ⟨S2,F2⟩:=rQ (hs:=yn c.chs) S1
 generalize hs1:uq (yn c.chs) (uq (om s' c.its) s')=s1 at h S2 F2
 simp only at h
 have ⟨q,hq,h⟩:=bind_some h
 have ⟨rest2,hrest,h⟩:=bind_some h
 have ⟨henv,h⟩:=aj h
 cases ae h
 have hfr:=(hFr.trans F1).trans F2
 have hsame:=hfr.same
 have ⟨hsub,vals,hvl,hcut⟩:=HB (w:=w) (n1:=s.nxt) S2.fine.env hq S2.fine.chs fun r hr=>by
  have h1:=hC.rit r hr
  cases r with
  | cur h T g E xs=>exact LV.ok_same hsame (ay _) (show LV.ok P w0 J0 θ0 s.nxt (.rd g (.sl E (.int .u8)) xs) from h1) hJ
  | _=>trivial
 let θ':=fun i=>if i<s.nxt then θ i else vals.getD (i - s.nxt) undef
 have hθ:Same s.nxt θ θ':=fun i hi=>if_pos hi
 have hθ0:=hsame.trans hθ (ay _)
 have htop:c.top=s.nxt+(qm c.its).length:=by unfold Cut.top;rw[hC.nxt]
 have ⟨e1,e2,e3⟩:=hcut θ' s.nxt c.top (c.top+1) (fun i v hi=>by
  grind) (by omega) (au _) (fun x hx=>⟨aS hθ (hC.hdr x hx),by have:=hC.hdr x hx;omega⟩) [F] S2.st
 have hstay: ∀e∈c.chs,∀e'∈q.2,e'.1=e.1->e'.2.1=e.2.1->e'=e:=fun e he e' he' h1 h2=>by
  have hes:=hC.chs e he
  have hek:=hC.fine.chs e hes
  rcases hfr.chs e' (hsub e' he') e'.1 e'.2.1 e'.2.2 ⟨rfl,.inl ⟨rfl,rfl⟩⟩ with h3 | ⟨e0,he0,h3⟩
  ·have:=hek.2.1;omega
  ·have:=wD hC.dist e0 he0 e hes (h3.1.trans h1)
   subst this
   rcases h3.2 with ⟨h4,h5⟩ | h4
   ·grind
   ·have ⟨y1,y2,y3⟩:=e0
    cases y3 with
    | hole over t dd u y f i k off lv =>
     have h5:=h4.1
     have h6:=hek.2.2.2.1
     omega
    | _=>exact h4.elim
 have hperm:=Ay hrest hstay
 have hnew:Newer s.nxt s.chs (vH c.top s.nxt c.its q.1++c.chs):=fun e he h' ver x hs=>by
  rcases aH he with he | he
  ·have ⟨k1,k2⟩:=DT e he
   rcases hs.2 with ⟨h1,h2⟩ | h1
   ·omega
   ·have ⟨y1,y2,y3⟩:=e
    cases y3 with
    | hole _ _ _ _ _ _ _ _ _ _=>exact k2.elim
    | _=>exact h1.elim
  ·exact .inr ⟨e,hC.chs e he,hs⟩
 have hlook: ∀e∈c.env,look s1.env e.1=some e.2.2:=fun e he=>by
  have ⟨x,h1,h2⟩:=HC (yp henv e he)
  have hes:=hC.env e he
  have:=My hC.fine.nd _ (hfr.env _ h2 (hC.fine.ver e hes)) e hes rfl
  grind
 have hat:c.at q.1=⟨zS s.nxt c.its q.1++c.env,vH c.top s.nxt c.its q.1++c.chs,c.top+1⟩:=by unfold Cut.at;rw[hC.nxt]
 have ⟨v1,v2⟩:=DU (rs:=c.its) (id:=s.nxt) (d:=q.1)
 refine ⟨θ',?_,by
  rw[hat]
  refine ⟨show s.nxt<=c.top+1 by rw[htop];omega,hθ0,fun e he hv0=>?_,hnew⟩
  rcases aH he with he | he
  ·have:=v1 e he;omega
  ·exact hC.env e he⟩
 rw[hat]
 refine ⟨S2.le,S2.agr.pick _ fun p hp=>?_,?_,fun e he=>?_,fun e he=>?_,List.pairwise_append.2 ⟨v2,hC.nd,fun x hx y hy hxy=>?_⟩,fun e he=>?_,S2.fine.lay⟩
 ·obtain ⟨e,he,rfl⟩:=List.mem_map.1 hp
  rcases aH he with he | he
  ·obtain ⟨-,x,h1,h2⟩:=e1 e he
   show (envL θ s1).lookup e.1=some (e.2.2.v θ')
   rw[h2];exact gl h1
  ·have hok:=hC.fine.env e (hC.env e he)
   show (envL θ s1).lookup e.1=some (e.2.2.v θ')
   rw[AV.v_same hθ0 hok,<-AV.v_same hsame hok];exact gl (hlook e he)
 ·have hch:c.chs.map (toCh P θ')=c.chs.map (toCh P θ):=List.map_congr_left fun e he=>by
   have hok:=hC.fine.chs e (hC.chs e he)
   rw[mH hθ0 hok,mH hsame hok]
  show St J w0 w ((vH c.top s.nxt c.its q.1++c.chs).map (toCh P θ')++ [F])
  rw[aM,hch]
  have h1:=e3.perm (List.Perm.append_left _ ((hperm.map (toCh P θ)).append_right [F]))
  rw[aM] at h1
  refine St.left (ds:=rest2.map (toCh P θ)) (h1.perm ?_)
  rw[aD,aD,aD]
  exact (List.Perm.append_left _ (List.Perm.append_left _ List.perm_append_comm))
 ·rcases aH he with he | he
  ·exact (e1 e he).1 _
  ·exact AV.ok_same hθ0 (show s.nxt<=c.top+1 by omega) hnew (hC.fine.env e (hC.env e he)) hJ
 ·rcases aH he with he | he
  ·have:=v1 e he
   show e.2.1<c.top+1
   omega
  ·have:=hC.fine.ver e (hC.env e he)
   show e.2.1<c.top+1
   omega
 ·have:=v1 x hx
  have:=hC.fine.ver y (hC.env y hy)
  omega
 ·rcases aH he with he | he
  ·exact e2 _ e he
  ·exact dS hθ0 (show s.nxt<=c.top+1 by omega) hnew (hC.fine.chs e (hC.chs e he)) hJ
end
end R
namespace R
open Go.RowKit
open D
def tN (t:Nat):List Nat->Bool
 | [] =>false
 | u::l=>Nat.beq u t || tN t l
theorem mK {t:Nat} : ∀ {l:List Nat},tN t l=true↔t∈l
 | [] =>by simp[tN]
 | u::l=>by
  unfold tN
  rw[Bool.or_eq_true,mK (l:=l),List.mem_cons]
  grind[aq,Nat.beq_refl]
theorem FR {t:Nat} {l:List Nat} :tN t l=false↔t∉l:=by
 grind[mK]
def yr:List Nat->Bool
 | [] =>true
 | u::l=> !tN u l&&yr l
theorem qL: ∀ {l:List Nat},yr l=true->l.Nodup
 | [],_=>List.nodup_nil
 | u::l,h=>by
  unfold yr at h
  rw[ah,Bool.not_eq_true',FR] at h
  exact List.nodup_cons.2 ⟨h.1,qL h.2⟩
structure OpK where
 reads:List Nat
 needs:List Nat
 gives:List Nat
 src:List (Nat×Option Nat)
structure Skel where
 ops:List OpK
 nres:Nat
 base:List Nat
 pre:List (List Nat)
 fin:List (Nat×Option Nat)
 left:List Nat
structure Sm where
 fact:Nat->(Nat->Value)->Prop
 chunk:Nat->(Nat->Value)->Ch
namespace Skel
def op (p:Skel) (i:Nat):OpK:=p.ops.getD i ⟨[],[],[],[]⟩
def before (p:Skel) (i:Nat):List Nat:=p.pre.getD i []
def srcOf (t:Nat):List (Nat×Option Nat)->Option (Option Nat)
 | [] =>none
 | (u,x)::l=>if Nat.beq u t then some x else srcOf t l
def ev (p:Skel) (L:List (Nat×Value)) (i:Nat) (vs:Nat->Value):Operand->Value
 | .tmp t=>match srcOf t (p.op i).src with
  | some (some j)=>vs j
  | _=>(L.lookup t).getD undef
 | x=>evL L x
end Skel
structure Loc (p:Skel) (q:Sm) (m:Nat):Prop where
 fact: ∀i,i<m-> ∀vs vs',(∀j,j=i\/j∈p.before i->vs' j=vs j)->q.fact i vs->q.fact i vs'
 chB: ∀x,x∈p.base-> ∀vs vs',q.chunk x vs'=q.chunk x vs
 chG: ∀i,i<m-> ∀x,x∈(p.op i).gives-> ∀vs vs',(∀j,j=i\/j∈p.before i->vs' j=vs j)->q.chunk x vs'=q.chunk x vs
def Skel.goal (p:Skel) (q:Sm) (P:Program) (I:Hp) (w0:World) (L:List (Nat×Value)) (i:Nat) (o:Oper):Prop:=
 ∀vs,(∀j,j∈p.before i->q.fact j vs)->
  match IJ o vs with
  | some true=>OpT P I w0 o (p.ev L i vs) (((p.op i).reads++(p.op i).needs).map (q.chunk · vs)) (fun v=>q.fact i (upd vs i v)) (fun v=>((p.op i).reads++(p.op i).gives).map (q.chunk · (upd vs i v)))
  | some false=>q.fact i (upd vs i undef)/\(p.op i).needs= [] /\(p.op i).gives= []
  | none=>False
def isDst (ops:List Oper) (j t:Nat):Bool:=match ops[j]? with
 | some o=>match o.dst with
  | some u=>Nat.beq u t
  | none=>false
 | none=>false
theorem uv {ops:List Oper} {j t:Nat} :isDst ops j t=true↔(ops.toArray[j]?).bind (·.dst)=some t:=by
 unfold isDst
 rw[List.getElem?_toArray]
 cases ops[j]? with
 | none=>simp
 | some o =>
  simp[aa]
  cases o.dst with
  | none=>simp
  | some u=>simp
def Sl (l:List Nat) (f:Nat->Bool):Bool:=match l with
 | [] =>false
 | x::l=>f x || Sl l f
def zL (l:List Nat) (f:Nat->Bool):Bool:=match l with
 | [] =>true
 | x::l=>f x&&zL l f
theorem FU {f:Nat->Bool} : ∀ {l:List Nat},Sl l f=true↔ ∃x,x∈l/\f x=true
 | [] =>by simp[Sl]
 | x::l=>by unfold Sl;rw[Bool.or_eq_true,FU (l:=l)];simp
theorem qM {f:Nat->Bool} : ∀ {l:List Nat},zL l f=true↔ ∀x,x∈l->f x=true
 | [] =>by simp[zL]
 | x::l=>by unfold zL;rw[ah,qM (l:=l)];simp
def YI (l:List Oper) (k:Nat) (f:Nat->Oper->Bool):Bool:=match l with
 | [] =>true
 | o::l=>f k o&&YI l (k+1) f
theorem Mz {f:Nat->Oper->Bool} : ∀ {l:List Oper} {k:Nat},YI l k f=true-> ∀i o,l[i]? =some o->f (k+i) o=true
 | [],_,_,i,o,h=>by grind
 | x::l,k,h,i,o,hi=>by
  unfold YI at h
  rw[ah] at h
  cases i with
  | zero=>grind
  | succ i =>
   have:=Mz h.2 i o (by grind)
   grind
def Skel.okOp (p:Skel) (n:Nat) (kn:Nat->Bool) (ops:List Oper) (all:List Nat) (i:Nat) (o:Oper) (b:List Nat) (r:OpK):Bool:=
 noSelect o&&(dstOk n o.dst&&(zL (edgesOf o) (fun j=>Nat.blt j i) &&
 (zL b (fun j=>Nat.blt j i&&(tN j (edgesOf o) || Sl (edgesOf o) fun k=>tN j (p.before k))) &&
 (zL (slotsOf ops.toArray o) (fun t=>match srcOf t r.src with
  | none=>false
  | some none=>kn t&&zL all fun j=> !isDst ops j t || (Nat.beq j i || tN i (p.before j))
  | some (some j)=>isDst ops j t&&(tN j b&&zL all fun k=> !isDst ops k t || (Nat.beq k j || (Nat.beq k i || (tN k (p.before j) || tN i (p.before k)))))) &&
 ((match o.guard with
  | none=>true
  | some (g,_)=>match ops[g]? with
   | none=>false
   | some og=>match og.dst with
    | none=>false
    | some t=>match srcOf t r.src with
     | some (some j)=>Nat.beq j g
     | _=>false) &&
 (zL (r.reads++r.needs) (fun x=>Nat.blt x p.nres&&(tN x p.base || Sl b fun j=>tN x (p.op j).gives)) &&
 (zL r.reads (fun x=>zL all fun k=>Nat.beq k i || (!tN x (p.op k).needs || tN i (p.before k))) &&
 (zL r.needs (fun x=>zL all fun k=>Nat.beq k i || !tN x (p.op k).needs) &&
 (zL r.gives (fun x=>Nat.blt x p.nres&&(!tN x p.base&&(!tN x (r.reads++r.needs)&&zL all (fun k=>Nat.beq k i || !tN x (p.op k).gives)))) &&
 (yr (r.reads++r.needs)&&yr (r.reads++r.gives)))))))))))
def Skel.ok (p:Skel) (n:Nat) (kn:Nat->Bool) (ops:List Oper):Bool:=
 YI ops 0 fun i o=>p.okOp n kn ops (List.range ops.length) i o (p.before i) (p.op i)
def Skel.okB (p:Skel) (kn:Nat->Bool) (ops:List Oper):Bool:=
 let all:=List.range ops.length
 yr p.base&&(yr p.left&&(zL p.left (fun x=>(tN x p.base || Sl all fun j=>tN x (p.op j).gives)&&zL all fun j=> !tN x (p.op j).needs) &&
 (zL (p.base++all.flatMap fun j=>(p.op j).gives) (fun x=>tN x p.left || Sl all fun j=>tN x (p.op j).needs) &&
 p.fin.all fun (t,s)=>match s with
  | none=>kn t&&zL all fun j=> !isDst ops j t
  | some j=>Nat.blt j ops.length&&(isDst ops j t&&zL all fun k=> !isDst ops k t || (Nat.beq k j || tN k (p.before j))))))
def Skel.out (p:Skel) (L:List (Nat×Value)) (vs:Nat->Value):List (Nat×Value):=
 p.fin.map fun (t,s)=>(t,match s with | some j=>vs j | none=>(L.lookup t).getD undef)
structure Inv (p:Skel) (q:Sm) (C:List Ch) (I:Hp) (w0:World) (n:Nat) (L:List (Nat×Value)) (ops:Array Oper) (S:Nat->Bool) (vs:Nat->Value) (a:Act) (w:World):Prop where
 closed: ∀i,S i=true-> ∀j,j∈p.before i->S j=true
 lt: ∀i,S i=true->i<ops.size
 defers:a.defers= []
 size:a.tmps.size=n
 old: ∀t v,L.lookup t=some v->(∀j,S j=true->(ops[j]?).bind (·.dst)≠some t)->a.tmps.getD t undef=v
 new: ∀j t,S j=true->(ops[j]?).bind (·.dst)=some t->(∀k,S k=true->(ops[k]?).bind (·.dst)=some t->k=j\/k∈p.before j)->a.tmps.getD t undef=vs j
 facts: ∀i,S i=true->q.fact i vs
 st: ∃l:List Nat,l.Nodup/\(∀x,x∈l↔(x∈p.base\/ ∃j,S j=true/\x∈(p.op j).gives)/\ ¬ ∃j,S j=true/\x∈(p.op j).needs)/\St I w0 w (l.map (q.chunk · vs)++C)
structure Skel.Good (p:Skel) (n:Nat) (L:List (Nat×Value)) (ops:Array Oper) (i:Nat) (o:Oper):Prop where
 sel:noSelect o=true
 dst:dstOk n o.dst=true
 edges: ∀j,j∈edgesOf o->j<i
 bef: ∀j,j∈p.before i->j<i/\(j∈edgesOf o\/ ∃k,k∈edgesOf o/\j∈p.before k)
 slots: ∀t,t∈slotsOf ops o->(Skel.srcOf t (p.op i).src=some none/\(L.lookup t).isSome=true/\ ∀j,j<ops.size->(ops[j]?).bind (·.dst)=some t->j=i\/i∈p.before j) \/
  ∃j,Skel.srcOf t (p.op i).src=some (some j)/\(ops[j]?).bind (·.dst)=some t/\j∈p.before i/\ ∀k,k<ops.size->(ops[k]?).bind (·.dst)=some t->k=j\/k=i\/k∈p.before j\/i∈p.before k
 guard: ∀g want,o.guard=some (g,want)-> ∃t,(ops[g]?).bind (·.dst)=some t/\Skel.srcOf t (p.op i).src=some (some g)
 have_: ∀x,x∈(p.op i).reads++(p.op i).needs->x<p.nres/\(x∈p.base\/ ∃j,j∈p.before i/\x∈(p.op j).gives)
 keep: ∀x,x∈(p.op i).reads-> ∀k,k<ops.size->x∈(p.op k).needs->k=i\/i∈p.before k
 once: ∀x,x∈(p.op i).needs-> ∀k,k<ops.size->x∈(p.op k).needs->k=i
 give: ∀x,x∈(p.op i).gives->x<p.nres/\x∉p.base/\x∉(p.op i).reads++(p.op i).needs/\ ∀k,k<ops.size->x∈(p.op k).gives->k=i
 nd1:((p.op i).reads++(p.op i).needs).Nodup
 nd2:((p.op i).reads++(p.op i).gives).Nodup
theorem V7 {a b:Nat} :Nat.beq a b=true↔a=b:=⟨aq,fun h=>by simp_all⟩
theorem V8 {a b:Nat} :Nat.blt a b=true↔a<b:=by rw[Nat.blt_eq]
theorem Skel.good_of_ok {p:Skel} {n:Nat} {kn:Nat->Bool} {L:List (Nat×Value)} {ops:List Oper} (hkn: ∀t,kn t=true->(L.lookup t).isSome=true) (h:p.ok n kn ops=true) {i:Nat} {o:Oper} (hi:ops[i]? =some o):p.Good n L ops.toArray i o:=by
 have h:=Mz h i o hi
 rw[Nat.zero_add] at h
 unfold Skel.okOp at h
 simp only[ah,qM,FU,mK,V8,V7,Bool.or_eq_true,Bool.not_eq_true',FR] at h
 have ⟨h1,h2,h2',h3,h4,h5,h7,h8,h9,h10,h11,h12⟩:=h
 refine ⟨h1,h2,h2',fun j hj=>?_,fun t ht=>?_,fun g want hg=>?_,fun x hx=>h7 x hx,fun x hx k hk hn=>?_,fun x hx k hk hn=>?_,fun x hx=>?_,qL h11,qL h12⟩
 ·grind
 ·have:=h4 t ht
  split at this
  ·grind
  ·simp[ah,qM,Bool.or_eq_true,Bool.not_eq_true',V7,mK] at this
   grind[uv]
  ·rename_i j he
   simp[ah,qM,Bool.or_eq_true,Bool.not_eq_true',V7,mK] at this
   grind[uv]
 ·rw[hg] at h5
  simp only at h5
  split at h5
  ·cases h5
  ·rename_i og hog
   split at h5
   ·cases h5
   ·rename_i t ht
    split at h5
    ·rename_i j hj
     refine ⟨t,by rw[List.getElem?_toArray,hog];exact ht,?_⟩
     rw[<-aq h5];exact hj
    ·cases h5
 ·grind
 ·grind
 grind
section
variable {p:Skel} {q:Sm} {kn:Nat->Bool} {C:List Ch} {P:Program} {I:Hp} {w0:World} {n:Nat} {L:List (Nat×Value)} {ops:List Oper} {S:Nat->Bool} {vs:Nat->Value} {a:Act} {w:World} {i:Nat} {o:Oper}
theorem Inv.step (hkn: ∀t,kn t=true->(L.lookup t).isSome=true) (hl:Loc p q ops.length) (hok:p.ok n kn ops=true) (hg:p.goal q P I w0 L i o) (hi:ops[i]? =some o) (h:Inv p q C I w0 n L ops.toArray S vs a w) (hn:S i=false) (hpre: ∀j,j∈p.before i->S j=true) {K:Act->World->Prop} {Q:Exit->Act->World->Prop}
  (hK: ∀vs a w,Inv p q C I w0 n L ops.toArray (fun j=>S j || j==i) vs a w->K a w):wpOp P ops.toArray Q i K a w:=by
 have G:=Skel.good_of_ok hkn hok hi
 have him:i<ops.toArray.size:=by have:=(List.getElem?_eq_some_iff.1 hi).1;simpa using this
 have hcl: ∀j,S j=true->i∉p.before j:=fun j hj hb=>by rw[h.closed j hj i hb] at hn;cases hn
 have slot: ∀t,t∈slotsOf ops.toArray o->a.tmps.getD t undef=p.ev L i vs (.tmp t):=by
  intro t ht
  rcases G.slots t ht with ⟨e1,e2,e3⟩ | ⟨j,e1,e2,e3,e4⟩
  ·have ⟨v,hv⟩:=Option.isSome_iff_exists.1 e2
   simp only[Skel.ev,e1,hv,Option.getD_some]
   refine h.old t v hv fun j hj hd=>?_
   grind
  ·simp only[Skel.ev,e1]
   refine h.new j t (hpre j e3) e2 fun k hk hd=>?_
   grind
 have hev: ∀x,x∈o.op.operands->a.eval x=p.ev L i vs x:=by
  intro x hx
  cases x with
  | tmp t =>
   refine slot t ?_
   refine aT _ (List.mem_filterMap.2 ⟨.tmp t,by grind,rfl⟩)
  | _=>rfl
 have hfacts:=fun j hj=>h.facts j (hpre j hj)
 have goal:=hg vs hfacts
 have main: ∀v w',q.fact i (upd vs i v)->(∃l:List Nat,l.Nodup/\(∀x,x∈l↔(x∈p.base\/ ∃j,(S j || j==i)=true/\x∈(p.op j).gives)/\ ¬ ∃j,(S j || j==i)=true/\x∈(p.op j).needs)/\St I w0 w' (l.map (q.chunk · (upd vs i v))++C))->K (a.put o.dst v) w':=by
  intro v w' hf hst
  refine hK (upd vs i v) _ _ ⟨?_,?_,?_,?_,?_,?_,?_,hst⟩
  ·intro j hj k hk
   simp[Bool.or_eq_true,beq_iff_eq] at hj⊢
   rcases hj with hj | rfl
   ·exact .inl (h.closed j hj k hk)
   grind
  ·intro j hj
   simp[Bool.or_eq_true,beq_iff_eq] at hj
   rcases hj with hj | rfl
   ·exact h.lt j hj
   omega
  ·cases hd:o.dst <;> simp[Act.put,h.defers]
  ·cases hd:o.dst <;> simp[Act.put,h.size]
  ·intro t u hu hj
   have hne:o.dst≠some t:=by
    grind
   have h0:=h.old t u hu fun j hS=>hj j (by grind)
   cases hd:o.dst with
   | none=>exact h0
   | some d =>
    show (a.tmps.setIfInBounds d v).getD t undef=u
    simp_all
  ·intro j t hj hd hk
   simp[Bool.or_eq_true,beq_iff_eq] at hj
   by_cases hdt:o.dst=some t
   ·have hji:j=i:=by
     rcases hj with hj | rfl
     ·grind
     ·rfl
    subst hji
    have hlt:=G.dst
    rw[hdt] at hlt
    have hlt:t<n:=by simpa [dstOk] using hlt
    rw[hdt,fq]
    exact D.tP (by rw[h.size];omega)
   ·have hji:j≠i:=by
     rintro rfl
     rw[show (ops.toArray[j]?)=some o from by grind] at hd
     exact hdt hd
    have hjS:S j=true:=by rcases hj with hj | e;exact hj;exact absurd e hji
    rw[GQ hji]
    have h0:=h.new j t hjS hd fun k hk'=>hk k (by grind)
    cases hd:o.dst with
    | none=>exact h0
    | some d =>
     show (a.tmps.setIfInBounds d v).getD t undef=_
     simp_all
  ·intro j hj
   simp[Bool.or_eq_true,beq_iff_eq] at hj
   by_cases e:j=i
   ·grind
   ·have hjS:S j=true:=by rcases hj with hj | e';exact hj;exact absurd e' e
    refine hl.fact j (by simpa using h.lt j hjS) vs _ (fun k hk=>GQ fun e'=>?_) (h.facts j hjS)
    grind
 have ⟨l,l1,l2,l3⟩:=h.st
 have hstay: ∀v x,x∈l->q.chunk x (upd vs i v)=q.chunk x vs:=by
  intro v x hx
  rcases ((l2 x).1 hx).1 with hb | ⟨j,hj,hxj⟩
  ·exact hl.chB x hb vs _
  ·refine hl.chG j (by simpa using h.lt j hj) x hxj vs _ fun k hk=>GQ fun e'=>?_
   grind
 unfold wpOp
 rw[show (ops.toArray[i]?)=some o from by grind]
 simp only
 have hwant:Region.wanted o (yielded ops.toArray a.tmps)=true↔IJ o vs=some true:=by
  unfold Region.wanted IJ
  cases hgd:o.guard with
  | none=>simp
  | some q =>
   have ⟨g,want⟩:=q
   have ⟨t,e1,e2⟩:=G.guard g want hgd
   have ht:t∈slotsOf ops.toArray o:=by
    unfold slotsOf Oper.looksAt
    rw[hgd]
    simp only
    rw[e1];simp
   have hv:=slot t ht
   simp only[Skel.ev,e2] at hv
   have hy:yielded ops.toArray a.tmps g=match vs g with | .bool b=>some b | _=>none:=by
    unfold yielded
    rw[e1]
    simp[aa]
    rw[Array.getD_eq_getD_getElem?] at hv
    cases ht:a.tmps[t]? with
    | none =>
     rw[ht] at hv
     rw[<-hv];rfl
    | some u =>
     grind
   grind
 cases hw:IJ o vs with
 | none=>grind
 | some b =>
  cases b with
  | false =>
   rw[hw] at goal
   rw[if_neg (by grind)]
   refine main undef w goal.1 ⟨l,l1,fun x=>?_,?_⟩
   ·grind
   grind[List.map_congr_left,undef]
  | true =>
   rw[hw] at goal
   rw[if_pos (by grind)]
   refine .inl ?_
   have hin: ∀x,x∈(p.op i).reads++(p.op i).needs->x∈l:=by
    intro x hx
    rw[l2]
    refine ⟨(G.have_ x hx).2.imp id fun ⟨j,hj,e⟩=>⟨j,hpre j hj,e⟩,fun ⟨k,hk,e⟩=>?_⟩
    rcases aH hx with hx | hx
    ·rcases G.keep x hx k (h.lt k hk) e with rfl | e'
     ·grind
     grind
    ·have:=G.once x hx k (h.lt k hk) e
     grind
   let r:=l.filter fun x=> !((p.op i).reads++(p.op i).needs).contains x
   have hr: ∀x,x∈r↔x∈l/\x∉(p.op i).reads++(p.op i).needs:=by
    simp[r,List.mem_filter]
   have hrn:r.Nodup:=l1.filter _
   have hperm:l.Perm (((p.op i).reads++(p.op i).needs)++r):=by
    refine (List.perm_ext_iff_of_nodup l1 (List.nodup_append.2 ⟨G.nd1,hrn,fun x hx y hy e=>?_⟩)).2 fun x=>?_
    ·subst e;exact ((hr x).1 hy).2 hx
    ·rw[List.mem_append,hr]
     constructor
     ·intro hx
      by_cases e:x∈(p.op i).reads++(p.op i).needs
      ·exact .inl e
      ·exact .inr ⟨hx,e⟩
     ·rintro (e | e)
      ·exact hin x e
      ·exact e.1
   have hs:=l3.perm ((hperm.map (q.chunk · vs)).append_right C)
   rw[aM,aD] at hs
   have hsame:=ph G.sel hev
   have hu:=goal w _ hs
   rw[<-hsame] at hu
   refine hu.wp fun v w' hv=>main v w' hv.1 ⟨((p.op i).reads++(p.op i).gives)++r,?_,fun x=>?_,?_⟩
   ·refine List.nodup_append.2 ⟨G.nd2,hrn,fun x hx y hy e=>?_⟩
    subst e
    rcases aH hx with hx | hx
    ·exact ((hr x).1 hy).2 (aT _ hx)
    ·obtain ⟨-,g1,g2,g3⟩:=G.give x hx
     rcases ((l2 x).1 ((hr x).1 hy).1).1 with e | ⟨j,hj,e⟩
     ·exact g1 e
     ·have:=g3 j (h.lt j hj) e
      subst this;rw[hn] at hj;cases hj
   ·have hgx:x∈(p.op i).gives->x∉p.base/\(∀k,S k=true->x∉(p.op k).needs)/\x∉(p.op i).needs:=by
     intro hx
     obtain ⟨-,g1,g2,g3⟩:=G.give x hx
     refine ⟨g1,fun k hk e=>?_,fun e=>g2 (aX _ e)⟩
     have hkm:k<ops.length:=by simpa using h.lt k hk
     rcases ((Skel.good_of_ok (L:=L) hkn hok (List.getElem?_eq_getElem hkm)).have_ x (aX _ e)).2 with e' | ⟨j,hj,e'⟩
     ·exact g1 e'
     ·have:=g3 j (h.lt j (h.closed k hk j hj)) e'
      subst this
      exact hcl k hk hj
    rw[List.mem_append,hr]
    constructor
    ·rintro (hx | ⟨hx,hx2⟩)
     ·rcases aH hx with hx | hx
      ·have ⟨e1,e2⟩:=(l2 x).1 (hin x (aT _ hx))
       refine ⟨e1.imp id fun ⟨j,hj,e⟩=>⟨j,by simp[hj],e⟩,fun ⟨j,hj,e⟩=>?_⟩
       simp[Bool.or_eq_true,beq_iff_eq] at hj
       rcases hj with hj | rfl
       ·exact e2 ⟨j,hj,e⟩
       ·exact (List.nodup_append.1 G.nd1).2.2 x hx x e rfl
      ·have ⟨g1,g2,g3⟩:=hgx hx
       refine ⟨.inr ⟨i,by simp,hx⟩,fun ⟨j,hj,e⟩=>?_⟩
       simp[Bool.or_eq_true,beq_iff_eq] at hj
       rcases hj with hj | rfl
       ·exact g2 j hj e
       ·exact g3 e
     ·have ⟨e1,e2⟩:=(l2 x).1 hx
      refine ⟨e1.imp id fun ⟨j,hj,e⟩=>⟨j,by simp[hj],e⟩,fun ⟨j,hj,e⟩=>?_⟩
      simp[Bool.or_eq_true,beq_iff_eq] at hj
      rcases hj with hj | rfl
      ·exact e2 ⟨j,hj,e⟩
      ·exact hx2 (aX _ e)
    ·rintro ⟨e1,e2⟩
     have e2': ¬ ∃j,S j=true/\x∈(p.op j).needs:=fun ⟨j,hj,e⟩=>e2 ⟨j,by simp[hj],e⟩
     have e2i:=fun e=>e2 ⟨i,by simp,e⟩
     by_cases hxg:x∈(p.op i).gives
     ·exact .inl (aX _ hxg)
     ·have hxl:x∈l:=by
       rw[l2]
       refine ⟨e1.imp id fun ⟨j,hj,e⟩=>?_,e2'⟩
       simp[Bool.or_eq_true,beq_iff_eq] at hj
       rcases hj with hj | rfl
       ·exact ⟨j,hj,e⟩
       ·exact absurd e hxg
      by_cases e:x∈(p.op i).reads++(p.op i).needs
      ·rcases aH e with e | e
       ·exact .inl (aT _ e)
       ·exact absurd e e2i
      ·exact .inr ⟨hxl,e⟩
   ·rw[aM,aD]
    have:=List.map_congr_left fun x hx=>hstay v x ((hr x).1 hx).1
    rw[this]
    exact hv.2
theorem UO (hkn: ∀t,kn t=true->(L.lookup t).isSome=true) (hl:Loc p q ops.length) (hok:p.ok n kn ops=true) (hg: ∀i o,ops[i]? =some o->p.goal q P I w0 L i o) {Q:Exit->Act->World->Prop}
  (hQ: ∀vs a w,Inv p q C I w0 n L ops.toArray (fun j=>decide (j<ops.length)) vs a w->Q .normal a w): ∀(fuel:Nat) (listed:Array Bool) (vs:Nat->Value) (a:Act) (w:World),listed.size=ops.length->D.leftOf ops.length listed<=fuel->
   Inv p q C I w0 n L ops.toArray (fun j=>listed.getD j false) vs a w->wpAny P .any ops.toArray Q fuel listed a w:=by
 have done: ∀(listed:Array Bool) (vs:Nat->Value) (a:Act) (w:World),(∀i,i<ops.length->listed.getD i false=true)->Inv p q C I w0 n L ops.toArray (fun j=>listed.getD j false) vs a w->Q .normal a w:=by
  intro listed vs a w hall h
  refine hQ vs a w ?_
  have e:(fun j=>listed.getD j false)=fun j=>decide (j<ops.length):=by
   funext j
   by_cases hj:j<ops.length
   ·grind
   ·cases hl:listed.getD j false with
    | false=>grind
    | true=>exact absurd (by simpa using h.lt j hl) hj
  rw[<-e];exact h
 have nil: ∀(listed:Array Bool) (vs:Nat->Value) (a:Act) (w:World),listed.size=ops.length->Inv p q C I w0 n L ops.toArray (fun j=>listed.getD j false) vs a w->Region.ready .any ops.toArray listed= [] ->Q .normal a w:=by
  intro listed vs a w hsz h hr
  refine done listed vs a w (fun i=>?_) h
  induction i using Nat.strongRecOn with
  | _ i ih =>
   intro hi
   cases hl:listed.getD i false with
   | true=>rfl
   | false =>
    have:i∈Region.ready .any ops.toArray listed:=by
     refine D.mem_ready.2 ⟨by omega,?_,fun o ho j hj=>?_⟩
     ·grind
     ·have hj':=(Skel.good_of_ok (L:=L) hkn hok (show ops[i]? =some o by grind)).edges j hj
      grind
    grind
 intro fuel
 induction fuel with
 | zero =>
  intro listed vs a w hsz hf h
  have hall: ∀i,i<ops.length->listed.getD i false=true:=by
   intro i hi
   cases hl:listed.getD i false with
   | true=>rfl
   | false =>
    have hz:=List.eq_nil_of_length_eq_zero (Nat.le_zero.1 hf)
    simp_all
  refine ⟨?_,done listed vs a w hall h⟩
  cases hr:Region.ready .any ops.toArray listed with
  | nil=>rfl
  | cons i l =>
   have:i∈Region.ready .any ops.toArray listed:=by rw[hr];simp
   grind[D.mem_ready,Array.getD_eq_getD_getElem?,Array.getElem?_eq_getElem]
 | succ fuel ih =>
  intro listed vs a w hsz hf h
  refine ⟨nil listed vs a w hsz h,fun i hi=>?_⟩
  have ⟨h1,h2,h3⟩:=D.mem_ready.1 hi
  have h1':i<ops.length:=by simpa using h1
  have hio:=List.getElem?_eq_getElem h1'
  have hn:listed.getD i false=false:=by
   rw[Array.getD_eq_getD_getElem?,Array.getElem?_eq_getElem (by omega)] at h2⊢
   simpa using h2
  have hgi:=hg i _ hio
  refine h.step hkn hl hok hgi hio hn (fun j hj=>?_) fun vs a w hI=>?_
  ·rcases ((Skel.good_of_ok (L:=L) hkn hok hio).bef j hj).2 with e | ⟨k,hk,e⟩
   ·grind
   ·exact h.closed k (h3 _ (by grind) k hk) j e
  ·refine ih _ vs a w (by grind) ?_ ?_
   ·have hlt:D.leftOf ops.length (listed.setIfInBounds i true)<D.leftOf ops.length listed:=by
     unfold D.leftOf
     have hsub:(List.range ops.length).filter (fun j=> !(listed.setIfInBounds i true).getD j false)=((List.range ops.length).filter (fun j=> !listed.getD j false)).filter (fun j=>j !=i):=by
      rw[List.filter_filter]
      refine List.filter_congr fun j hj=>?_
      by_cases e:i=j
      ·simp_all
      ·rw[Array.getD_eq_getD_getElem?,Array.getElem?_setIfInBounds_ne e,<-Array.getD_eq_getD_getElem?]
       grind
     rw[hsub]
     refine List.length_filter_lt_length_iff_exists.2 ⟨i,List.mem_filter.2 ⟨List.mem_range.2 h1',by grind⟩,by simp⟩
    omega
   ·have e:(fun j=>(listed.setIfInBounds i true).getD j false)=fun j=>(listed.getD j false || j==i):=by
     funext j
     by_cases e:i=j
     ·simp_all
     ·rw[Array.getD_eq_getD_getElem?,Array.getElem?_setIfInBounds_ne e,<-Array.getD_eq_getD_getElem?]
      grind
    grind
theorem Qt {id:Nat} {C0:List Ch} {Q:Exit->Act->World->Prop} (p:Skel) (q:Sm) (hkn: ∀t,kn t=true->(L.lookup t).isSome=true) (hl:Loc p q ops.length) (hm:P.follows .mixedOrders=true) (ha:Agr n a L) (hs:St I w0 w C0) (hp:C0.Perm (p.base.map (q.chunk · fun _=>undef)++C))
  (hok:p.ok n kn ops=true) (hB:p.okB kn ops=true) (hg: ∀i o,ops[i]? =some o->p.goal q P I w0 L i o)
  (k: ∀vs a w,(∀i,i<ops.length->q.fact i vs)->Agr n a (p.out L vs)->St I w0 w (p.left.map (q.chunk · vs)++C)->Q .normal a w):(Code.region id ops.toArray true).wp P Q a w:=by
 unfold Skel.okB at hB
 simp only[ah,qM,FU,mK,Bool.or_eq_true,Bool.not_eq_true',FR,List.all_eq_true] at hB
 have ⟨hb1',hb3',hb4,hb5,hb6⟩:=hB
 have hb1:=qL hb1'
 have hb3:=qL hb3'
 refine wp_region_any hm (UO (C:=C) hkn hl hok hg (fun vs a w h=>k vs a w (fun i hi=>h.facts i (by grind)) ?_ ?_) _ _ (fun _=>undef) a _ (by simp) ?_ ?_)
 ·refine ⟨h.defers,h.size,fun t v hv=>?_⟩
  have key: ∀(M:List (Nat×Option Nat)),(∀q∈M,q∈p.fin)->(M.map fun (t,s)=>(t,match s with | some j=>vs j | none=>(L.lookup t).getD undef)).lookup t=some v->a.tmps.getD t undef=v:=by
   intro M
   induction M with
   | nil=>grind
   | cons q M ih =>
    intro hM hv
    have ⟨t',s'⟩:=q
    by_cases e:t=t'
    ·subst e
     simp[BEq.rfl,Option.some.injEq] at hv
     have hf:=hb6 (t,s') (hM _ (by simp))
     cases s' with
     | none =>
      simp only[ah,qM,Bool.not_eq_true'] at hf hv
      have ⟨u,hu⟩:=Option.isSome_iff_exists.1 (hkn _ hf.1)
      rw[hu] at hv
      subst hv
      refine h.old t u hu fun j hj hd=>?_
      have hj:j<ops.length:=by simpa using hj
      have:=hf.2 j (List.mem_range.2 hj)
      grind[uv]
     | some j =>
      simp only[ah,qM,V8,V7,Bool.or_eq_true,Bool.not_eq_true',mK] at hf hv
      rw[<-hv]
      refine h.new j t (by grind) (uv.1 hf.2.1) fun k hk hd=>?_
      have hk:k<ops.length:=by simpa using hk
      rcases hf.2.2 k (List.mem_range.2 hk) with e | e
      ·rw[uv.2 hd] at e;cases e
      ·exact e
    grind
  exact key _ (fun _ h=>h) hv
 ·have ⟨l,l1,l2,l3⟩:=h.st
  refine l3.perm (List.Perm.append_right C (List.Perm.map _ ((List.perm_ext_iff_of_nodup l1 hb3).2 fun x=>?_)))
  grind
 ·grind[D.leftOf,Nat.le_trans,List.length_filter_le]
 ·have hf: ∀j,(Array.replicate ops.toArray.size false).getD j false=false:=by
   intro j
   rw[Array.getD_eq_getD_getElem?,Array.getElem?_replicate]
   split <;> rfl
  refine ⟨fun i hi=>?_,fun i hi=>?_,ha.1,ha.2.1,fun t v hv _=>ha.2.2 t v hv,fun j t hj=>?_,fun i hi=>?_,p.base,hb1,fun x=>?_,?_⟩
  ·rw[hf] at hi;cases hi
  ·rw[hf] at hi;cases hi
  ·rw[hf] at hj;cases hj
  ·rw[hf] at hi;cases hi
  ·constructor
   ·intro hx
    refine ⟨.inl hx,fun ⟨j,hj,_⟩=>?_⟩
    rw[hf] at hj;cases hj
   ·rintro ⟨h1 | ⟨j,hj,_⟩,_⟩
    ·exact h1
    ·rw[hf] at hj;cases hj
  ·exact (hs.drawn (w':= { w with drawn:=w.drawn+1 }) rfl rfl rfl rfl).perm hp
end
end R
namespace R
open Go.RowKit
open D
def LV.ids:LV->List Nat
 | .val _=>[]
 | .nb _=>[]
 | .rd h _ _=>[h.id]
 | .own h=>[h.id]
 | .ptr h _=>[h.id]
 | .fn h _ _ _=>[h.id]
 | .fz h _ _ _ _=>[h.id]
 | .fzf h _ _ _ _=>[h.id]
 | .rdn h _ _ _=>[h.id]
def MA:List LV->List Nat
 | [] =>[]
 | x::l=>x.ids++MA l
def YJ:List (Bool×List LV)->List Nat
 | [] =>[]
 | y::l=>MA y.2++YJ l
def AV.ids:AV->List Nat
 | .one x=>x.ids
 | .agg xs=>MA xs
 | .tup ys=>YJ ys
 | .elr h _ _ _ _ _ _=>[h.id]
 | .elo h _ _ _ _ _ _ _=>[h.id]
 | .sub h _ _ _ _ _=>[h.id]
 | .pre h _ _ _ _ _=>[h.id]
 | .vw u h _ _ _ _=>[u.id,h.id]
 | .xv _ u h _ _ _ _=>[u.id,h.id]
 | .capv h _=>[h.id]
 | .any h=>[h.id]
 | .und=>[]
def Chk.ids:Chk->List Nat
 | .own _ _=>[]
 | .blk _ cs=>MA cs
 | .hole _ _ _ _ _ _ _ _ _ lv=>lv.ids
 | .box _ _ _=>[]
 | .map _ _ _ _ _=>[]
 | .clo _ first capt=>YJ first++MA capt
def Az (h:Hdr) (c:Chk):List Nat:=h.id::c.ids
theorem pw {x:LV} {i:Nat} : ∀ {l:List LV},x∈l->i∈x.ids->i∈MA l
 | y::l,h,hi=>by
  rcases az h with rfl | h
  ·exact aT _ hi
  ·exact aX _ (pw h hi)
theorem xm {y:Bool×List LV} {i:Nat} : ∀ {l:List (Bool×List LV)},y∈l->i∈MA y.2->i∈YJ l
 | z::l,h,hi=>by
  rcases az h with rfl | h
  ·exact aT _ hi
  ·exact aX _ (xm h hi)
section
variable {P:Program} {w0:World} {J:Hp} {θ θ':Th} {n m:Nat} {chs chs':List Ent}
theorem fp {h:Hdr} (k:θ' h.id=θ h.id):hv θ' h=hv θ h:=by unfold hv;rw[k]
theorem LV.v_loc {x:LV} (h: ∀i∈x.ids,θ' i=θ i):x.v θ'=x.v θ:=by
 cases x with
 | val _=>rfl
 | nb _=>rfl
 | rd k t d=>exact fp (h _ (by simp[LV.ids]))
 | own k=>exact fp (h _ (by simp[LV.ids]))
 | ptr k off=>show Value.pointer (some ⟨bk (hv θ' k),off,none⟩)=_;rw[fp (h _ (by simp[LV.ids]))];rfl
 | fn k ps rs e=>exact fp (h _ (by simp[LV.ids]))
 | fz k T t d off=>show Value.pointer (some ⟨bk (hv θ' k),off,none⟩)=_;rw[fp (h _ (by simp[LV.ids]))];rfl
 | fzf k T ps rs e=>show Value.pointer (some ⟨bk (hv θ' k),0,none⟩)=_;rw[fp (h _ (by simp[LV.ids]))];rfl
 | rdn k b t d=>exact fp (h _ (by simp[LV.ids]))
theorem LV.ok_loc {x:LV} (h: ∀i∈x.ids,θ' i=θ i) (k:x.ok P w0 J θ n):x.ok P w0 J θ' n:=by
 cases x with
 | val _=>exact k
 | nb _=>trivial
 | rd g t d=>exact ⟨k.1,by rw[fp (h _ (by simp[LV.ids]))];exact k.2⟩
 | own g=>exact ⟨k.1,by rw[fp (h _ (by simp[LV.ids]))];exact k.2⟩
 | ptr g off=>exact k
 | fn g ps rs e=>exact ⟨k.1,by rw[fp (h _ (by simp[LV.ids]))];exact k.2⟩
 | fz g T t d off=>exact ⟨k.1,by rw[fp (h _ (by simp[LV.ids]))];exact k.2⟩
 | fzf g T ps rs e=>exact ⟨k.1,by rw[fp (h _ (by simp[LV.ids]))];exact k.2⟩
 | rdn g b t d=>exact ⟨k.1,by rw[fp (h _ (by simp[LV.ids]))];exact k.2⟩
theorem Cb {xs:List LV} (h: ∀i∈MA xs,θ' i=θ i):xs.map (·.v θ')=xs.map (·.v θ):=List.map_congr_left fun x hx=>LV.v_loc fun i hi=>h i (pw hx hi)
theorem DV {y:Bool×List LV} (hy: ∀i∈MA y.2,θ' i=θ i):jR θ' y=jR θ y:=by
 unfold jR
 rw[Cb hy]
 split
 ·rfl
 ·cases hl:y.2 with
  | nil=>rfl
  | cons x l=>exact LV.v_loc fun i hi=>hy i (by rw[hl];exact aT _ hi)
theorem AV.v_loc {x:AV} (h: ∀i∈x.ids,θ' i=θ i):x.v θ'=x.v θ:=by
 cases x with
 | one x=>exact LV.v_loc h
 | agg xs=>show Value.agg _=Value.agg _;rw[Cb h]
 | tup ys =>
  show Value.tuple _=Value.tuple _
  congr 2
  refine List.map_congr_left fun y hy=>?_
  exact DV fun i hi=>h i (xm hy hi)
 | elr k E t xs x i off=>show pt (hv θ' k) _=_;rw[fp (h _ (by simp[AV.ids]))];rfl
 | elo k ver E t xs x i off=>show pt (hv θ' k) _=_;rw[fp (h _ (by simp[AV.ids]))];rfl
 | sub k ver E t xs l=>show pU (hv θ' k) _ _ _=_;rw[fp (h _ (by simp[AV.ids]))];rfl
 | pre k ver E t xs l=>show pU (hv θ' k) _ _ _=_;rw[fp (h _ (by simp[AV.ids]))];rfl
 | vw u k kk N l m=>exact fp (h _ (by simp[AV.ids]))
 | xv top u k kk N l m=>exact fp (h _ (by simp[AV.ids]))
 | capv k c=>rfl
 | any k=>exact fp (h _ (by simp[AV.ids]))
 | und=>rfl
theorem AV.ok_loc {x:AV} (h: ∀i∈x.ids,θ' i=θ i) (k:x.ok P w0 J θ n chs):x.ok P w0 J θ' n chs:=by
 cases x with
 | one x=>exact LV.ok_loc h k
 | agg xs=>exact fun x hx=>LV.ok_loc (fun i hi=>h i (pw hx hi)) (k x hx)
 | tup ys=>exact fun y hy x hx=>LV.ok_loc (fun i hi=>h i (xm hy (pw hx hi))) (k y hy x hx)
 | elr g E t xs x i off=>exact ⟨k.1,k.2.1,by rw[fp (h _ (by simp[AV.ids]))];exact k.2.2⟩
 | elo g ver E t xs x i off=>exact k
 | sub g ver E t xs l=>exact k
 | pre g ver E t xs l=>exact k
 | vw u g kk N l m=>exact ⟨k.1,k.2.1,by rw[fp (h _ (by simp[AV.ids])),fp (h _ (by simp[AV.ids]))];exact k.2.2⟩
 | xv top u g kk N l m=>exact ⟨k.1,k.2.1,by rw[fp (h _ (by simp[AV.ids])),fp (h _ (by simp[AV.ids]))];exact k.2.2⟩
 | capv g c=>exact ⟨k.1,by rw[fp (h _ (by simp[AV.ids]))];exact k.2⟩
 | any g=>exact k
 | und=>trivial
theorem Qu {e:Ent} (h: ∀i∈Az e.1 e.2.2,θ' i=θ i):toCh P θ' e=toCh P θ e:=by
 obtain ⟨k,ver,c⟩:=e
 have hk:hv θ' k=hv θ k:=fp (h _ (by simp[Az]))
 cases c with
 | own t d=>show Ch.own _ [hv θ' k] d=_;rw[hk];rfl
 | blk T cells=>show Ch.blk (bk (hv θ' k)) (cells.map (·.v θ')) T=_;rw[hk,Cb fun i hi=>h i (ba _ hi)];rfl
 | hole over t d u y f i kk off lv=>show Ch.gap _ [hv θ' k] _ f (ptB (hv θ' k)) (ptO (hv θ' k)+(i.toNat*kk+off)) (lv.v θ')=_;rw[hk,LV.v_loc fun i hi=>h i (ba _ hi)];rfl
 | box T t d=>show Ch.box (bk (hv θ' k)) T _ d=_;rw[hk];rfl
 | map K E kk e m=>show @Ch.mp P K E kk.den e.den kk.dec kk.lit kk.ok e.lit e.z (hv θ' k) m=_;rw[hk];rfl
 | clo _ _ _=>rfl
theorem UP {e:Ent} (h: ∀i∈Az e.1 e.2.2,θ' i=θ i) (k:okE P w0 J θ n chs e):okE P w0 J θ' n chs e:=by
 obtain ⟨g,ver,c⟩:=e
 cases c with
 | own t d=>exact k
 | blk T cells=>exact ⟨k.1,k.2.1,fun x hx=>LV.ok_loc (fun i hi=>h i (ba _ (pw hx hi))) (k.2.2 x hx)⟩
 | hole over t d u y f i kk off lv=>exact ⟨k.1,k.2.1,LV.ok_loc (fun i hi=>h i (ba _ hi)) k.2.2.1,k.2.2.2⟩
 | box T t d=>exact k
 | map K E kk e m=>exact k
 | clo f first capt =>
  obtain ⟨h1,h2,h3,h4,h5⟩:=k
  have hf: ∀y∈first,∀i∈MA y.2,θ' i=θ i:=fun y hy i hi=>h i (ba _ (aT _ (xm hy hi)))
  have hc: ∀i∈MA capt,θ' i=θ i:=fun i hi=>h i (ba _ (aX _ hi))
  refine ⟨h1,h2,fun y hy x hx=>LV.ok_loc (fun i hi=>hf y hy i (pw hx hi)) (h3 y hy x hx),fun x hx=>LV.ok_loc (fun i hi=>hc i (pw hx hi)) (h4 x hx),?_⟩
  show hv θ' g=_
  rw[fp (h _ (by simp[Az])),Cb hc,List.map_congr_left fun y hy=>DV (hf y hy)]
  exact h5
def AV.elos:AV->List (Hdr×Nat)
 | .elo h ver _ _ _ _ _ _=>[(h,ver)]
 | .sub h ver _ _ _ _=>[(h,ver)]
 | .pre h ver _ _ _ _=>[(h,ver)]
 | _=>[]
def Chk.elos (ver:Nat):Chk->List (Hdr×Nat)
 | .hole _ _ _ _ _ _ _ _ _ (.own l)=>[(l,ver)]
 | _=>[]
theorem LV.ok_le {x:LV} (hm:n<=m) (h:x.ok P w0 J θ n):x.ok P w0 J θ m:=LV.ok_same Same.rfl' hm h Hp.le.rfl
where Same.rfl' {n:Nat} {θ:Th} :Same n θ θ:=fun i hi=>Eq.refl _
theorem AV.ok_move {x:AV} (hn:n<=m) (hm: ∀h ver c,(h,ver)∈x.elos->Mem chs n h ver c-> ∀e∈chs',∀c',Says e h ver c'->c'=c) (k:x.ok P w0 J θ n chs):x.ok P w0 J θ m chs':=by
 cases x with
 | one x=>exact LV.ok_le hn k
 | agg xs=>exact fun x hx=>LV.ok_le hn (k x hx)
 | tup ys=>exact fun y hy x hx=>LV.ok_le hn (k y hy x hx)
 | elr g E t xs x i off=>exact ⟨aI k.1 hn,k.2⟩
 | elo g ver E t xs x i off=>exact ⟨aI k.1 hn,k.2.1,aI k.2.2.1 hn,hm _ _ _ (by simp[AV.elos]) k.2.2⟩
 | sub g ver E t xs l=>exact ⟨aI k.1 hn,k.2.1,aI k.2.2.1 hn,hm _ _ _ (by simp[AV.elos]) k.2.2⟩
 | pre g ver E t xs l=>exact ⟨aI k.1 hn,k.2.1,aI k.2.2.1 hn,hm _ _ _ (by simp[AV.elos]) k.2.2⟩
 | vw u g kk N l m=>exact ⟨aI k.1 hn,aI k.2.1 hn,k.2.2⟩
 | xv top u g kk N l m=>exact ⟨aI k.1 hn,aI k.2.1 hn,k.2.2⟩
 | capv g c=>exact ⟨aI k.1 hn,k.2⟩
 | any g=>exact aI k hn
 | und=>trivial
theorem HD {e:Ent} (hn:n<=m) (hm: ∀h ver c,(h,ver)∈e.2.2.elos e.2.1->Mem chs n h ver c-> ∀e∈chs',∀c',Says e h ver c'->c'=c) (k:okE P w0 J θ n chs e):okE P w0 J θ m chs' e:=by
 obtain ⟨g,ver,c⟩:=e
 cases c with
 | own t d=>exact ⟨aI k.1 hn,aI k.2.1 hn,trivial⟩
 | blk T cells=>exact ⟨aI k.1 hn,aI k.2.1 hn,fun x hx=>LV.ok_le hn (k.2.2 x hx)⟩
 | hole over t d u y f i kk off lv =>
  refine ⟨aI k.1 hn,aI k.2.1 hn,LV.ok_le hn k.2.2.1,k.2.2.2.1,k.2.2.2.2.1,fun l hl=>?_⟩
  have:=k.2.2.2.2.2 l hl
  exact ⟨aI this.1 hn,hm _ _ _ (by subst hl;simp[Chk.elos]) this⟩
 | box T t d=>exact ⟨aI k.1 hn,aI k.2.1 hn,trivial⟩
 | map K E kk e m=>exact ⟨aI k.1 hn,aI k.2.1 hn,trivial⟩
 | clo f first capt=>exact ⟨aI k.1 hn,aI k.2.1 hn,fun y hy x hx=>LV.ok_le hn (k.2.2.1 y hy x hx),fun x hx=>LV.ok_le hn (k.2.2.2.1 x hx),k.2.2.2.2⟩
end
structure TR where
 i:Nat
 o:Oper
 b:List Nat
 s:Sg
 r:Res
 run:Bool
def jW (n0:Nat) (x:TR):List Ent:=x.r.gives.map fun g=>(g.1,n0+x.i,g.2)
def yt (n0:Nat) (env:List (Nat×Nat×AV)):List TR->List (Nat×Nat×AV)
 | [] =>env
 | x::l=>KH x.o.dst (n0+x.i) x.r.av (yt n0 env l)
def gQ (n0:Nat) (chs:List Ent):List TR->List Ent
 | [] =>chs
 | x::l=>jW n0 x++gQ n0 chs l
def sameKey (a b:Ent):Bool:=Nat.beq a.2.1 b.2.1&&Hdr.beq a.1 b.1
def W1 (e:Ent) (l:List TR):Bool:=l.any fun x=>x.r.ns.any fun e'=>sameKey e' e
def inB (n0:Nat) (b:List Nat) (v:Nat):Bool:=Nat.blt v n0 || tN (v - n0) b
def subS (s0:Sg) (l:List TR) (i:Nat) (b:List Nat):Sg:=
 ⟨(yt s0.nxt s0.env l).filter fun e=>inB s0.nxt b e.2.1,(gQ s0.nxt s0.chs l).filter fun e=>inB s0.nxt b e.2.1 && !W1 e l,s0.nxt+i⟩
def Qv (s0:Sg) (l:List TR):Sg:=subS s0 l l.length (List.range l.length)
def recAt (i:Nat):List TR->Option TR
 | [] =>none
 | x::l=>if Nat.beq x.i i then some x else recAt i l
def YK (t:Nat) (l:List Nat):List Nat:=if tN t l then l else t::l
def DW:List Nat->List Nat->List Nat
 | [],acc=>acc
 | t::l,acc=>DW l (YK t acc)
def bOf (l:List TR):List Nat->List Nat->List Nat
 | [],acc=>acc
 | j::js,acc=>bOf l js (DW (match recAt j l with | some y=>y.b | none=>[]) (YK j acc))
def MB {Y:Type} (g:Bool) (av:AV) (k:AV->Option Y):Option Y:=match g with
 | false=>k av
 | true=>match av with
  | .one (.val (.bool b))=>if b then k (.one (.val (.bool true))) else k (.one (.val (.bool false)))
  | .one (.nb b)=>if b then k (.one (.val (.bool false))) else k (.one (.val (.bool true)))
  | _=>none
def MC (ops:List Oper) (i:Nat):Bool:=match ops with
 | [] =>false
 | o::ops=>(match o.guard with | some (g,_)=>Nat.beq g i | none=>false) || MC ops i
section
variable {Y:Type} (V:Env) (ops:List Oper) (s0:Sg) (k:List TR->Option Y)
def Zi (o:Oper) (i:Nat) (l:List TR) (b:List Nat) (s:Sg):Option Y:=
 bw (okO V.n s o) (step V s (fun r=>MB (MC ops i) r.av fun av=>k (⟨i,o,b,s,⟨r.rs,r.ns,r.rest,r.gives,av⟩,true⟩::l)) o)
def UQ (o:Oper) (i:Nat) (l:List TR) (b:List Nat) (s:Sg):Option Y:=
 k (⟨i,o,b,s,⟨[],[],s.chs,[],.und⟩,false⟩::l)
def opD (o:Oper) (i:Nat) (l:List TR) (b:List Nat) (s:Sg):Option Y:=match o.guard with
 | none=>Zi V ops k o i l b s
 | some (g,want)=>match recAt g l with
  | some y=>match y.r.av with
   | .one (.val (.bool c))=>match c==want with
    | true=>Zi V ops k o i l b s
    | false=>UQ k o i l b s
   | .und=>UQ k o i l b s
   | _=>none
  | none=>none
def goD:List Oper->Nat->List TR->Option Y
 | [],_,l=>k l
 | o::os,i,l=>(fun b=>opD V ops (goD os (i+1)) o i l b (subS s0 l i b)) (bOf l (edgesOf o) [])
end
def GdOk (l:List TR) (x:TR):Prop:=match x.o.guard with
 | none=>x.run=true
 | some (g,want)=> ∃y∈l,y.i=g/\((∃c:Bool,y.r.av= .one (.val (.bool c))/\x.run=(c==want))\/(y.r.av= .und/\x.run=false))
structure RecOk (P:Program) (w0:World) (n:Nat) (s0:Sg) (ops:List Oper) (l:List TR) (x:TR):Prop where
 hi:x.i=l.length
 ho:ops[x.i]? =some x.o
 hb:x.b=bOf l (edgesOf x.o) []
 hs:x.s=subS s0 l x.i x.b
 good:x.run=true->Good P w0 x.s x.o x.r/\okO n x.s x.o=true
 skip:x.run=false->x.r=⟨[],[],x.s.chs,[],.und⟩
 gd:GdOk l x
def AllOk (P:Program) (w0:World) (n:Nat) (s0:Sg) (ops:List Oper):List TR->Prop
 | [] =>True
 | x::l=>RecOk P w0 n s0 ops l x/\AllOk P w0 n s0 ops l
section
variable {Y:Type} {V:Env} {P:Program} {w0:World} {ops:List Oper} {s0:Sg} {k:List TR->Option Y} {res:Y}
theorem xn {i:Nat} {y:TR} : ∀ {l:List TR},recAt i l=some y->y∈l/\y.i=i
 | x::l,h=>by
  unfold recAt at h
  split at h
  ·rename_i hx
   obtain rfl:=ae h
   exact ⟨by simp,aq hx⟩
  ·obtain ⟨h1,h2⟩:=xn h
   exact ⟨by simp[h1],h2⟩
theorem rS {s:Sg} {o:Oper} {r:Res} {av:AV} (h:Good P w0 s o r) (hv: ∀θ,av.v θ=r.av.v θ) (hok: ∀(J:Hp) (θ:Th) n chs,av.ok P w0 J θ n chs):Good P w0 s o ⟨r.rs,r.ns,r.rest,r.gives,av⟩:=
 ⟨h.perm,h.says,fun J θ hf=>OpT.weak (h.op J θ hf) (fun v hv'=>⟨hok _ _ _ _,(hv _).trans hv'.2.1,hv'.2.2⟩) (fun v _=>rfl)⟩
theorem MF {g:Bool} {s:Sg} {o:Oper} {r:Res} {f:AV->Option Y} (h:MB g r.av f=some res) (hG:Good P w0 s o r): ∃av,f av=some res/\Good P w0 s o ⟨r.rs,r.ns,r.rest,r.gives,av⟩:=by
 unfold MB at h
 split at h
 ·exact ⟨r.av,h,hG⟩
 ·split at h
  ·rename_i b hb
   cases b with
   | true=>exact ⟨_,h,rS hG (fun θ=>by rw[hb]) fun _ _ _ _=>Eq.refl true⟩
   | false=>exact ⟨_,h,rS hG (fun θ=>by rw[hb]) fun _ _ _ _=>Eq.refl true⟩
  ·rename_i b hb
   cases b with
   | true=>exact ⟨_,h,rS hG (fun θ=>by rw[hb];rfl) fun _ _ _ _=>Eq.refl true⟩
   | false=>exact ⟨_,h,rS hG (fun θ=>by rw[hb];rfl) fun _ _ _ _=>Eq.refl true⟩
  ·cases h
theorem MG (hT:TTok P V.tt) (hF:FTok P V.ft): ∀ {os:List Oper} {i:Nat} {l:List TR},goD V ops s0 k os i l=some res->i=l.length->ops.drop i=os->AllOk P w0 V.n s0 ops l-> ∃l',k l'=some res/\AllOk P w0 V.n s0 ops l'/\l'.length=ops.length
 | [],i,l,h,hi,hd,ha=>⟨l,h,ha,by
  have h1:=List.drop_eq_nil_iff.1 hd
  have: ∀ {l:List TR},AllOk P w0 V.n s0 ops l->l.length<=ops.length:=by
   intro l
   induction l with
   | nil=>intro _;exact Nat.zero_le _
   | cons x l ih =>
    rintro ⟨hx,hl⟩
    have:=(List.getElem?_eq_some_iff.1 hx.ho).1
    rw[hx.hi] at this
    exact this
  have:=this ha
  omega⟩
 | o::os,i,l,h,hi,hd,ha=>by
  have ho:ops[i]? =some o:=by
   have:=congrArg (·[0]?) hd
   simpa using this
  have hd':ops.drop (i+1)=os:=by
   rw[<-List.drop_drop,hd];rfl
  have h:opD V ops (goD V ops s0 k os (i+1)) o i l (bOf l (edgesOf o) []) (subS s0 l i (bOf l (edgesOf o) []))=some res:=h
  have run:(GdOk l ⟨i,o,bOf l (edgesOf o) [],subS s0 l i (bOf l (edgesOf o) []),⟨[],[],[],[],.und⟩,true⟩)->Zi V ops (goD V ops s0 k os (i+1)) o i l (bOf l (edgesOf o) []) (subS s0 l i (bOf l (edgesOf o) []))=some res-> ∃l',k l'=some res/\AllOk P w0 V.n s0 ops l'/\l'.length=ops.length:=by
   intro hg h
   obtain ⟨hk,h⟩:=aj h
   obtain ⟨r,hr,hG⟩:=Mq (w0:=w0) hT hF h
   obtain ⟨av,h,hG⟩:=MF hr hG
   exact MG hT hF h (by rw[hi];rfl) hd' ⟨⟨hi,ho,rfl,rfl,fun _=>⟨hG,hk⟩,fun e=>(by cases e),hg⟩,ha⟩
  have skp:(GdOk l ⟨i,o,bOf l (edgesOf o) [],subS s0 l i (bOf l (edgesOf o) []),⟨[],[],[],[],.und⟩,false⟩)->UQ (goD V ops s0 k os (i+1)) o i l (bOf l (edgesOf o) []) (subS s0 l i (bOf l (edgesOf o) []))=some res-> ∃l',k l'=some res/\AllOk P w0 V.n s0 ops l'/\l'.length=ops.length:=by
   intro hg h
   exact MG hT hF h (by rw[hi];rfl) hd' ⟨⟨hi,ho,rfl,rfl,fun e=>(by cases e),fun _=>rfl,hg⟩,ha⟩
  unfold opD at h
  split at h
  ·rename_i hg
   exact run (by unfold GdOk;simp only[hg]) h
  ·rename_i g want hg
   split at h
   ·rename_i y hy
    obtain ⟨hy1,hy2⟩:=xn hy
    split at h
    ·rename_i c hc
     split at h
     ·rename_i hcw
      exact run (by unfold GdOk;simp only[hg];exact ⟨y,hy1,hy2,.inl ⟨c,hc,hcw.symm⟩⟩) h
     ·rename_i hcw
      exact skp (by unfold GdOk;simp only[hg];exact ⟨y,hy1,hy2,.inl ⟨c,hc,hcw.symm⟩⟩) h
    ·rename_i hc
     exact skp (by unfold GdOk;simp only[hg];exact ⟨y,hy1,hy2,.inr ⟨hc,trivial⟩⟩) h
    ·cases h
   ·cases h
end
end R
namespace R
open Go.RowKit
open D
def yu (l:List (Nat×Nat×AV)) (t:Nat):Option Nat:=match l with
 | [] =>none
 | (u,k,_)::l=>if Nat.beq u t then some k else yu l t
def numOf (e:Ent):List Ent->Nat
 | [] =>0
 | x::l=>if sameKey x e then 0 else numOf e l+1
def Sn (n0 v:Nat):Option Nat:=if Nat.blt v n0 then none else some (v - n0)
def DX (n0:Nat) (env:List (Nat×Nat×AV)):List Nat->List (Nat×Option Nat)
 | [] =>[]
 | t::l=>match yu env t with
  | some v=>(t,Sn n0 v)::DX n0 env l
  | none=>DX n0 env l
def opK (n0:Nat) (T:List Ent) (ops:Array Oper) (x:TR):OpK:=⟨x.r.rs.map (numOf · T),x.r.ns.map (numOf · T),(jW n0 x).map (numOf · T),DX n0 x.s.env (slotsOf ops x.o)⟩
def MH (n0:Nat):List (Nat×Nat×AV)->List Nat->List (Nat×Option Nat)
 | [],_=>[]
 | e::l,seen=>match tN e.1 seen with
  | true=>MH n0 l seen
  | false=>(e.1,Sn n0 e.2.1)::MH n0 l (e.1::seen)
def nF (s0:Sg) (ops:List Oper) (l:List TR) (T:List Ent):Skel:=
 ⟨(l.map (opK s0.nxt T ops.toArray)).reverse,T.length,s0.chs.map (numOf · T),(l.map (·.b)).reverse,MH s0.nxt (Qv s0 l).env [],(Qv s0 l).chs.map (numOf · T)⟩
def gX:List Ent->Bool
 | [] =>true
 | e::l=> !(l.any fun x=>sameKey x e)&&gX l
def kZ:List Ent->Bool
 | [] =>true
 | e::l=>zP e.1 l&&kZ l
def UR (h:Hdr) (ver:Nat) (e:Ent):Bool:=Hdr.beq e.1 h&&(Nat.beq e.2.1 ver || match e.2.2 with
 | .hole over _ _ _ _ _ _ _ _ _=>Nat.beq over ver
 | _=>false)
def allowed (n0:Nat) (x:TR) (v:Nat):Bool:=Nat.blt v n0 || (Nat.beq (v - n0) x.i || tN (v - n0) x.b)
def So (n0:Nat) (x:TR):List (Hdr×Nat):=x.r.av.elos++x.r.gives.flatMap fun g=>g.2.elos (n0+x.i)
def Qw (x:TR):List Nat:=x.r.av.ids++x.r.gives.flatMap fun g=>Az g.1 g.2
def yw (n0:Nat) (x:TR):Bool:=zL (Qw x) (allowed n0 x)&&(So n0 x).all fun q=>(x.r.chs (n0+x.i)).any (UR q.1 q.2) || (Nat.beq q.2 (n0+x.i) && !(x.r.gives.any fun g=>Hdr.beq g.1 q.1))
def knS (s0:Sg) (t:Nat):Bool:=(look s0.env t).isSome
def Sp (n:Nat) (s0:Sg) (ops:List Oper) (l:List TR) (T:List Ent):Bool:=kZ s0.chs&&(gX T&&(l.all (yw s0.nxt)&&((nF s0 ops l T).ok n (knS s0) ops&&(nF s0 ops l T).okB (knS s0) ops)))
section
variable {Y:Type} (V:Env)
def yx (s0:Sg):List Oper->List Hdr
 | [] =>[]
 | o::os=>Ax s0 o.op.operands.toList++yx s0 os
def HE (ops:List Oper) (k:Sg->Option Y) (s0:Sg):Option Y:=goD V ops s0 (fun l=>bw (Sp V.n s0 ops l (gQ s0.nxt s0.chs l)) (k (Qv s0 l))) ops 0 []
def Sq (tr:Trs) (s0:Sg):List Oper->List (Bool×Hdr)
 | [] =>[]
 | o::os=>ldF tr s0 o++(ZZ tr s0 o++Sq tr s0 os)
def W2 (o:Oper):Bool:=match o.op with
 | .indexAddr _ _ _=>true
 | _=>false
def W3 (tr:Trs) (ops:List Oper):Trs:=match ops.any W2 with
 | true=>tr
 | false=>Mt tr
def HF (tr:Trs) (ops:List Oper) (s:Sg):Sg:=match tr with
 | [] =>s
 | _=>PH (W3 tr ops) (Sq (W3 tr ops) s ops) s
def isApp (o:Oper):Bool:=match o.op with
 | .buildSlice _ _ _=>true
 | _=>false
def YL (s:Sg):List Oper->List Hdr
 | [] =>[]
 | o::os=>match o.op with
  | .move x=>match opd s x with
   | some (.one (.own h))=>h::YL s os
   | _=>YL s os
  | _=>YL s os
def Cc:List Hdr->Sg->Sg
 | [],s=>s
 | h::hs,s=>Cc hs (vG h s)
def uw (ops:List Oper) (s:Sg):Sg:=match ops.any W2 && !ops.any isApp with
 | true=>Cc (YL s ops) s
 | false=>s
def Qx (tr:Trs) (ops:List Oper) (s0:Sg):Sg:=match uw ops (ql s0) with
 | s=>HF tr ops (uq (yx s ops) s)
def Zj (t:Nat) (o:Oper):Bool:=match o.op with
 | .load _ (.tmp u)=>Nat.beq u t
 | _=>false
def W4:Operand->Operand->Bool
 | .tmp a,.tmp b=>Nat.beq a b
 | _,_=>false
def Zk (t:Nat):List Oper->Option Operand
 | [] =>none
 | o::os=>match o.op,o.dst with
  | .move y,some u=>(match Nat.beq u t with
   | true=>some y
   | false=>Zk t os)
  | _,_=>Zk t os
def W5 (ops:List Oper) (x:Operand):Operand:=match x with
 | .tmp t=>(match Zk t ops with
  | some y=>y
  | none=>x)
 | _=>x
def Qy (ops:List Oper):List Oper->List (Operand×Operand)
 | [] =>[]
 | o::os=>match o.op,o.dst with
  | .indexAddr _ x i,some t=>(match ops.any (Zj t) with
   | true=>(W5 ops x,W5 ops i)::Qy ops os
   | false=>Qy ops os)
  | _,_=>Qy ops os
def DY (s:Sg):List (Operand×Operand)->Option (Hdr×Int)
 | [] =>none
 | (x,i)::l=>match l.any fun q=>W4 q.1 x&&W4 q.2 i with
  | true=>(match opd s x,opd s i with
   | some (.one (.own h)),some (.one (.val (.int .i64 j)))=>(match rowOf h s.chs with
    | some r=>(match r.t.sh || !Nat.beq r.t.size 1 with
     | false=>some (h,j)
     | true=>DY s l)
    | none=>DY s l)
   | _,_=>DY s l)
  | false=>DY s l
def MI (ops:List Oper) (k:Sg->Option Y) (s:Sg):Option Y:=match DY s (Qy ops ops) with
 | some q=>WR q.1 q.2 s (HE V ops k)
 | none=>HE V ops k s
def W6 (ops:List Oper) (k:Sg->Option Y) (s:Sg):Option Y:=MI V ops k (Qx V.tr ops s)
end
theorem vI {a b:Ent} :sameKey a b=true↔a.2.1=b.2.1/\a.1=b.1:=by
 unfold sameKey
 rw[ah,V7]
 grind[Hdr.beq_eq,BG]
theorem wE {l:List Ent} :gX l=true-> ∀a∈l,∀b∈l,a.2.1=b.2.1->a.1=b.1->a=b:=by
 induction l with
 | nil=>grind
 | cons e l ih =>
  intro h a ha b hb
  unfold gX at h
  rw[ah,Bool.not_eq_true'] at h
  have ⟨h1,h2⟩:=h
  have key: ∀x∈l,¬(x.2.1=e.2.1/\x.1=e.1):=fun x hx hk=>by
   have:(l.any fun x=>sameKey x e)=true:=List.any_eq_true.2 ⟨x,hx,vI.2 hk⟩
   rw[h1] at this;cases this
  intro k1 k2
  rcases az ha with ha' | ha'
  ·rcases az hb with hb' | hb'
   ·rw[ha',hb']
   ·rw[ha'] at k1 k2;exact absurd ⟨k1.symm,k2.symm⟩ (key b hb')
  ·rcases az hb with hb' | hb'
   ·rw[hb'] at k1 k2;exact absurd ⟨k1,k2⟩ (key a ha')
   ·exact ih h2 a ha' b hb' k1 k2
theorem DZ {l:List Ent} :kZ l=true-> ∀a∈l,∀b∈l,a.1=b.1->a=b:=by
 induction l with
 | nil=>grind
 | cons e l ih =>
  intro h a ha b hb
  unfold kZ at h
  rw[ah] at h
  have ⟨h1,h2⟩:=h
  intro k
  rcases az ha with ha' | ha'
  ·rcases az hb with hb' | hb'
   ·rw[ha',hb']
   ·rw[ha'] at k;exact absurd k.symm (nD h1 hb')
  ·rcases az hb with hb' | hb'
   ·rw[hb'] at k;exact absurd k (nD h1 ha')
   ·exact ih h2 a ha' b hb' k
theorem rT {e:Ent} : ∀ {T:List Ent},gX T=true->e∈T->T[numOf e T]? =some e
 | x::T,hd,he=>by
  unfold numOf
  split
  ·rename_i hk
   have ⟨k1,k2⟩:=vI.1 hk
   exact congrArg some (wE hd x (by simp) e he k1 k2)
  ·have hd':=hd
   unfold gX at hd'
   rw[ah] at hd'
   rcases az he with rfl | he
   ·grind[absurd,vI]
   ·exact rT hd'.2 he
theorem Qz {h:Hdr} {ver:Nat} {e:Ent} (k:UR h ver e=true): ∃c,Says e h ver c:=by
 unfold UR at k
 rw[ah,Bool.or_eq_true] at k
 have ⟨h1,h2⟩:=k
 have h1:=Hdr.beq_eq h1
 have ⟨g,v,c⟩:=e
 rcases h2 with h2 | h2
 ·exact ⟨c,h1,.inl ⟨aq h2,rfl⟩⟩
 ·cases c with
  | hole over t d u y f i kk off lv=>exact ⟨.own t d,h1,.inr ⟨aq h2,rfl⟩⟩
  | _=>cases h2
section
variable {P:Program} {w0:World} {n:Nat} {s0:Sg} {ops:List Oper} {l:List TR}
theorem AllOk.lt:AllOk P w0 n s0 ops l-> ∀y∈l,y.i<l.length:=by
 induction l with
 | nil=>grind
 | cons w l ih =>
  rintro ⟨e1,e2⟩ y hy
  rcases az hy with rfl | hy
  ·rw[e1.hi,aB];omega
  grind
theorem AllOk.uniq:AllOk P w0 n s0 ops l-> ∀x∈l,∀y∈l,x.i=y.i->x=y:=by
 induction l with
 | nil=>grind
 | cons w l ih =>
  rintro ⟨e1,e2⟩ x hx y hy h
  have hw:=e1.hi
  rcases az hx with hx | hx
  ·rcases az hy with hy | hy
   ·grind
   ·have:=e2.lt y hy
    grind
  ·rcases az hy with hy | hy
   ·have:=e2.lt x hx
    grind
   grind
theorem AllOk.get {x:TR} :AllOk P w0 n s0 ops l->x∈l-> ∃l1,RecOk P w0 n s0 ops l1 x/\AllOk P w0 n s0 ops l1/\(∀y∈l1,y∈l)/\ ∀y∈l,y.i<x.i->y∈l1:=by
 induction l with
 | nil=>grind
 | cons z l ih =>
  rintro ⟨h1,h2⟩ hx
  rcases az hx with hx | hx
  ·grind
  ·have ⟨l1,k1,k2,k3,k4⟩:=ih h2 hx
   refine ⟨l1,k1,k2,fun y hy=>by grind,fun y hy hlt=>?_⟩
   rcases az hy with hy | hy
   ·have h3:=h2.lt x hx
    have h4:=h1.hi
    grind
   grind
theorem AllOk.at {α:Type} (f:TR->α):AllOk P w0 n s0 ops l-> ∀i,i<l.length-> ∃x∈l,x.i=i/\(l.map f).reverse[i]? =some (f x):=by
 induction l with
 | nil=>grind
 | cons w l ih =>
  rintro ⟨e1,e2⟩ i hi
  by_cases h:i<l.length
  ·grind
  ·have h3:i=l.length:=by rw[aB] at hi;omega
   subst h3
   refine ⟨w,by simp,e1.hi,?_⟩
   grind
theorem AllOk.opAt (ha:AllOk P w0 n s0 ops l) {x:TR} (hx:x∈l) (T:List Ent):(nF s0 ops l T).op x.i=opK s0.nxt T ops.toArray x/\(nF s0 ops l T).before x.i=x.b:=by
 have hlt:=ha.lt x hx
 have ⟨y,hy,h1,h2⟩:=ha.at (opK s0.nxt T ops.toArray) x.i hlt
 have ⟨z,hz,h3,h4⟩:=ha.at (·.b) x.i hlt
 obtain rfl:=ha.uniq y hy x hx h1
 obtain rfl:=ha.uniq z hz y hx h3
 constructor
 ·show (l.map (opK s0.nxt T ops.toArray)).reverse.getD z.i _=_
  grind
 ·show (l.map (·.b)).reverse.getD z.i [] =_
  grind
theorem jX {n0:Nat} {chs:List Ent} {e:Ent} : ∀ {l:List TR},e∈gQ n0 chs l↔e∈chs\/ ∃x∈l,e∈jW n0 x
 | [] =>by simp[gQ]
 | y::l=>by
  unfold gQ
  rw[List.mem_append,jX (l:=l)]
  grind
theorem jf {n0:Nat} {x:TR} {e:Ent} (h:e∈jW n0 x):e.2.1=n0+x.i/\(e.1,e.2.2)∈x.r.gives:=by
 obtain ⟨g,hg,rfl⟩:=List.mem_map.1 h
 grind
theorem tl {n0:Nat} {env:List (Nat×Nat×AV)} {e:Nat×Nat×AV} : ∀ {l:List TR},e∈yt n0 env l->e∈env\/ ∃x∈l,x.o.dst=some e.1/\e.2.1=n0+x.i/\e.2.2=x.r.av
 | [],h=>.inl h
 | y::l,h=>by
  unfold yt KH at h
  split at h
  ·rcases az h with rfl | h
   ·grind
   ·exact (tl h).imp id fun ⟨x,hx,k⟩=>⟨x,by grind,k⟩
  ·exact (tl h).imp id fun ⟨x,hx,k⟩=>⟨x,by grind,k⟩
theorem MJ {n0:Nat} {b:List Nat} {v:Nat} :inB n0 b v=true↔v<n0\/v - n0∈b:=by unfold inB;rw[Bool.or_eq_true,V8,mK]
theorem vJ {i:Nat} {b:List Nat} {e:Ent} (h:e∈(subS s0 l i b).chs):e∈gQ s0.nxt s0.chs l/\(e.2.1<s0.nxt\/e.2.1 - s0.nxt∈b):=by
 have ⟨h1,h2⟩:=List.mem_filter.1 h
 simp_all[ah,MJ]
theorem Cd {i:Nat} {b:List Nat} {e:Nat×Nat×AV} (h:e∈(subS s0 l i b).env):e∈yt s0.nxt s0.env l/\(e.2.1<s0.nxt\/e.2.1 - s0.nxt∈b):=by
 have ⟨h1,h2⟩:=List.mem_filter.1 h
 grind[MJ]
def qn (θ:Th) (n0:Nat) (vs:Nat->Value):Th:=fun id=>if id<n0 then θ id else vs (id - n0)
theorem mL {θ:Th} {n0:Nat} {vs:Nat->Value} :Same n0 θ (qn θ n0 vs):=fun i hi=>if_pos hi
theorem QA {θ:Th} {n0 i:Nat} {vs:Nat->Value} {v:Value} :qn θ n0 (upd vs i v)=upd (qn θ n0 vs) (n0+i) v:=by
 funext id
 show (if id<n0 then θ id else if id - n0=i then v else vs (id - n0))=if id=n0+i then v else if id<n0 then θ id else vs (id - n0)
 grind
def V9 (P:Program) (w0:World) (J:Hp) (θ:Th) (n0:Nat) (x:TR) (v:Value):Prop:=
 x.r.av.ok P w0 J θ (n0+x.i+1) (x.r.chs (n0+x.i))/\x.r.av.v θ=v/\ ∀g∈x.r.gives,okE P w0 J θ (n0+x.i+1) (x.r.chs (n0+x.i)) (g.1,n0+x.i,g.2)
end
section
variable {P:Program} {w0:World} {n:Nat} {s0:Sg} {ops:List Oper} {l:List TR} {J:Hp} {θ:Th} {vs:Nat->Value}
def Kf (s0:Sg) (l:List TR) (h:Hdr) (ver:Nat) (c:Chk):Prop:=(∃e0∈s0.chs,Says e0 h ver c)\/ ∃x∈l,(h,ver,c)∈jW s0.nxt x
theorem FV {e:Ent} {h:Hdr} {ver:Nat} {c:Chk} {chs:List Ent} {m:Nat} (k:okE P w0 J θ m chs e) (hs:Says e h ver c):ver<m:=by
 have ⟨g,v,x⟩:=e
 obtain ⟨-,hs⟩:=hs
 rcases hs with ⟨h1,-⟩ | hs
 ·rw[<-h1];exact k.2.1
 ·cases x with
  | hole over t d u y f i kk off lv =>
   rw[<-hs.1]
   exact Nat.lt_trans k.2.2.2.1 k.2.1
  | _=>exact hs.elim
theorem US (hB:kZ s0.chs=true) (hK:gX (gQ s0.nxt s0.chs l)=true) (hf:Fine P w0 J θ s0) {h:Hdr} {ver:Nat} {c c':Chk} (h1:Kf s0 l h ver c) (h2:Kf s0 l h ver c'):c=c':=by
 have base: ∀e1∈s0.chs,∀e2∈s0.chs,∀c c',Says e1 h ver c->Says e2 h ver c'->c=c':=by
  intro e1 he1 e2 he2 c c' k1 k2
  cases DZ hB e1 he1 e2 he2 (k1.1.trans k2.1.symm)
  have hok:=hf.chs e1 he1
  have ⟨g,v,x⟩:=e1
  rcases k1.2 with ⟨a1,a2⟩ | a
  ·rcases k2.2 with ⟨b1,b2⟩ | b
   ·grind
   ·cases x with
    | hole over t d u y f i kk off lv =>
     have:=hok.2.2.2.1
     have e2:=b.1
     omega
    | _=>exact b.elim
  ·rcases k2.2 with ⟨b1,b2⟩ | b
   ·cases x with
    | hole over t d u y f i kk off lv =>
     have:=hok.2.2.2.1
     have e2:=a.1
     omega
    | _=>exact a.elim
   ·cases x with
    | hole over t d u y f i kk off lv=>rw[a.2,b.2]
    | _=>exact a.elim
 rcases h1 with ⟨e1,he1,k1⟩ | ⟨x,hx,k1⟩
 ·rcases h2 with ⟨e2,he2,k2⟩ | ⟨y,hy,k2⟩
  ·grind
  ·have:=FV (hf.chs e1 he1) k1
   have:=(jf k2).1
   grind
 ·rcases h2 with ⟨e2,he2,k2⟩ | ⟨y,hy,k2⟩
  ·have:=FV (hf.chs e2 he2) k2
   have:=(jf k1).1
   grind
  ·have:=wE hK _ (jX.2 (.inr ⟨x,hx,k1⟩)) _ (jX.2 (.inr ⟨y,hy,k2⟩)) rfl rfl
   grind
theorem HG (hB:kZ s0.chs=true) (hK:gX (gQ s0.nxt s0.chs l)=true) (hf:Fine P w0 J θ s0) (ha:AllOk P w0 n s0 ops l) (hc: ∀x∈l,yw s0.nxt x=true)
  (L1:List TR) (hL: ∀y∈L1,y∈l) (b:List Nat) (i:Nat) (hbi: ∀j∈b,j<i)
  (hfact: ∀y∈l,y.i∈b->V9 P w0 J (qn θ s0.nxt vs) s0.nxt y (vs y.i))
  (horig: ∀y∈l,y.i∈b-> ∀e∈jW s0.nxt y,∀h ver c,Says e h ver c->Kf s0 l h ver c)
  (hback: ∀y∈l,y.i∈b-> ∀e∈y.r.chs (s0.nxt+y.i),∀h ver c,Says e h ver c->Kf s0 l h ver c)
  (hnd:(yt s0.nxt s0.env L1).Pairwise fun a b=>a.2.1≠b.2.1):Fine P w0 J (qn θ s0.nxt vs) (subS s0 L1 i b):=by
 have own: ∀e∈(subS s0 L1 i b).chs,∀h ver c,Says e h ver c->Kf s0 l h ver c:=by
  intro e he h ver c hs
  have ⟨h1,h2⟩:=vJ he
  rcases jX.1 h1 with h1 | ⟨y,hy,h1⟩
  ·exact .inl ⟨e,h1,hs⟩
  ·grind[hv,jf,Nat.add_sub_cancel_left]
 have mem0: ∀h ver c,Mem s0.chs s0.nxt h ver c-> ∀e∈(subS s0 L1 i b).chs,∀c',Says e h ver c'->c'=c:=by
  intro h ver c hm e he c' hs
  rcases own e he h ver c' hs with ⟨e0,he0,k⟩ | ⟨y,hy,k⟩
  ·exact hm.2 e0 he0 c' k
  ·have:=(jf k).1
   have:=hm.1
   grind
 have memj: ∀y∈l,y.i∈b-> ∀h ver,(h,ver)∈So s0.nxt y-> ∀c,Mem (y.r.chs (s0.nxt+y.i)) (s0.nxt+y.i+1) h ver c-> ∀e∈(subS s0 L1 i b).chs,∀c',Says e h ver c'->c'=c:=by
  intro y hy hyb h ver hel c hm e he c' hs
  have hch:=hc y hy
  unfold yw at hch
  rw[ah] at hch
  have:=(List.all_eq_true.1 hch.2) (h,ver) hel
  rcases Bool.or_eq_true_iff.1 this with this | this
  rotate_left
  ·rw[ah,Bool.not_eq_true'] at this
   have hver:=aq this.1
   rcases own e he h ver c' hs with ⟨e0,he0,k⟩ | ⟨z,hz,k⟩
   ·have:=FV (hf.chs e0 he0) k
    omega
   ·have ⟨k1,k2⟩:=jf k
    grind[AllOk.uniq,Hdr.beq,List.any_eq_true,BG]
  have ⟨e1,he1,hk⟩:=List.any_eq_true.1 this
  have ⟨c1,hs1⟩:=Qz hk
  have hc1:=hm.2 e1 he1 c1 hs1
  subst hc1
  exact US hB hK hf (own e he h ver c' hs) (hback y hy hyb e1 he1 h ver c1 hs1)
 refine ⟨fun e he=>?_,fun e he=>?_,List.Pairwise.filter _ hnd,fun e he=>?_,hf.lay⟩
 ·have ⟨h1,h2⟩:=Cd he
  rcases tl h1 with h1 | ⟨y,hy,k1,k2,k3⟩
  ·have:=hf.env e h1
   refine AV.ok_move (n:=s0.nxt) (Nat.le_add_right _ _) (fun h ver c _ hm=>mem0 h ver c hm) ?_
   exact AV.ok_same mL (ay _) Newer.rfl this Hp.le.rfl
  ·rcases h2 with h2 | h2
   ·omega
   ·have hyb:y.i∈b:=by rw[k2,Nat.add_sub_cancel_left] at h2;exact h2
    have hr:=hfact y (hL y hy) hyb
    have:=hbi _ hyb
    rw[k3]
    refine AV.ok_move (n:=s0.nxt+y.i+1) (by show s0.nxt+y.i+1<=s0.nxt+i;omega) (fun h ver c hel hm=>memj y (hL y hy) hyb h ver (aT _ hel) c hm) hr.1
 ·have ⟨h1,h2⟩:=Cd he
  rcases tl h1 with h1 | ⟨y,hy,k1,k2,k3⟩
  ·exact aI (hf.ver e h1) (Nat.le_add_right _ _)
  ·rcases h2 with h2 | h2
   ·omega
   ·have:=hbi _ h2
    show e.2.1<s0.nxt+i
    omega
 ·have ⟨h1,h2⟩:=vJ he
  rcases jX.1 h1 with h1 | ⟨y,hy,h1⟩
  ·refine HD (n:=s0.nxt) (Nat.le_add_right _ _) (fun h ver c _ hm=>mem0 h ver c hm) ?_
   exact dS mL (ay _) Newer.rfl (hf.chs e h1) Hp.le.rfl
  ·have ⟨hv,hg⟩:=jf h1
   rcases h2 with h2 | h2
   ·omega
   ·have hyb:y.i∈b:=by rw[hv,Nat.add_sub_cancel_left] at h2;exact h2
    have hr:=hfact y (hL y hy) hyb
    have:=hbi _ hyb
    have hk:=hr.2.2 _ hg
    have he2:e=(e.1,s0.nxt+y.i,e.2.2):=by grind
    rw[he2]
    refine HD (n:=s0.nxt+y.i+1) (by show s0.nxt+y.i+1<=s0.nxt+i;omega) (fun h ver c hel hm=>?_) hk
    exact memj y (hL y hy) hyb h ver (aX _ (List.mem_flatMap.2 ⟨_,hg,hel⟩)) c hm
end
end R
namespace R
open Go.RowKit
open D
theorem ML {t j:Nat} {l:List Nat} :j∈YK t l↔j=t\/j∈l:=by
 unfold YK
 split
 ·rename_i h
  have:=mK.1 h
  constructor
  ·exact fun h=>.inr h
  ·rintro (rfl | h)
   ·exact this
   ·exact h
 ·exact List.mem_cons
theorem D0 {j:Nat} : ∀ {l acc:List Nat},j∈DW l acc↔j∈l\/j∈acc
 | [],acc=>by simp[DW]
 | t::l,acc=>by
  unfold DW
  rw[D0 (l:=l),ML,List.mem_cons]
  constructor
  ·rintro (h | h | h) <;> simp[h]
  ·rintro ((h | h) | h) <;> simp[h]
def bAt (l:List TR) (k:Nat):List Nat:=match recAt k l with
 | some y=>y.b
 | none=>[]
theorem Sr {l:List TR} {j:Nat} : ∀ {js acc:List Nat},j∈bOf l js acc↔j∈acc\/ ∃k∈js,j=k\/j∈bAt l k
 | [],acc=>by simp[bOf]
 | k::js,acc=>by
  unfold bOf
  rw[Sr (js:=js),D0,ML]
  show (j∈bAt l k\/j=k\/j∈acc)\/_↔_
  constructor
  ·rintro ((h | h | h) | ⟨k',hk,h⟩)
   ·exact .inr ⟨k,by simp,.inr h⟩
   ·exact .inr ⟨k,by simp,.inl h⟩
   ·exact .inl h
   ·exact .inr ⟨k',by simp[hk],h⟩
  ·rintro (h | ⟨k',hk,h⟩)
   ·exact .inl (.inr (.inr h))
   ·rcases az hk with hk | hk
    ·subst hk
     rcases h with h | h
     ·exact .inl (.inr (.inl h))
     ·exact .inl (.inl h)
    ·exact .inr ⟨k',hk,h⟩
theorem AA {y:TR} : ∀ {l:List TR},y∈l-> ∃z,recAt y.i l=some z
 | x::l,h=>by
  unfold recAt
  split
  ·exact ⟨_,rfl⟩
  ·rename_i hx
   rcases az h with h | h
   ·rw[h] at hx;exact absurd (Nat.beq_refl _) hx
   ·exact AA h
section
variable {P:Program} {w0:World} {n:Nat} {s0:Sg} {ops:List Oper} {l:List TR} {J:Hp} {θ:Th} {vs:Nat->Value}
theorem AllOk.closed (ha:AllOk P w0 n s0 ops l) (hlt: ∀x∈l,∀j∈x.b,j<x.i): ∀x∈l,∀y∈l,y.i∈x.b-> ∀k∈y.b,k∈x.b:=by
 have main: ∀m,∀x∈l,x.i=m-> ∀y∈l,y.i∈x.b-> ∀k∈y.b,k∈x.b:=by
  intro m
  induction m using Nat.strongRecOn with
  | _ m ih =>
   intro x hx hxm y hy hyb k hk
   obtain ⟨l1,h1,h2,h3,h4⟩:=ha.get hx
   have hyl:=hlt x hx _ hyb
   have hy1:=h4 y hy hyl
   rw[h1.hb,Sr] at hyb⊢
   rcases hyb with hyb | ⟨q,hq,hyb | hyb⟩
   ·cases hyb
   ·refine .inr ⟨q,hq,.inr ?_⟩
    subst hyb
    obtain ⟨z,hz⟩:=AA hy1
    unfold bAt
    rw[hz]
    obtain ⟨hz1,hz2⟩:=xn hz
    obtain rfl:=ha.uniq z (h3 z hz1) y hy hz2
    exact hk
   ·refine .inr ⟨q,hq,.inr ?_⟩
    unfold bAt at hyb⊢
    split at hyb
    ·rename_i z hz
     obtain ⟨hz1,hz2⟩:=xn hz
     have hzl:=h2.lt z hz1
     rw[<-h1.hi] at hzl
     exact ih z.i (by omega) z (h3 z hz1) rfl y hy hyb k hk
    ·cases hyb
 exact fun x hx=>main x.i x hx rfl
theorem Ss (hf:Fine P w0 J θ s0):AllOk P w0 n s0 ops l->(yt s0.nxt s0.env l).Pairwise fun a b=>a.2.1≠b.2.1:=by
 induction l with
 | nil=>intro _;exact hf.nd
 | cons x l ih =>
  rintro ⟨h1,h2⟩
  refine nd_go x.o.dst (ih h2) fun e he=>?_
  rcases tl he with h | ⟨y,hy,k1,k2,k3⟩
  ·have:=hf.ver e h;omega
  ·have:=h2.lt y hy
   have:=h1.hi
   omega
where nd_go {env:List (Nat×Nat×AV)} {k:Nat} {av:AV} (d:Option Nat) (h:env.Pairwise fun a b=>a.2.1≠b.2.1) (hv: ∀e∈env,e.2.1<k):(KH d k av env).Pairwise fun a b=>a.2.1≠b.2.1:=Ak h hv
theorem words (hB:kZ s0.chs=true) (hK:gX (gQ s0.nxt s0.chs l)=true) (hf:Fine P w0 J θ s0) (ha:AllOk P w0 n s0 ops l) (hc: ∀x∈l,yw s0.nxt x=true) (hlt: ∀x∈l,∀j∈x.b,j<x.i)
  (B:List Nat) (hcl: ∀y∈l,y.i∈B-> ∀k∈y.b,k∈B) (hfact: ∀y∈l,y.i∈B->V9 P w0 J (qn θ s0.nxt vs) s0.nxt y (vs y.i)) :
  ∀x∈l,(∀k∈x.b,k∈B)->Fine P w0 J (qn θ s0.nxt vs) x.s/\(∀e∈jW s0.nxt x,∀h ver c,Says e h ver c->Kf s0 l h ver c)/\ ∀e∈x.r.chs (s0.nxt+x.i),∀h ver c,Says e h ver c->Kf s0 l h ver c:=by
 have main: ∀m,∀x∈l,x.i=m->(∀k∈x.b,k∈B)->Fine P w0 J (qn θ s0.nxt vs) x.s/\(∀e∈jW s0.nxt x,∀h ver c,Says e h ver c->Kf s0 l h ver c)/\ ∀e∈x.r.chs (s0.nxt+x.i),∀h ver c,Says e h ver c->Kf s0 l h ver c:=by
  intro m
  induction m using Nat.strongRecOn with
  | _ m ih =>
   intro x hx hxm hxB
   obtain ⟨l1,h1,h2,h3,h4⟩:=ha.get hx
   have IH: ∀y∈l,y.i∈x.b->_:=fun y hy hyb=>ih y.i (by have:=hlt x hx _ hyb;omega) y hy rfl (hcl y hy (hxB _ hyb))
   have hF:Fine P w0 J (qn θ s0.nxt vs) x.s:=by
    rw[h1.hs]
    exact HG hB hK hf ha hc l1 h3 x.b x.i (hlt x hx) (fun y hy hyb=>hfact y hy (hxB _ hyb)) (fun y hy hyb=>(IH y hy hyb).2.1) (fun y hy hyb=>(IH y hy hyb).2.2) (Ss hf h2)
   have hsub: ∀e∈x.s.chs,∀h ver c,Says e h ver c->Kf s0 l h ver c:=by
    intro e he h ver c hs
    rw[h1.hs] at he
    obtain ⟨k1,k2⟩:=vJ he
    rcases jX.1 k1 with k1 | ⟨y,hy,k1⟩
    ·exact .inl ⟨e,k1,hs⟩
    ·have hv:=(jf k1).1
     rcases k2 with k2 | k2
     ·omega
     ·rw[hv,Nat.add_sub_cancel_left] at k2
      exact (IH y (h3 y hy) k2).2.1 e k1 h ver c hs
   have hgv: ∀e∈jW s0.nxt x,∀h ver c,Says e h ver c->Kf s0 l h ver c:=by
    intro e he h ver c hs
    cases hr:x.run with
    | true =>
     obtain ⟨g1,g2⟩:=h1.good hr
     obtain ⟨hv,hg⟩:=jf he
     obtain ⟨k1,k2⟩:=hs
     rcases k2 with ⟨k2,k3⟩ | k2
     ·refine .inr ⟨x,hx,?_⟩
      have:e=(h,ver,c):=by rw[k3,<-k1,<-k2]
      rw[<-this];exact he
     ·obtain ⟨e0,he0,k⟩:=g1.says J _ hF _ hg ver c k2
      simp only at k
      rw[k1] at k
      exact hsub e0 he0 h ver c k
    | false =>
     have:=h1.skip hr
     unfold jW at he
     rw[this] at he
     cases he
   refine ⟨hF,hgv,fun e he h ver c hs=>?_⟩
   unfold Res.chs at he
   rcases aH he with he | he
   ·exact hgv e he h ver c hs
   ·refine hsub e ?_ h ver c hs
    cases hr:x.run with
    | true =>
     obtain ⟨g1,g2⟩:=h1.good hr
     exact g1.perm.mem_iff.2 (by rcases aH he with he | he <;> simp[he])
    | false =>
     rw[h1.skip hr] at he
     simpa using he
 exact fun x hx hxB=>main x.i x hx rfl hxB
theorem rU {t:Nat} {av:AV} : ∀ {env:List (Nat×Nat×AV)},look env t=some av-> ∃v,yu env t=some v/\(t,v,av)∈env
 | (u,k,x)::l,h=>by
  unfold look at h
  unfold yu
  split at h
  ·rename_i hu
   obtain rfl:=ae h
   rw[if_pos hu,aq hu]
   exact ⟨k,rfl,by simp⟩
  ·rename_i hu
   rw[if_neg hu]
   obtain ⟨v,h1,h2⟩:=rU h
   exact ⟨v,h1,by simp[h2]⟩
theorem MM {t v:Nat} {av:AV} {f:Nat×Nat×AV->Bool} (hf: ∀e∈s0.env,f e=true):look ((yt s0.nxt s0.env l).filter f) t=some av->yu ((yt s0.nxt s0.env l).filter f) t=some v->v<s0.nxt->look s0.env t=some av:=by
 induction l with
 | nil =>
  intro h1 h2 h3
  rw[show (yt s0.nxt s0.env []).filter f=s0.env from List.filter_eq_self.2 hf] at h1
  exact h1
 | cons x l ih =>
  intro h1 h2 h3
  unfold yt KH at h1 h2
  split at h1
  ·rename_i d hd
   rw[hd] at h2
   simp only at h2
   rw[List.filter_cons] at h1 h2
   split at h1
   ·rename_i hk
    rw[if_pos hk] at h2
    unfold look at h1
    unfold yu at h2
    split at h1
    ·rename_i hu
     rw[if_pos hu] at h2
     have:=ae h2
     omega
    ·rename_i hu
     rw[if_neg hu] at h2
     exact ih h1 h2 h3
   ·rename_i hk
    rw[if_neg hk] at h2
    exact ih h1 h2 h3
  ·rename_i hd
   rw[hd] at h2
   exact ih h1 h2 h3
theorem W7 (hf:Fine P w0 J θ s0) {b:List Nat} {i:Nat} {L1:List TR} (hL: ∀y∈L1,y∈l) (hfact: ∀y∈l,y.i∈b->V9 P w0 J (qn θ s0.nxt vs) s0.nxt y (vs y.i)) {t v:Nat} {av:AV}
  (h1:look (subS s0 L1 i b).env t=some av) (h2:yu (subS s0 L1 i b).env t=some v):(match Sn s0.nxt v with | some j=>vs j | none=>((envL θ s0).lookup t).getD undef)=av.v (qn θ s0.nxt vs):=by
 obtain ⟨v',h3,h4⟩:=rU h1
 obtain rfl:=ae (h2.symm.trans h3)
 unfold Sn
 by_cases hv:v<s0.nxt
 ·rw[if_pos (V8.2 hv)]
  have hb:=MM (fun e he=>MJ.2 (.inl (hf.ver e he))) h1 h2 hv
  obtain ⟨e,he,rfl⟩:=rM hb
  rw[AV.v_same (mL (vs:=vs)) (hf.env e he)]
  simp only
  rw[show (envL θ s0).lookup t=_ from gl hb];rfl
 ·rw[if_neg (fun h=>hv (V8.1 h))]
  obtain ⟨h5,h6⟩:=Cd h4
  rcases tl h5 with h5 | ⟨y,hy,k1,k2,k3⟩
  ·exact absurd (hf.ver _ h5) hv
  ·rcases h6 with h6 | h6
   ·exact absurd h6 hv
   ·have k2:v=s0.nxt+y.i:=k2
    have k3:av=y.r.av:=k3
    have h6:v - s0.nxt∈b:=h6
    rw[k2,Nat.add_sub_cancel_left] at h6
    rw[k2,Nat.add_sub_cancel_left,k3]
    exact (hfact y (hL y hy) h6).2.1.symm
end
end R
namespace R
open Go.RowKit
open D
def QB (P:Program) (w0:World) (J:Hp) (θ:Th) (n0:Nat) (l:List TR) (T:List Ent):Sm where
 fact i vs:= ∀x∈l,x.i=i->V9 P w0 J (qn θ n0 vs) n0 x (vs i)
 chunk k vs:=match T[k]? with
  | some e=>toCh P (qn θ n0 vs) e
  | none=>Ch.fr (fun _=>none) []
theorem FW {n0 t v:Nat} {env:List (Nat×Nat×AV)} : ∀ {ts:List Nat},t∈ts->yu env t=some v->Skel.srcOf t (DX n0 env ts)=some (Sn n0 v)
 | u::ts,h,hv=>by
  unfold DX
  by_cases hu:u=t
  ·subst hu
   rw[hv]
   simp only
   unfold Skel.srcOf
   rw[if_pos (Nat.beq_refl u)]
  ·have ht:t∈ts:=(az h).resolve_left fun e=>hu e.symm
   cases hw:yu env u with
   | none=>exact FW ht hv
   | some w =>
    simp only
    unfold Skel.srcOf
    rw[if_neg fun e=>hu (aq e)]
    exact FW ht hv
theorem fin_ok {n0 t v:Nat} {f:Option Nat->Value} : ∀ {env:List (Nat×Nat×AV)} {seen:List Nat},t∉seen->yu env t=some v->((MH n0 env seen).map fun q=>(q.1,f q.2)).lookup t=some (f (Sn n0 v))
 | (u,k,x)::l,seen,hs,hv=>by
  unfold MH
  unfold yu at hv
  split
  ·rename_i hin
   have hin:=mK.1 hin
   have hne:u≠t:=fun e=>hs (e ▸ hin)
   rw[if_neg fun e=>hne (aq e)] at hv
   exact fin_ok hs hv
  ·rename_i hin
   rw[List.map_cons,List.lookup_cons]
   by_cases hu:u=t
   ·subst hu
    rw[if_pos (Nat.beq_refl u)] at hv
    obtain rfl:=ae hv
    simp
   ·rw[if_neg fun e=>hu (aq e)] at hv
    have:(t==u)=false:=by simpa using fun e=>hu e.symm
    rw[this]
    refine fin_ok (fun h=>?_) hv
    rcases az h with h | h
    ·exact hu h.symm
    ·exact hs h
section
variable {V:Env} {P:Program} {I:Hp} {w0 w:World} {F:Ch} {J:Hp} {θ:Th} {s0:Sg} {ops:List Oper} {l:List TR} {a:Act}
theorem HH {x:TR} {i:Nat} (h:i∈x.r.av.ids):i∈Qw x:=aT _ h
theorem HI {x:TR} {g:Hdr×Chk} {i:Nat} (hg:g∈x.r.gives) (h:i∈Az g.1 g.2):i∈Qw x:=aX _ (List.mem_flatMap.2 ⟨g,hg,h⟩)
theorem W8 (hf:Fine P w0 J θ s0) {n:Nat} (ha:AllOk P w0 n s0 ops l) (hlen:l.length=ops.length) (hK:gX (gQ s0.nxt s0.chs l)=true) (hc: ∀x∈l,yw s0.nxt x=true) :
  Loc (nF s0 ops l (gQ s0.nxt s0.chs l)) (QB P w0 J θ s0.nxt l (gQ s0.nxt s0.chs l)) ops.length:=by
 have agree: ∀x∈l,∀vs vs':Nat->Value,(∀j,j=x.i\/j∈x.b->vs' j=vs j)-> ∀i∈Qw x,qn θ s0.nxt vs' i=qn θ s0.nxt vs i:=by
  intro x hx vs vs' hv i hi
  have:=hc x hx
  unfold yw at this
  rw[ah,qM] at this
  have h1:=this.1 i hi
  unfold allowed at h1
  rw[Bool.or_eq_true,Bool.or_eq_true,V8,V7,mK] at h1
  unfold qn
  by_cases hlt:i<s0.nxt
  ·rw[if_pos hlt,if_pos hlt]
  ·rw[if_neg hlt,if_neg hlt]
   exact hv _ (h1.resolve_left hlt)
 refine ⟨fun i hi vs vs' hv h x hx hxi=>?_,fun k hk vs vs'=>?_,fun i hi k hk vs vs' hv=>?_⟩
 ·subst hxi
  rw[(ha.opAt hx _).2] at hv
  have ag:=agree x hx vs vs' hv
  obtain ⟨h1,h2,h3⟩:=h x hx rfl
  refine ⟨AV.ok_loc (fun i hi=>ag i (HH hi)) h1,?_,fun g hg=>UP (fun i hi=>ag i (HI hg hi)) (h3 g hg)⟩
  rw[AV.v_loc fun i hi=>ag i (HH hi),h2,hv _ (.inl rfl)]
 ·obtain ⟨e,he,rfl⟩:=List.mem_map.1 hk
  have hT:=rT hK (jX.2 (.inl he))
  show (match _ with | some e=>toCh P (qn θ s0.nxt vs') e | none=>_)=match _ with | some e=>toCh P (qn θ s0.nxt vs) e | none=>_
  rw[hT]
  simp only
  rw[mH mL (hf.chs e he),mH mL (hf.chs e he)]
 ·obtain ⟨x,hx,hxi,-⟩:=ha.at (fun x=>x) i (by rw[hlen];exact hi)
  subst hxi
  rw[(ha.opAt hx _).2] at hv
  rw[(ha.opAt hx _).1] at hk
  obtain ⟨e,he,rfl⟩:=List.mem_map.1 hk
  have hT:=rT hK (jX.2 (.inr ⟨x,hx,he⟩))
  show (match _ with | some e=>toCh P (qn θ s0.nxt vs') e | none=>_)=match _ with | some e=>toCh P (qn θ s0.nxt vs) e | none=>_
  rw[hT]
  simp only
  exact Qu fun i hi=>agree x hx vs vs' hv i (HI (jf he).2 hi)
theorem UT (hf:Fine P w0 J θ s0) {n:Nat} (ha:AllOk P w0 n s0 ops l) (hlen:l.length=ops.length) (hB:kZ s0.chs=true) (hK:gX (gQ s0.nxt s0.chs l)=true) (hc: ∀x∈l,yw s0.nxt x=true)
  (hok:(nF s0 ops l (gQ s0.nxt s0.chs l)).ok n (knS s0) ops=true) (hkn: ∀t,knS s0 t=true->((envL θ s0).lookup t).isSome=true) (hlt: ∀x∈l,∀j∈x.b,j<x.i) :
  ∀i o,ops[i]? =some o->(nF s0 ops l (gQ s0.nxt s0.chs l)).goal (QB P w0 J θ s0.nxt l (gQ s0.nxt s0.chs l)) P J w0 (envL θ s0) i o:=by
 intro i o ho vs hfacts
 obtain ⟨x,hx,hxi,-⟩:=ha.at (fun x=>x) i (by rw[hlen];exact (List.getElem?_eq_some_iff.1 ho).1)
 subst hxi
 obtain ⟨l1,h1,h2,h3,h4⟩:=ha.get hx
 obtain rfl:x.o=o:=ae (h1.ho.symm.trans ho)
 obtain ⟨e1,e2⟩:=ha.opAt hx (gQ s0.nxt s0.chs l)
 have hG:=Skel.good_of_ok hkn hok ho
 rw[e2] at hfacts
 have hfact: ∀y∈l,y.i∈x.b->V9 P w0 J (qn θ s0.nxt vs) s0.nxt y (vs y.i):=fun y hy hyb=>hfacts y.i hyb y hy rfl
 have hFine:=(words hB hK hf ha hc hlt x.b (fun y hy hyb k hk=>ha.closed hlt x hx y hy hyb k hk) hfact x hx fun k hk=>hk).1
 have hnx:x.s.nxt=s0.nxt+x.i:=by rw[h1.hs];rfl
 have hw:IJ x.o vs=some x.run:=by
  have hgd:=h1.gd
  unfold GdOk at hgd
  unfold IJ
  cases hgo:x.o.guard with
  | none=>rw[hgo] at hgd;simp only at hgd⊢;rw[hgd]
  | some gw =>
   obtain ⟨g,want⟩:=gw
   rw[hgo] at hgd
   simp only at hgd⊢
   obtain ⟨y,hy,hyg,hc'⟩:=hgd
   obtain ⟨t,k1,k2⟩:=hG.guard g want hgo
   have hgb:g∈x.b:=by
    have ht:t∈slotsOf ops.toArray x.o:=by
     unfold slotsOf Oper.looksAt
     refine aX _ ?_
     rw[hgo]
     simp only
     rw[k1];simp
    rcases hG.slots t ht with ⟨q1,-,-⟩ | ⟨j,q1,-,q3,-⟩
    ·rw[k2] at q1;cases q1
    ·rw[k2] at q1
     obtain rfl:g=j:=by simpa using q1
     rwa [e2] at q3
   subst hyg
   have hv:=(hfact y (h3 y hy) hgb).2.1
   rcases hc' with ⟨c,hc',hr⟩ | ⟨hc',hr⟩
   ·rw[hc'] at hv
    rw[<-hv,hr];rfl
   ·rw[hc'] at hv
    rw[<-hv,hr];rfl
 rw[hw]
 have hthe: ∀v,qn θ s0.nxt (upd vs x.i v)=upd (qn θ s0.nxt vs) (s0.nxt+x.i) v:=fun v=>QA
 have hch: ∀vs':Nat->Value,∀e∈gQ s0.nxt s0.chs l,(QB P w0 J θ s0.nxt l (gQ s0.nxt s0.chs l)).chunk (numOf e (gQ s0.nxt s0.chs l)) vs'=toCh P (qn θ s0.nxt vs') e:=by
  intro vs' e he
  show (match _ with | some e=>toCh P (qn θ s0.nxt vs') e | none=>_)=_
  rw[rT hK he]
 cases hr:x.run with
 | false =>
  have hs:=h1.skip hr
  refine ⟨fun y hy hyi=>?_,by rw[e1];show (x.r.ns.map _)= [];rw[hs];rfl,by rw[e1];show (jW _ x).map _= [];unfold jW;rw[hs];rfl⟩
  obtain rfl:=ha.uniq y hy x hx hyi
  refine ⟨?_,?_,fun g hg=>?_⟩
  ·rw[hs];trivial
  ·rw[hs,fq];rfl
  ·rw[hs] at hg;cases hg
 | true =>
  obtain ⟨hGd,hk⟩:=h1.good hr
  have base:=hGd.op J _ hFine
  have hin: ∀e,e∈x.r.rs++x.r.ns->e∈gQ s0.nxt s0.chs l/\e∈x.s.chs:=by
   intro e he
   have he2:e∈x.s.chs:=hGd.perm.mem_iff.2 (aT _ he)
   refine ⟨?_,he2⟩
   rw[h1.hs] at he2
   rcases jX.1 (vJ he2).1 with h | ⟨y,hy,h⟩
   ·exact jX.2 (.inl h)
   ·exact jX.2 (.inr ⟨y,h3 y hy,h⟩)
  have hev: ∀u∈x.o.op.operands,(nF s0 ops l (gQ s0.nxt s0.chs l)).ev (envL θ s0) x.i vs u=evL (envL (qn θ s0.nxt vs) x.s) u:=by
   intro u hu
   cases u with
   | tmp t =>
    unfold okO at hk
    rw[ah,ah] at hk
    have hx1:=List.all_eq_true.1 hk.1.1 (.tmp t) (by simpa using hu)
    simp only[Bool.or_false] at hx1
    obtain ⟨av,hav⟩:=Option.isSome_iff_exists.1 hx1
    have hav:look x.s.env t=some av:=hav
    rw[aC (x:=.tmp t) hav]
    obtain ⟨v,hv,hm⟩:=rU hav
    have ht:t∈slotsOf ops.toArray x.o:=by
     unfold slotsOf Oper.looksAt
     exact aT _ (List.mem_filterMap.2 ⟨.tmp t,by simpa using hu,rfl⟩)
    have hsrc:Skel.srcOf t ((nF s0 ops l (gQ s0.nxt s0.chs l)).op x.i).src=some (Sn s0.nxt v):=by
     rw[e1];exact FW ht hv
    have hval:=W7 (L1:=l1) (b:=x.b) (i:=x.i) hf h3 hfact (t:=t) (v:=v) (av:=av) (by rw[<-h1.hs];exact hav) (by rw[<-h1.hs];exact hv)
    rw[<-hval]
    show (match Skel.srcOf t _ with | some (some j)=>vs j | _=>_)=_
    rw[hsrc]
    cases Sn s0.nxt v <;> rfl
   | _=>rfl
  have hpre:((((nF s0 ops l (gQ s0.nxt s0.chs l)).op x.i).reads++((nF s0 ops l (gQ s0.nxt s0.chs l)).op x.i).needs).map ((QB P w0 J θ s0.nxt l (gQ s0.nxt s0.chs l)).chunk · vs))=(x.r.rs++x.r.ns).map (toCh P (qn θ s0.nxt vs)):=by
   rw[e1]
   show ((x.r.rs.map _)++(x.r.ns.map _)).map _=_
   rw[<-aM,List.map_map]
   exact List.map_congr_left fun e he=>hch vs e (hin e he).1
  intro wd C hs
  have hs':=hs
  rw[hpre] at hs'
  have hb:=base wd C hs'
  have hsel:noSelect x.o=true:=hG.sel
  rw[<-ph hsel hev] at hb
  refine hb.imp fun v w' hv=>⟨fun y hy hyi=>?_,?_⟩
  ·obtain rfl:=ha.uniq y hy x hx hyi
   rw[hthe,fq]
   obtain ⟨q1,q2,q3⟩:=hv.1
   rw[hnx] at q1 q2 q3
   exact ⟨q1,q2,q3⟩
  ·have hst:=hv.2
   rw[hnx] at hst
   have hgv:((((nF s0 ops l (gQ s0.nxt s0.chs l)).op x.i).reads++((nF s0 ops l (gQ s0.nxt s0.chs l)).op x.i).gives).map ((QB P w0 J θ s0.nxt l (gQ s0.nxt s0.chs l)).chunk · (upd vs x.i v)))=x.r.rs.map (toCh P (qn θ s0.nxt vs))++x.r.gives.map fun g=>toCh P (upd (qn θ s0.nxt vs) (s0.nxt+x.i) v) (g.1,s0.nxt+x.i,g.2):=by
    rw[e1]
    show ((x.r.rs.map _)++((jW s0.nxt x).map _)).map _=_
    rw[aM,List.map_map,List.map_map]
    congr 1
    ·refine List.map_congr_left fun e he=>?_
     show (QB P w0 J θ s0.nxt l (gQ s0.nxt s0.chs l)).chunk (numOf e _) (upd vs x.i v)=_
     obtain ⟨m1,m2⟩:=hin e (aT _ he)
     rw[hch _ e m1,hthe]
     have:=hFine.chs e m2
     rw[hnx] at this
     exact mH Same.upd this
    ·unfold jW
     rw[List.map_map]
     refine List.map_congr_left fun g hg=>?_
     show (QB P w0 J θ s0.nxt l (gQ s0.nxt s0.chs l)).chunk (numOf (g.1,s0.nxt+x.i,g.2) _) (upd vs x.i v)=_
     rw[hch _ _ (jX.2 (.inr ⟨x,hx,List.mem_map.2 ⟨g,hg,rfl⟩⟩)),hthe]
   exact Eq.mp (congrArg (fun cs=>St J w0 w' (cs++C)) hgv.symm) hst
theorem D1 {Y:Type} {id:Nat} {k:Sg->Option Y} {res:Y} {Q:Exit->Act->World->Prop} (hT:TTok P V.tt) (hF:FTok P V.ft) (hm:P.follows .mixedOrders=true) (h:HE V ops k s0=some res) (hS0:Sim P I w0 F V.n J θ s0 a w)
  (K: ∀s' θ' a' w',k s'=some res->Sim P I w0 F V.n J θ' s' a' w'->Fr s0 θ s' θ'->Q .normal a' w'):(Code.region id ops.toArray true).wp P Q a w:=by
 unfold HE at h
 obtain ⟨l,h,ha,hlen⟩:=MG (w0:=w0) hT hF h rfl rfl trivial
 obtain ⟨hpl,h⟩:=aj h
 unfold Sp at hpl
 simp only[ah,List.all_eq_true] at hpl
 obtain ⟨hB,hK,hc,hok,hokB⟩:=hpl
 have hf:=hS0.fine
 have hkn: ∀t,knS s0 t=true->((envL θ s0).lookup t).isSome=true:=by
  intro t ht
  obtain ⟨av,hav⟩:=Option.isSome_iff_exists.1 ht
  rw[show (envL θ s0).lookup t=_ from gl hav];rfl
 have hlt: ∀x∈l,∀j∈x.b,j<x.i:=by
  intro x hx j hj
  obtain ⟨l1,h1,-⟩:=ha.get hx
  have hG:=Skel.good_of_ok hkn hok h1.ho
  have:=hG.bef j (by rw[(ha.opAt hx _).2];exact hj)
  exact this.1
 refine Qt (C:=[F]) (nF s0 ops l (gQ s0.nxt s0.chs l)) (QB P w0 J θ s0.nxt l (gQ s0.nxt s0.chs l)) hkn (W8 hf ha hlen hK hc) hm hS0.agr hS0.st ?_ hok hokB (UT hf ha hlen hB hK hc hok hkn hlt) ?_
 ·refine (List.Perm.of_eq ?_)
  congr 1
  show _=(s0.chs.map _).map _
  rw[List.map_map]
  refine List.map_congr_left fun e he=>?_
  show _=match _ with | some e=>toCh P (qn θ s0.nxt fun _=>undef) e | none=>_
  rw[rT hK (jX.2 (.inl he))]
  exact (mH mL (hf.chs e he)).symm
 ·intro vs a' w' hfacts hA hst
  have hfact: ∀y∈l,V9 P w0 J (qn θ s0.nxt vs) s0.nxt y (vs y.i):=fun y hy=>hfacts y.i (by rw[<-hlen];exact ha.lt y hy) y hy rfl
  have hall:=words hB hK hf ha hc hlt (List.range l.length) (fun y hy _ k hk=>List.mem_range.2 (Nat.lt_trans (hlt y hy k hk) (ha.lt y hy))) (fun y hy _=>hfact y hy)
  have hall': ∀x∈l,_:=fun x hx=>hall x hx fun k hk=>List.mem_range.2 (Nat.lt_trans (hlt x hx k hk) (ha.lt x hx))
  have hFine:Fine P w0 J (qn θ s0.nxt vs) (Qv s0 l):=HG hB hK hf ha hc l (fun y hy=>hy) (List.range l.length) l.length (fun j hj=>List.mem_range.1 hj) (fun y hy _=>hfact y hy) (fun y hy _=>(hall' y hy).2.1) (fun y hy _=>(hall' y hy).2.2) (Ss hf ha)
  refine K (Qv s0 l) (qn θ s0.nxt vs) a' w' h ⟨hS0.le,hA.sub fun t v hv=>?_,?_,hFine⟩ (Fr.rfl.trans ⟨Nat.le_add_right _ _,mL,fun e he hv=>?_,fun e he h' ver c hs=>?_⟩)
  ·
   cases hl:look (Qv s0 l).env t with
   | none =>
    exfalso
    have: ∀ {env:List (Nat×Nat×AV)} {θ:Th},look env t=none->(env.map fun e=>(e.1,e.2.2.v θ)).lookup t=none:=by
     intro env θ
     induction env with
     | nil=>intro _;rfl
     | cons e env ih =>
      intro hh
      unfold look at hh
      split at hh
      ·cases hh
      ·rename_i hu
       rw[List.map_cons,List.lookup_cons]
       have hne:(t==e.1)=false:=by
        simp only[beq_eq_false_iff_ne];intro e';subst e';exact hu (Nat.beq_refl _)
       rw[show (t==(e.1,AV.v θ e.2.2).1)=false from hne]
       exact ih hh
    rw[show (envL (qn θ s0.nxt vs) (Qv s0 l)).lookup t=none from this hl] at hv
    cases hv
   | some av =>
    have hv2:=gl (θ:=qn θ s0.nxt vs) hl
    obtain rfl:=ae (hv2.symm.trans hv)
    obtain ⟨ver,hver,-⟩:=rU hl
    have hval:=W7 (L1:=l) (b:=List.range l.length) (i:=l.length) hf (fun y hy=>hy) (fun y hy _=>hfact y hy) (t:=t) (v:=ver) (av:=av) hl hver
    have:=fin_ok (n0:=s0.nxt) (seen:=[]) (f:=fun s=>match s with | some j=>vs j | none=>((envL θ s0).lookup t).getD undef) (by simp) hver
    have key: ∀M:List (Nat×Option Nat),(M.map fun q=>(q.1,match q.2 with | some j=>vs j | none=>((envL θ s0).lookup q.1).getD undef)).lookup t=(M.map fun q=>(q.1,(fun s=>match s with | some j=>vs j | none=>((envL θ s0).lookup t).getD undef) q.2)).lookup t:=by
     intro M
     induction M with
     | nil=>rfl
     | cons q M ih =>
      rw[List.map_cons,List.map_cons,List.lookup_cons,List.lookup_cons]
      by_cases e:t=q.1
      ·subst e;simp
      ·rw[show (t==q.1)=false from by simpa using e];exact ih
    exact (key _).trans (this.trans (congrArg some hval))
  ·have e:((Qv s0 l).chs.map (numOf · (gQ s0.nxt s0.chs l))).map ((QB P w0 J θ s0.nxt l (gQ s0.nxt s0.chs l)).chunk · vs)=(Qv s0 l).chs.map (toCh P (qn θ s0.nxt vs)):=by
    rw[List.map_map]
    refine List.map_congr_left fun e he=>?_
    show (match _ with | some e=>toCh P (qn θ s0.nxt vs) e | none=>_)=_
    rw[rT hK (vJ he).1]
   rw[<-e];exact hst
  ·obtain ⟨h5,h6⟩:=Cd he
   rcases tl h5 with h5 | ⟨y,hy,k1,k2,k3⟩
   ·exact h5
   ·omega
  ·obtain ⟨h5,h6⟩:=vJ he
   have horig:Kf s0 l h' ver c:=by
    rcases jX.1 h5 with h5 | ⟨y,hy,h5⟩
    ·exact .inl ⟨e,h5,hs⟩
    ·exact (hall' y hy).2.1 e h5 h' ver c hs
   rcases horig with ⟨e0,he0,hk⟩ | ⟨y,hy,hk⟩
   ·exact .inr ⟨e0,he0,hk⟩
   ·have:=(jf hk).1
    exact .inl (by simp only at this;omega)
theorem Jv {hs:List Hdr} : ∀ {s:Sg} {J:Hp},Sim P I w0 F V.n J θ s a w-> ∃J',J.le J'/\Sim P I w0 F V.n J' θ (Cc hs s) a w/\Fr s θ (Cc hs s) θ:=by
 induction hs with
 | nil=>exact fun hS=>⟨_,Hp.le.rfl,hS,Fr.rfl⟩
 | cons h hs ih =>
  intro s J hS
  have h1: ∃J',J.le J'/\Sim P I w0 F V.n J' θ (vG h s) a w/\Fr s θ (vG h s) θ:=by
   unfold vG
   split
   ·exact DL ‹_› hS
   ·exact ⟨J,Hp.le.rfl,hS,Fr.rfl⟩
  obtain ⟨J1,hJ1,S1,F1⟩:=h1
  obtain ⟨J2,hJ2,S2,F2⟩:=ih S1
  exact ⟨J2,hJ1.trans hJ2,S2,F1.trans F2⟩
theorem MN {s:Sg} (hS:Sim P I w0 F V.n J θ s a w): ∃J',J.le J'/\Sim P I w0 F V.n J' θ (uw ops s) a w/\Fr s θ (uw ops s) θ:=by
 unfold uw
 split
 ·exact Jv hS
 ·exact ⟨J,Hp.le.rfl,hS,Fr.rfl⟩
theorem QC {tr:Trs} {s:Sg} (hS:Sim P I w0 F V.n J θ s a w): ∃J' θ',J.le J'/\Sim P I w0 F V.n J' θ' (Qx tr ops s) a w/\Fr s θ (Qx tr ops s) θ':=by
 obtain ⟨θ1,S0,F0⟩:=xh hS
 obtain ⟨J1,hJ1,S1,F1⟩:=MN (ops:=ops) S0
 obtain ⟨S2,F2⟩:=rQ (hs:=yx (uw ops (ql s)) ops) S1
 have F2:=(F0.trans F1).trans F2
 show∃J' θ',J.le J'/\Sim P I w0 F V.n J' θ' (HF tr ops (uq (yx (uw ops (ql s)) ops) (uw ops (ql s)))) a w/\Fr s θ (HF tr ops (uq (yx (uw ops (ql s)) ops) (uw ops (ql s)))) θ'
 unfold HF
 split
 ·exact ⟨J1,θ1,hJ1,S2,F2⟩
 ·obtain ⟨J',θ',h1,h2,h3⟩:=tg S2
  exact ⟨J',θ',hJ1.trans h1,h2,F2.trans h3⟩
theorem QD {Y:Type} {id:Nat} {k:Sg->Option Y} {res:Y} {Q:Exit->Act->World->Prop} (hT:TTok P V.tt) (hF:FTok P V.ft) (hm:P.follows .mixedOrders=true) {s:Sg} (h:W6 V ops k s=some res) (hS:Sim P I w0 F V.n J θ s a w)
  (K: ∀s' J' θ' a' w',k s'=some res->Sim P I w0 F V.n J' θ' s' a' w'->J.le J'->Fr s θ s' θ'->Q .normal a' w'):(Code.region id ops.toArray true).wp P Q a w:=by
 obtain ⟨J1,θ1,hJ,S1,F1⟩:=QC (tr:=V.tr) (ops:=ops) hS
 have h:MI V ops k (Qx V.tr ops s)=some res:=h
 unfold MI at h
 split at h
 ·obtain ⟨s2,h2,h⟩:=Jq h
  obtain ⟨θ2,S2,F2⟩:=Qc h2 S1
  exact D1 hT hF hm h S2 fun s' θ' a' w' hk hS' hFr=>K s' J1 θ' a' w' hk hS' hJ ((F1.trans F2).trans hFr)
 ·exact D1 hT hF hm h S1 fun s' θ' a' w' hk hS' hFr=>K s' J1 θ' a' w' hk hS' hJ (F1.trans hFr)
end
end R
namespace R
open Go.RowKit
open D
inductive Ann
 | no
 | two (a b:Ann)
 | loop (sh:List It) (a:Ann)
 | join (sh:List It) (a b:Ann)
 | joinX (sh:List It) (a b:Ann)
 | at (sh:List It) (a:Ann)
 | atX (sh:List It) (a:Ann)
def Ann.t (a:Ann):Ann:=.two .no a
def Ann.l:Ann->Ann
 | .two a _=>a
 | _=>.no
def Ann.r:Ann->Ann
 | .two _ b=>b
 | _=>.no
def D2:Code->List Nat
 | .region _ ops _=>ops.toList.filterMap (·.dst)
 | .seq a b=>D2 a++D2 b
 | .cond _ a b=>D2 a++D2 b
 | .block _ a=>D2 a
 | .loop a=>D2 a
 | .scope a=>D2 a
 | _=>[]
def MO:List It->List Nat
 | [] =>[]
 | .slot t _::is=>t::MO is
 | _::is=>MO is
def zT (c:Code) (is:List It):List Nat:=D2 c++MO is
def W9 {Y:Type} (i:Nat) (kb:Sg->Option Y) (kx:Nat->Sg->Option Y):Nat->Sg->Option Y:=fun j s=>if Nat.beq j i then kb s else kx j s
def Xa (V:Env) {R Y:Type} (c:Code) (n:Ann) (kr:R->Option Y) (kx:Nat->Sg->Option Y) (kn:Sg->Option Y) (s:Sg) (run:(Z:Type)->Ann->(R->Option Z)->(Nat->Sg->Option Z)->(Sg->Option Z)->Sg->Option Z):Option Y:=match n with
 | .at sh n=>(yo (zT c sh) sh s).bind fun q=>Option.bind (run (Si (qm q.its)) n (fun _=>none) (fun _ _=>none) (fun s'=>(q.of s').bind fun d=>some (ofN _ d)) s) fun d=>kn (q.at (toN _ d))
 | .atX sh n=>(yo (zT c sh) sh s).bind fun q=>IN (run (Y ⊕ Si (qm q.its)) n (fun r=>(kr r).bind fun t=>some (.inl t)) (fun i s'=>(kx i s').bind fun t=>some (.inl t)) (fun s'=>(q.of s').bind fun d=>some (.inr (ofN _ d))) s) fun d=>kn (q.at (toN _ d))
 | n=>run Y n kr kx kn s
noncomputable def km (V:Env) {R:Type} (rt:Sg->Option R):(c:Code)-> {Y:Type} ->Ann->(R->Option Y)->(Nat->Sg->Option Y)->(Sg->Option Y)->Sg->Option Y
 | .skip,_,_,kr,kx,kn,s=>kn s
 | .ret,_,_,kr,kx,kn,s=>(rt s).bind kr
 | .region id ops dr,_,n,kr,kx,kn,s=>Xa V (.region id ops dr) n kr kx kn s fun Z n kr kx kn s=>match dr with
  | false=>Hy V ops.toList (fun s=>kn (V3 s)) ops.toList s
  | true=>W6 V ops.toList (fun s=>kn (V3 s)) s
 | .seq a b,Y,n,kr,kx,kn,s=>match n with
  | .join sh n1 n2=>(yo (zT a sh) sh s).bind fun q=>Option.bind (km V rt a n1 (Y:=Si (qm q.its)) (fun _=>none) (fun _ _=>none) (fun s'=>(q.of s').bind fun d=>some (ofN _ d)) s) fun d=>km V rt b n2 kr kx kn (q.at (toN _ d))
  | .joinX sh n1 n2=>(yo (zT a sh) sh s).bind fun q=>IN (km V rt a n1 (Y:=Y ⊕ Si (qm q.its)) (fun r=>(kr r).bind fun t=>some (.inl t)) (fun i s'=>(kx i s').bind fun t=>some (.inl t)) (fun s'=>(q.of s').bind fun d=>some (.inr (ofN _ d))) s) fun d=>km V rt b n2 kr kx kn (q.at (toN _ d))
  | n=>km V rt a n.l kr kx (fun s'=>km V rt b n.r kr kx kn s') s
 | .cond c a b,_,n,kr,kx,kn,s=>Xa V (.cond c a b) n kr kx kn s fun Z n kr kx kn s=>(opd s c).bind fun v=>onB v (km V rt a n.l kr kx kn s) (km V rt b n.r kr kx kn s)
 | .block i (.loop c),_,n,kr,kx,kn,s=>Xa V (.block i (.loop c)) n kr kx kn s fun Z n kr kx kn s=>match n with
  | .loop sh n=>(yo (zT c sh) sh s).bind fun q=>(q.of s).bind fun d0 =>
    aO (ax (fun d=>km V rt c n (Y:=Out R (Si (qm q.its))) (fun r=>some (.ret r)) (W9 i (fun s'=>(q.of s').bind fun d=>some (.brk (ofN _ d))) fun _ _=>none) (fun s'=>(q.of s').bind fun d=>some (.nxt (ofN _ d))) (q.at (toN _ d))) aR (ofN _ d0)) kr (fun d=>kn (q.at (toN _ d)))
  | _=>none
 | .block i c,_,n,kr,kx,kn,s=>Xa V (.block i c) n kr kx kn s fun Z n kr kx kn s=>km V rt c n kr (W9 i kn kx) kn s
 | .exit i,_,_,kr,kx,kn,s=>kx i s
 | _,_,_,_,_,_,_=>none
section
variable {V:Env} {P:Program} {I:Hp} {w0:World} {F:Ch} {R:Type} {rt:Sg->Option R}
def IOk (V : Env) (P : Program) (I : Hp) (w0 : World) (F : Ch) {R : Type} (rt : Sg -> Option R) (c : Code) : Prop := ∀ {Y : Type} (n : Ann) {kr : R -> Option Y} {kx : Nat -> Sg -> Option Y} {kn : Sg -> Option Y} {s : Sg} {y : Y} {Q : Exit -> Act -> World -> Prop} {J : Hp} {θ : Th} {a : Act} {w : World},
    km V rt c n kr kx kn s = some y -> Sim P I w0 F V.n J θ s a w ->
    (∀ J' θ' s' a' w', kn s' = some y -> Sim P I w0 F V.n J' θ' s' a' w' -> J.le J' -> Fr s θ s' θ' -> Q .normal a' w') ->
    (∀ i J' θ' s' a' w', kx i s' = some y -> Sim P I w0 F V.n J' θ' s' a' w' -> J.le J' -> Fr s θ s' θ' -> Q (.exit i) a' w') ->
    (∀ r J' θ' s' a' w', rt s' = some r -> kr r = some y -> Sim P I w0 F V.n J' θ' s' a' w' -> J.le J' -> Fr s θ s' θ' -> Q .ret a' w') -> c.wp P Q a w
def ROk (V : Env) (P : Program) (I : Hp) (w0 : World) (F : Ch) {R : Type} (rt : Sg -> Option R) (c : Code) (run : (Z : Type) -> Ann -> (R -> Option Z) -> (Nat -> Sg -> Option Z) -> (Sg -> Option Z) -> Sg -> Option Z) : Prop := ∀ {Y : Type} (n : Ann) {kr : R -> Option Y} {kx : Nat -> Sg -> Option Y} {kn : Sg -> Option Y} {s : Sg} {y : Y} {Q : Exit -> Act -> World -> Prop} {J : Hp} {θ : Th} {a : Act} {w : World},
    run Y n kr kx kn s = some y -> Sim P I w0 F V.n J θ s a w ->
    (∀ J' θ' s' a' w', kn s' = some y -> Sim P I w0 F V.n J' θ' s' a' w' -> J.le J' -> Fr s θ s' θ' -> Q .normal a' w') ->
    (∀ i J' θ' s' a' w', kx i s' = some y -> Sim P I w0 F V.n J' θ' s' a' w' -> J.le J' -> Fr s θ s' θ' -> Q (.exit i) a' w') ->
    (∀ r J' θ' s' a' w', rt s' = some r -> kr r = some y -> Sim P I w0 F V.n J' θ' s' a' w' -> J.le J' -> Fr s θ s' θ' -> Q .ret a' w') -> c.wp P Q a w
theorem Ce {c:Code} {run:(Z:Type)->Ann->(R->Option Z)->(Nat->Sg->Option Z)->(Sg->Option Z)->Sg->Option Z} (hr:ROk V P I w0 F rt c run) {Y:Type} (n:Ann) {kr:R->Option Y} {kx:Nat->Sg->Option Y} {kn:Sg->Option Y} {s:Sg} {y:Y} {Q:Exit->Act->World->Prop} {J:Hp} {θ:Th} {a:Act} {w:World}
  (h:Xa V c n kr kx kn s run=some y) (hS:Sim P I w0 F V.n J θ s a w)
  (HN: ∀J' θ' s' a' w',kn s'=some y->Sim P I w0 F V.n J' θ' s' a' w'->J.le J'->Fr s θ s' θ'->Q .normal a' w')
  (HX: ∀i J' θ' s' a' w',kx i s'=some y->Sim P I w0 F V.n J' θ' s' a' w'->J.le J'->Fr s θ s' θ'->Q (.exit i) a' w')
  (HR: ∀r J' θ' s' a' w',rt s'=some r->kr r=some y->Sim P I w0 F V.n J' θ' s' a' w'->J.le J'->Fr s θ s' θ'->Q .ret a' w'):c.wp P Q a w:=by
 have plain:=fun n h=>hr n h hS HN HX HR
 cases n with
 | «at» sh n =>
  have ⟨q,hq,h⟩:=bind_some (show (yo (zT c sh) sh s).bind _=some y from h)
  have ⟨d,h1,h2⟩:=bind_some h
  have hC:=uu hq hS.fine
  refine hr n h1 hS (fun J' θ' s' a' w' hk hS' hJ hFr=>?_) (fun i J' θ' s' a' w' hk hS' hJ hFr=>by cases hk) (fun r J' θ' s' a' w' q1 q2 hS' hJ hFr=>by cases q2)
  have ⟨d',hd,hk⟩:=bind_some hk
  grind[ae,yq,oj]
 | atX sh n =>
  have ⟨q,hq,h⟩:=bind_some (show (yo (zT c sh) sh s).bind _=some y from h)
  have ⟨o,h1,h2⟩:=Ah h
  have hC:=uu hq hS.fine
  refine hr n h1 hS (fun J' θ' s' a' w' hk hS' hJ hFr=>?_) (fun i J' θ' s' a' w' hk hS' hJ hFr=>?_) (fun r J' θ' s' a' w' q1 q2 hS' hJ hFr=>?_)
  ·have ⟨d',hd,hk⟩:=bind_some hk
   grind[ae,yq,Sum.inr.inj,oj]
  ·have ⟨t,ht,hk⟩:=bind_some hk
   grind
  ·have ⟨t,ht,hk⟩:=bind_some q2
   grind
 | no=>exact plain _ h
 | two _ _=>exact plain _ h
 | loop _ _=>exact plain _ h
 | join _ _ _=>exact plain _ h
 | joinX _ _ _=>exact plain _ h
theorem tm (hT:TTok P V.tt) (hF:FTok P V.ft) (hm:P.follows .mixedOrders=true): ∀c:Code,IOk V P I w0 F rt c/\ ∀c',c= .loop c'->IOk V P I w0 F rt c':=by
 intro c
 induction c with
 | skip =>
  refine ⟨?_,fun c' e=>(by cases e)⟩
  intro Y n kr kx kn s y Q J θ a w h hS HN HX HR
  exact wp_skip (HN J θ s a w h hS Hp.le.rfl Fr.rfl)
 | ret =>
  refine ⟨?_,fun c' e=>(by cases e)⟩
  intro Y n kr kx kn s y Q J θ a w h hS HN HX HR
  have ⟨r,h1,h2⟩:=bind_some (show (rt s).bind kr=some y from h)
  grind[wp_ret,Hp.le.rfl,Fr.rfl]
 | exit i =>
  refine ⟨?_,fun c' e=>(by cases e)⟩
  intro Y n kr kx kn s y Q J θ a w h hS HN HX HR
  exact wp_exit (HX i J θ s a w h hS Hp.le.rfl Fr.rfl)
 | region id ops dr =>
  refine ⟨?_,fun c' e=>(by cases e)⟩
  intro Y n kr kx kn s y Q J θ a w h hS HN HX HR
  refine Ce (fun {Y} n {kr kx kn s y Q J θ a w} h hS HN HX HR=>?_) n h hS HN HX HR
  cases dr with
  | true =>
   have h:=h
   have:=QD (id:=id) hT hF hm h hS fun s' J' θ' a' w' hk hS' hJ hFr=>by
    have ⟨θ2,S2,F2⟩:=Mj hS'
    exact HN J' θ2 (V3 s') a' w' hk S2 hJ (hFr.trans F2)
   omega
  | false =>
   have h:=h
   exact wp_region_lit (l:=ops.toList) (DO hT hF h hS fun s' J' θ' a' w' hk hS' hJ hFr=>by
    have ⟨θ2,S2,F2⟩:=Mj hS'
    exact HN J' θ2 (V3 s') a' w' hk S2 hJ (hFr.trans F2))
 | cond c x y ihx ihy =>
  refine ⟨?_,fun c' e=>(by cases e)⟩
  intro Y n kr kx kn s r Q J θ a w h hS HN HX HR
  refine Ce (fun {Y} n {kr kx kn s r Q J θ a w} h hS HN HX HR=>?_) n h hS HN HX HR
  have ⟨v,hv',h⟩:=bind_some (show (opd s c).bind _=some r from h)
  have ⟨b,hb,h⟩:=RO h
  have hk:Kk (envL θ s) c=true:=by
   cases c with
   | tmp t =>
    have:=gl (θ:=θ) (show look s.env t=some v from hv')
    show ((envL θ s).lookup t).isSome=true
    grind[envL]
   | _=>rfl
  have hev:=(aC hv').trans (hb θ)
  cases b with
  | true=>exact OU hS.agr hk hev rfl (ihx.1 n.l h hS HN HX HR)
  | false=>exact Kr hS.agr hk hev rfl (ihy.1 n.r h hS HN HX HR)
 | seq x z ihx ihz =>
  refine ⟨?_,fun c' e=>(by cases e)⟩
  intro Y n kr kx kn s y Q J θ a w h hS HN HX HR
  have plain:=fun h =>
   wp_seq (ihx.1 n.l h hS (fun J' θ' s' a' w' hk hS' hJ hFr=>ihz.1 n.r hk hS' (fun J2 θ2 s2 a2 w2 k2 S2 L2 F2=>HN J2 θ2 s2 a2 w2 k2 S2 (hJ.trans L2) (hFr.trans F2)) (fun i J2 θ2 s2 a2 w2 k2 S2 L2 F2=>HX i J2 θ2 s2 a2 w2 k2 S2 (hJ.trans L2) (hFr.trans F2)) (fun r J2 θ2 s2 a2 w2 q1 q2 S2 L2 F2=>HR r J2 θ2 s2 a2 w2 q1 q2 S2 (hJ.trans L2) (hFr.trans F2)))
    (fun i J' θ' s' a' w' hk hS' hJ hFr=>Tl (HX i J' θ' s' a' w' hk hS' hJ hFr)) (fun r J' θ' s' a' w' q1 q2 hS' hJ hFr=>Tm (HR r J' θ' s' a' w' q1 q2 hS' hJ hFr)))
  cases n with
  | join sh n1 n2 =>
   have ⟨q,hq,h⟩:=bind_some (show (yo (zT x sh) sh s).bind _=some y from h)
   have ⟨d,h1,h2⟩:=bind_some h
   have hC:=uu hq hS.fine
   refine wp_seq (ihx.1 n1 h1 hS (fun J' θ' s' a' w' hk hS' hJ hFr=>?_) (fun i J' θ' s' a' w' hk hS' hJ hFr=>by cases hk) (fun r J' θ' s' a' w' q1 q2 hS' hJ hFr=>by cases q2))
   have ⟨d',hd,hk⟩:=bind_some hk
   cases ae hk
   have ⟨θ2,S2,F2⟩:=yq hC hS' hFr hJ hd
   rw[oj] at h2
   exact ihz.1 n2 h2 S2 (fun J3 θ3 s3 a3 w3 k3 S3 L3 F3=>HN J3 θ3 s3 a3 w3 k3 S3 (hJ.trans L3) (F2.trans F3)) (fun i J3 θ3 s3 a3 w3 k3 S3 L3 F3=>HX i J3 θ3 s3 a3 w3 k3 S3 (hJ.trans L3) (F2.trans F3)) (fun r J3 θ3 s3 a3 w3 q1 q2 S3 L3 F3=>HR r J3 θ3 s3 a3 w3 q1 q2 S3 (hJ.trans L3) (F2.trans F3))
  | joinX sh n1 n2 =>
   have ⟨q,hq,h⟩:=bind_some (show (yo (zT x sh) sh s).bind _=some y from h)
   have ⟨o,h1,h2⟩:=Ah h
   have hC:=uu hq hS.fine
   refine wp_seq (ihx.1 n1 h1 hS (fun J' θ' s' a' w' hk hS' hJ hFr=>?_) (fun i J' θ' s' a' w' hk hS' hJ hFr=>?_) (fun r J' θ' s' a' w' q1 q2 hS' hJ hFr=>?_))
   ·have ⟨d',hd,hk⟩:=bind_some hk
    cases ae hk
    have ⟨θ2,S2,F2⟩:=yq hC hS' hFr hJ hd
    rcases h2 with ⟨d,e,h2⟩ | h2
    ·cases Sum.inr.inj e
     rw[oj] at h2
     exact ihz.1 n2 h2 S2 (fun J3 θ3 s3 a3 w3 k3 S3 L3 F3=>HN J3 θ3 s3 a3 w3 k3 S3 (hJ.trans L3) (F2.trans F3)) (fun i J3 θ3 s3 a3 w3 k3 S3 L3 F3=>HX i J3 θ3 s3 a3 w3 k3 S3 (hJ.trans L3) (F2.trans F3)) (fun r J3 θ3 s3 a3 w3 q1 q2 S3 L3 F3=>HR r J3 θ3 s3 a3 w3 q1 q2 S3 (hJ.trans L3) (F2.trans F3))
    grind
   ·have ⟨t,ht,hk⟩:=bind_some hk
    grind[ae,Sum.inl.inj,Tl]
   ·have ⟨t,ht,hk⟩:=bind_some q2
    cases ae hk
    rcases h2 with ⟨d,e,h2⟩ | h2
    ·cases e
    grind[Sum.inl.inj,Tm]
  | no=>exact plain h
  | two _ _=>exact plain h
  | loop _ _=>exact plain h
  | «at» _ _=>exact plain h
  | atX _ _=>exact plain h
 | block i x ih =>
  refine ⟨?_,fun c' e=>(by cases e)⟩
  intro Y n kr kx kn s y Q J θ a w h hS HN HX HR
  have plain:ROk V P I w0 F rt (.block i x) (fun Z n kr kx kn s=>km V rt x n kr (W9 i kn kx) kn s):=fun {Y} n {kr kx kn s y Q J θ a w} h hS HN HX HR =>
   wp_block (ih.1 n h hS (fun J' θ' s' a' w' hk hS' hJ hFr=>aah (HN J' θ' s' a' w' hk hS' hJ hFr))
    (fun j J' θ' s' a' w' hk hS' hJ hFr=>by
     unfold W9 at hk
     split at hk
     ·rename_i hj
      have:=aq hj
      subst this
      exact Wn (HN J' θ' s' a' w' hk hS' hJ hFr)
     ·rename_i hj
      exact Wo (fun e=>hj (by rw[e];exact Nat.beq_refl i)) (HX j J' θ' s' a' w' hk hS' hJ hFr))
    (fun r J' θ' s' a' w' q1 q2 hS' hJ hFr=>ZL (HR r J' θ' s' a' w' q1 q2 hS' hJ hFr)))
  cases x with
  | loop x =>
   refine Ce (fun {Y} n {kr kx kn s y Q J θ a w} h hS HN HX HR=>?_) n h hS HN HX HR
   cases n with
   | loop sh n =>
    have ⟨q,hq,h⟩:=bind_some (show (yo (zT x sh) sh s).bind _=some y from h)
    have ⟨d0,hd0,h⟩:=bind_some h
    have ⟨o,ho,hc⟩:=IM h
    have hC:=uu hq hS.fine
    have hx:IOk V P I w0 F rt x:=ih.2 x rfl
    refine wp_block (OV (fun d a w=> ∃J' θ',J.le J'/\Sim P I w0 F V.n J' θ' (q.at (toN _ d)) a w/\Fr s θ (q.at (toN _ d)) θ') ho ?_ ?_)
    ·have ⟨θ1,S1,F1⟩:=yq hC hS Fr.rfl Hp.le.rfl hd0
     exact ⟨J,θ1,Hp.le.rfl,by rw[oj];exact S1,by rw[oj];exact F1⟩
    ·rintro d o' hf hlast a w ⟨J1,θ1,L1,S1,F1⟩
     refine hx n hf S1 (fun J' θ' s' a' w' hk hS' hJ hFr=>?_) (fun j J' θ' s' a' w' hk hS' hJ hFr=>?_) (fun r J' θ' s' a' w' q1 q2 hS' hJ hFr=>?_)
     ·have ⟨d',hd,hk⟩:=bind_some hk
      cases ae hk
      have ⟨θ2,S2,F2⟩:=yq hC hS' (F1.trans hFr) (L1.trans hJ) hd
      exact nrm ⟨_,rfl,J',θ2,L1.trans hJ,by rw[oj];exact S2,by rw[oj];exact F2⟩
     ·unfold W9 at hk
      split at hk
      ·rename_i hj
       have:=aq hj
       subst this
       have ⟨d',hd,hk⟩:=bind_some hk
       cases ae hk
       have ho2:=hlast (by simp)
       have ⟨θ2,S2,F2⟩:=yq hC hS' (F1.trans hFr) (L1.trans hJ) hd
       rcases hc with ⟨d2,e,hc⟩ | ⟨r,e,hc⟩
       ·cases Out.brk.inj (ho2.trans e)
        rw[oj] at hc
        exact Tl (Wn (HN J' θ2 _ a' w' hc S2 (L1.trans hJ) F2))
       ·cases ho2.trans e
      ·cases hk
     ·cases ae q2
      have ho2:=hlast (by simp)
      rcases hc with ⟨d2,e,hc⟩ | ⟨r',e,hc⟩
      ·cases ho2.trans e
      ·cases Out.ret.inj (ho2.trans e)
       exact Tm (ZL (HR r J' θ' s' a' w' q1 hc hS' (L1.trans hJ) (F1.trans hFr)))
   | _=>cases h
  | _=>exact Ce plain n h hS HN HX HR
 | loop x ih =>
  refine ⟨?_,fun c' e=>?_⟩
  ·intro Y n kr kx kn s y Q J θ a w h hS HN HX HR
   cases h
  ·cases e
   exact ih.1
 | _ =>
  refine ⟨?_,fun c' e=>(by cases e)⟩
  intro Y n kr kx kn s y Q J θ a w h hS HN HX HR
  cases h
end
end R
end Go.Proofs.YtfbgafccgaoepaaGreat
