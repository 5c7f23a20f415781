/- FnExactSurvivingVersion: for every input the law returns true and changes nothing that was there. Part 5 of 9. -/
import Derived.Test.YtodbpnpbhpeepaaGreatDoorESC3
set_option linter.unusedVariables false
set_option linter.unusedSimpArgs false
set_option linter.unnecessarySimpa false
set_option linter.unusedSectionVars false
set_option maxRecDepth 1000000
namespace Go.Proofs.YtodbpnpbhpeepaaGreatDoor
open Go.IntKind (i64)
namespace D
open Go.RowKit
def lh (a b:ByteArray):Option ByteArray:=(chk (a.size+b.size<=9223372036854775807)).bind fun _=>some (a++b)
def jB (s:ByteArray) (i:Int):Option Int:=(chk (0<=i/\i<(s.size:Int))).bind fun _=>some ((s.data.toList.getD i.toNat 0).toNat:Int)
def qT (s:ByteArray) (l h:Int):Option ByteArray:=(chk (0<=l/\l<=h/\h<=(s.size:Int))).bind fun _=>some (s.extract l.toNat h.toNat)
def xj (l:List Int):ByteArray:=l.foldl (fun r n=>r.push (UInt8.ofNat n.toNat)) ByteArray.empty
section
variable {P:Program} {I:Hp} {w0:World} {o:Oper} {ev:Operand->Value} {x y:Operand}
theorem Ue {t u:TypeId} {m n:ByteArray} (h:m.size+n.size<=9223372036854775807) (ho:o.op= .binOp .add t x y u) (hx:ev x= .string m) (hy:ev y= .string n):OpT P I w0 o ev [] (· = .string (m++n)) (fun _=>[]):=
 bm fun w=>by simp[execOp,ho,hx,hy,eqGuard,binOp_string_add,run_string_add_sum w m n h,Result.andThen]
theorem M0 {T:TypeId} {m:ByteArray} {k:IntKind} {i:Int} (hT:P.underlying T=some .string) (h:0<=i/\i<(m.size:Int)) (ho:o.op= .index T x y) (hx:ev x= .string m) (hy:ev y= .int k i):OpT P I w0 o ev [] (· = .int .u8 ((m.data.toList.getD i.toNat 0).toNat:Int)) (fun _=>[]):=
 bm fun w=>by
  have h2:i.toNat<m.size:=by omega
  have e:m.data.toList.getD i.toNat 0=m[i.toNat]'h2:=by
   have h3:i.toNat<m.data.toList.length:=by simpa using h2
   rw[List.getD_eq_getElem?_getD,List.getElem?_eq_getElem h3]
   simp[ByteArray.getElem_eq_getElem_data]
  have:=run_index_string (P:=P) (w:=w) T m k i hT
  rw[dif_pos h] at this
  rw[e]
  simp[execOp,ho,hx,hy,this,Result.andThen]
def Uf (ev:Operand->Value) (d:Int):Option Operand->Int->Prop
 | none,n=>n=d
 | some z,n=> ∃k,ev z= .int k n
theorem M2 {T:TypeId} {m:ByteArray} {lo hi:Option Operand} {l h:Int} (hT:P.underlying T=some .string) (hb:0<=l/\l<=h/\h<=(m.size:Int)) (ho:o.op= .slice T x lo hi none) (hx:ev x= .string m)
  (hl:Uf ev 0 lo l) (hh:Uf ev (m.size:Int) hi h):OpT P I w0 o ev [] (· = .string (m.extract l.toNat h.toNat)) (fun _=>[]):=
 bm fun w=>by
  have hat: ∀a b,(Instr.sliceAt T (.string m) a b none).run P w=(Instr.slice T (.string m) a b none).run P w:=fun a b=>by
   simp[Instr.sliceAt,run_underlying hT]
  cases lo with
  | none =>
   obtain rfl:l=0:=hl
   cases hi with
   | none =>
    obtain rfl:h=(m.size:Int):=hh
    simp[execOp,ho,hx,hat,run_slice_string_all,hT,Result.andThen]
   | some b =>
    obtain ⟨k,hb'⟩:=hh
    simp[execOp,ho,hx,hb',hat,run_slice_string_h (t:=T) (s:=m) (P:=P) (w:=w) hT k h hb.2.1 hb.2.2,Result.andThen]
  | some a =>
   obtain ⟨j,ha⟩:=hl
   cases hi with
   | none =>
    obtain rfl:h=(m.size:Int):=hh
    simp[execOp,ho,hx,ha,hat,run_slice_string_l (t:=T) (s:=m) (P:=P) (w:=w) hT j l hb.1 hb.2.1,Result.andThen]
   | some b =>
    obtain ⟨k,hb'⟩:=hh
    have:=run_slice_string_if (P:=P) (w:=w) T m j k l h hT
    rw[if_pos ⟨by omega,hb.2.2⟩,if_pos ⟨hb.1,hb.2.1⟩] at this
    simp[execOp,ho,hx,ha,hb',hat,this,Result.andThen]
theorem zz {S D E E':TypeId} {h1: ∀a:Int,(Value.int .u8 a).oneCell'=true} {v:Value} {xs:List Int} (hS:P.underlying S=some (.slice E)) (hE:P.underlying E=some (.int .u8)) (hD:P.underlying D=some .string) (hr:(af E' (kI Int (.int .u8) h1)).rd I [v] xs) (ho:o.op= .convert S D x) (hx:ev x=v):OpT P I w0 o ev [] (· = .string (xj xs)) (fun _=>[]):=by
 intro w C hs
 obtain ⟨ao,cap,rfl,hc⟩:=Src.of_rd hs hr
 have hrun:(execOp ev o).run P w= .ok (.value (.string (xj xs))) w:=by
  have e1:(convert S D (.slice ao (xs.map (Value.int .u8)).length cap)).run P w= .ok (.string (xj xs)) w:=by
   rw[run_convert_bytes_string w S D E ao _ cap hS hE hD]
   rcases hc with hc | ⟨a,rfl,hc⟩
   ·have hx0:xs= []:=by simpa using hc
    subst hx0
    cases ao with
    | none=>rfl
    | some a=>exact run_bytesToString w a _ cap [] (run_loadCells_list (P:=P) w a [] (by simp))
   ·rw[List.length_map]
    exact run_bytesToString w a _ cap xs (by
     have:=run_loadCells_list (P:=P) w a (xs.map (Value.int .u8)) hc
     rwa [List.length_map] at this)
  simp only[List.length_map] at e1 hx
  simp[execOp,ho,hx,e1,Result.andThen]
 rw[hrun]
 exact ⟨rfl,hs⟩
end
end D
namespace R
open Go.RowKit
open D
section
variable {Y:Type} (tt:TT) (s:Sg) (k:Res->Option Y)
def Ug (b:BinOp) (t:TypeId) (x y:Operand):Option Y:=match b,opd s x,opd s y with
 | .add,some (.one (.val (.string m))),some (.one (.val (.string n)))=>(lh m n).bind fun r=>kv s k (.string r)
 | _,_,_=>Xc tt s k b t x y
def We (T:TypeId) (x i:Operand):Option Y:=(td tt T).bind fun d=>d.ik.bind fun k1=>match k1,opd s x,opd s i with
 | none,some (.one (.val (.string m))),some (.one (.val (.int j n)))=>(jB m n).bind fun r=>kv s k (.int .u8 r)
 | _,_,_=>none
def Xj (d:Int):Option Operand->Option Int
 | none=>some d
 | some y=>match opd s y with
  | some (.one (.val (.int _ n)))=>some n
  | _=>none
def M3 (T:TypeId) (x:Operand) (lo hi:Option Operand):Option Y:=(td tt T).bind fun d=>d.ik.bind fun k1=>match k1,opd s x with
 | none,some (.one (.val (.string m)))=>(Xj s 0 lo).bind fun l=>(Xj s (m.size:Int) hi).bind fun h=>(qT m l h).bind fun r=>kv s k (.string r)
 | _,_=>none
def R1 (S D:TypeId) (x:Operand):Option Y:=(td tt S).bind fun a=>(td tt D).bind fun b=>a.el.bind fun E=>(td tt E).bind fun e=>e.ik.bind fun k1=>b.ik.bind fun k2=>match k1,k2,opd s x with
 | some .u8,none,some (.one (.own h))=>(rowOf h s.chs).bind fun r=>(mU (.sl r.E r.t) (.sl r.E (.int .u8)) r.xs).bind fun xs=>k ⟨[r.ent h],[],r.rest,[],.one (.val (.string (xj xs)))⟩
 | some .u8,none,some (.one (.rd _ t d))=>(mU t (.sl E (.int .u8)) d).bind fun xs=>kv s k (.string (xj xs))
 | some .u8,none,some (.one (.val (.slice none 0 0)))=>kv s k (.string ByteArray.empty)
 | _,_,_=>none
end
section
variable {Y:Type} {tt:TT} {s:Sg} {k:Res->Option Y} {P:Program} {w0:World} {o:Oper} {res:Y} {x y:Operand}
theorem P9 (hT:TTok P tt) {b:BinOp} {t u:TypeId} (ho:o.op= .binOp b t x y u) (h:Ug tt s k b t x y=some res):Oks P w0 s o k res:=by
 unfold Ug at h
 split at h
 ·rename_i m n hx hy
  obtain ⟨r,hr,h⟩:=bind_some h
  obtain ⟨u1,hc,hr⟩:=bind_some hr
  obtain rfl:=ae hr
  exact jT h rfl fun J θ hf=>Ue (bw hc) ho (aF hx) (aF hy)
 ·exact LJ hT ho h
theorem Qa (hT:TTok P tt) {T:TypeId} {i:Operand} (ho:o.op= .index T x i) (h:We tt s k T x i=some res):Oks P w0 s o k res:=by
 obtain ⟨d,hd,g1⟩:=bind_some h
 obtain ⟨k1,h1,g2⟩:=bind_some g1
 clear h g1
 split at g2
 ·rename_i m j n hx hi
  obtain ⟨r,hr,h⟩:=bind_some g2
  obtain ⟨u1,hc,hr⟩:=bind_some hr
  obtain rfl:=ae hr
  exact jT h rfl fun J θ hf=>M0 ((hT.get hd).ik _ h1) (bw hc) ho (aF hx) (aF hi)
 ·cases g2
theorem M4 {d n:Int} {θ:Th} {lo:Option Operand} (h:Xj s d lo=some n):Uf (evL (envL θ s)) d lo n:=by
 cases lo with
 | none=>exact (ae h).symm
 | some z =>
  simp only[Xj] at h
  split at h
  ·rename_i j m hz
   obtain rfl:=ae h
   exact ⟨j,aF hz⟩
  ·cases h
theorem Kf (hT:TTok P tt) {T:TypeId} {lo hi:Option Operand} (ho:o.op= .slice T x lo hi none) (h:M3 tt s k T x lo hi=some res):Oks P w0 s o k res:=by
 obtain ⟨d,hd,g1⟩:=bind_some h
 obtain ⟨k1,h1,g2⟩:=bind_some g1
 clear h g1
 split at g2
 ·rename_i m hx
  obtain ⟨l,hl,g3⟩:=bind_some g2
  obtain ⟨e,he,g4⟩:=bind_some g3
  obtain ⟨r,hr,h⟩:=bind_some g4
  obtain ⟨u1,hc,hr⟩:=bind_some hr
  obtain rfl:=ae hr
  exact jT h rfl fun J θ hf=>M2 ((hT.get hd).ik _ h1) (bw hc) ho (aF hx) (M4 hl) (M4 he)
 ·cases g2
theorem M5 (hT:TTok P tt) {S D:TypeId} (ho:o.op= .convert S D x) (h:R1 tt s k S D x=some res):Oks P w0 s o k res:=by
 obtain ⟨a,ha,g1⟩:=bind_some h
 obtain ⟨b,hb,g2⟩:=bind_some g1
 obtain ⟨E,hE,g3⟩:=bind_some g2
 obtain ⟨e,he,g4⟩:=bind_some g3
 obtain ⟨k1,h1,g5⟩:=bind_some g4
 obtain ⟨k2,h2,g6⟩:=bind_some g5
 clear h g1 g2 g3 g4 g5
 have hS:=(hT.get ha).el _ hE
 have hD:=(hT.get hb).ik _ h2
 have hU:=(hT.get he).ik _ h1
 split at g6
 ·rename_i hh hx
  obtain ⟨r,hr,g7⟩:=bind_some g6
  obtain ⟨xs,hxs,g8⟩:=bind_some g7
  obtain ⟨hp,-⟩:=bK hr
  refine ⟨_,g8,mZ hp,aQ rfl,fun J θ hf=>OpT.weak (ve (ls:=[Ch.own (Ty.sl r.E r.t).rep [hv θ hh] r.xs]) (rn:=[]) (gv:=fun _=>[]) (fun _=>trivial) fun J' hJ hrd hbl=>?_) (fact:=(· = .string (xj xs))) (fun u hu=>?_) (fun u hu=>rfl)⟩
  ·have h3:=gR hxs (hrd _ _ _ (List.mem_singleton_self _))
   exact zz hS hU hD h3 ho (aF hx)
  ·subst hu
   exact ⟨Eq.refl true,rfl,fun g hg=>by cases hg⟩
 ·rename_i hh t d hx
  obtain ⟨xs,hxs,g7⟩:=bind_some g6
  exact jT g7 rfl fun J θ hf=>zz hS hU hD (gR hxs (bO hf hx).2) ho (aF hx)
 ·rename_i hx
  exact jT g6 rfl fun J θ hf=>zz (E':=0) (xs:=[]) (h1:=fun _=>rfl) hS hU hD ⟨none,0,rfl,⟨by simp,by simp⟩,.inl rfl⟩ ho (aF hx)
 ·cases g6
end
end R
namespace R
open Go.RowKit
open D
section
variable {Y:Type} (s:Sg) (k:Res->Option Y)
def XW (T f:Nat) (x y:Operand):Option Y:=match opd s x,opd s y with
 | some (.agg xs),some (.agg ys)=>k ⟨[],[],s.chs,[(⟨s.nxt,[]⟩,.clo f [] [.ptr ⟨s.nxt,[0]⟩ 0,.ptr ⟨s.nxt,[1]⟩ 0]),(⟨s.nxt,[0]⟩,.blk T xs),(⟨s.nxt,[1]⟩,.blk T ys)],.one (.own ⟨s.nxt,[]⟩)⟩
 | _,_=>none
end
section
variable {Y:Type} {s:Sg} {k:Res->Option Y} {P:Program} {w0:World} {o:Oper} {res:Y} {x y:Operand}
theorem Qb {J:Hp} {θ:Th} {n:Nat} {chs:List Ent} {h:Hdr} {ver f:Nat} {capt:List LV} (h1:h.id<n) (h2:ver<n) (h3: ∀x∈capt,x.ok P w0 J θ n) (h4:hv θ h= .func (.func f) #[] (capt.map (·.v θ)).toArray):okE P w0 J θ n chs (h,ver,.clo f [] capt):=
 ⟨h1,h2,fun y hy=>(by cases hy),h3,h4⟩
theorem De {J:Hp} {θ:Th} {n:Nat} {chs:List Ent} {h:Hdr} {ver T:Nat} {cells:List LV} (h1:h.id<n) (h2:ver<n) (h3: ∀x∈cells,x.ok P w0 J θ n):okE P w0 J θ n chs (h,ver,.blk T cells):=⟨h1,h2,h3⟩
set_option maxHeartbeats 2000000 in
theorem Uh {g T f:Nat} (hk:VZ P g T f) {ts:Array TypeId} (ho:o.op= .call { callee:=.value (.func g),args:= #[x,y],argTypes:=ts }) (h:XW s k T f x y=some res):Oks P w0 s o k res:=by
 unfold XW at h
 split at h
 ·rename_i xs ys hx hy
  refine ⟨_,h,by simp,aQ rfl,fun J θ hf=>?_⟩
  have k1: ∀z∈xs,z.ok P w0 J θ s.nxt:=bO hf hx
  have k2: ∀z∈ys,z.ok P w0 J θ s.nxt:=bO hf hy
  have hl:(#[] :Array Value).toList++(#[x,y] :Array Operand).toList.map (evL (envL θ s))++(#[] :Array Value).toList=(#[.agg (xs.map (·.v θ)).toArray,.agg (ys.map (·.v θ)).toArray] :Array Value).toList:=by
   simp only[List.map_cons,List.map_nil,List.nil_append,List.append_nil,aF (θ:=θ) hx,aF (θ:=θ) hy]
   rfl
  refine OpT.weak (n8 hk.1 ho rfl hl (hk.2 J w0 (xs.map (·.v θ)) (ys.map (·.v θ)))) (fun v hv0=>?_) (fun v hv0=>?_)
  ·obtain ⟨b1,b2,rfl⟩:=hv0
   refine ⟨⟨ax _,by rw[de];rfl⟩,de,fun g hg=>?_⟩
   rcases az hg with rfl | hg
   ·refine Qb (ax _) (ax _) (fun z hz=>?_) ?_
    ·rcases az hz with rfl | hz
     ·exact ax _
     ·obtain rfl:=aq hz
      exact ax _
    ·show hv (upd θ s.nxt _) ⟨s.nxt,[]⟩=_
     rw[de]
     show Value.func _ _ _=Value.func _ _ #[.pointer (some ⟨bk (vg (upd θ s.nxt _ s.nxt) [0]),0,none⟩),.pointer (some ⟨bk (vg (upd θ s.nxt _ s.nxt) [1]),0,none⟩)]
     rw[fV]
     rfl
   rcases az hg with rfl | hg
   ·exact De (ax _) (ax _) fun z hz=>LV.ok_same Same.upd (Nat.le_succ _) (k1 z hz) Hp.le.rfl
   ·obtain rfl:=aq hg
    exact De (ax _) (ax _) fun z hz=>LV.ok_same Same.upd (Nat.le_succ _) (k2 z hz) Hp.le.rfl
  ·show [Ch.emp,Ch.blk (bk (vg v [0])) _ T,Ch.blk (bk (vg v [1])) _ T] = [Ch.emp,Ch.blk (bk (vg (upd θ s.nxt v s.nxt) [0])) (xs.map _) T,Ch.blk (bk (vg (upd θ s.nxt v s.nxt) [1])) (ys.map _) T]
   rw[fV,gF Same.upd k1,gF Same.upd k2]
 ·cases h
end
end R
namespace R
open Go.RowKit
open D
def R2 (h:Hdr) (s:Sg):Option Sg:=(pull h s.chs).bind fun r=>match r.1.2.2 with
 | .own (.sl E (.bag t)) xs=>some ⟨s.env,(h,s.nxt,.own (.sl E (.fro (.fro (.fro t)))) xs)::r.2,s.nxt+1⟩
 | _=>none
def wv (h:Hdr) (s:Sg):Sg:=match R2 h s with
 | some s'=>s'
 | none=>s
def Kg (o:Oper) (s:Sg):Sg:=match o.op with
 | .indexAddr _ x _=>match opd s x with
  | some (.one (.own h))=>wv h s
  | _=>s
 | _=>s
def Zg:Chk->Bool
 | .own (.sl _ (.fro (.fro (.fro _)))) _=>true
 | _=>false
def GU (n:Nat) (e:Ent):Ent:=match e.2.2 with
 | .own (.sl E (.fro (.fro (.fro t)))) xs=>(e.1,n,.own (.sl E (.bag t)) xs)
 | _=>e
def Qc (s:Sg):Sg:=match s.chs.any fun e=>Zg e.2.2 with
 | true=>⟨s.env,s.chs.map (GU s.nxt),s.nxt+1⟩
 | false=>s
def R3 (s:Sg):Sg:=Qc (qS s)
section
variable {P:Program} {I J:Hp} {w0 w:World} {F:Ch} {n:Nat} {θ:Th} {s s':Sg} {a:Act} {h:Hdr}
theorem EY (hs:R2 h s=some s') (hS:Sim P I w0 F n J θ s a w): ∃J',J.le J'/\Sim P I w0 F n J' θ s' a w/\Fr s θ s' θ:=by
 obtain ⟨r,hr,hs⟩:=bind_some hs
 obtain ⟨p,k⟩:=fa hr
 obtain ⟨⟨h2,ver,c⟩,rest⟩:=r
 obtain rfl:h2=h:=k
 cases c with
 | own t' d =>
  cases t' with
  | sl E t' =>
   cases t' with
   | bag t =>
    obtain rfl:=ae (show some _=some s' from hs)
    have hok:=hS.fine.chs _ (p.mem_iff.2 (List.mem_cons_self ..))
    have h1:St J w0 w (Ch.own (af E (K7 t.rep)) [hv θ h2] d::(rest.map (toCh P θ)++ [F])):=hS.st.perm ((p.map (toCh P θ)).append_right [F])
    obtain ⟨J',hJ,hst⟩:=h1.freeze_els
    have hmem: ∀e,e∈rest->e∈s.chs:=fun e he=>p.mem_iff.2 (bh _ he)
    have hnew:Newer s.nxt s.chs ((h2,s.nxt,Chk.own (.sl E (.fro (.fro (.fro t)))) d)::rest):=fun e he h' ver' c hs'=>by
     rcases az he with rfl | he
     ·obtain ⟨rfl,hs'⟩:=hs'
      rcases hs' with ⟨h1,-⟩ | hs'
      ·exact .inl (Nat.le_of_eq h1)
      ·exact hs'.elim
     ·exact .inr ⟨e,hmem e he,hs'⟩
    refine ⟨J',hJ,⟨hS.le.trans hJ,hS.agr,?_,fun e he=>AV.ok_same Same.rfl (Nat.le_succ _) hnew (hS.fine.env e he) hJ,fun e he=>aV (hS.fine.ver e he),hS.fine.nd,fun e he=>?_,hS.fine.lay.mono hJ⟩,Nat.le_succ _,Same.rfl,fun e he _=>he,hnew⟩
    ·show St J' w0 w (Ch.own (af E (xT (xT (xT t.rep)))) [hv θ h2] d::(rest.map (toCh P θ)++ [F]))
     obtain ⟨b1,b2,F0,⟨G,K,rfl,⟨hl,e2⟩,e3⟩,b4,b5⟩:=hst
     refine ⟨b1,b2,G++K,⟨G,K,rfl,⟨hl,?_⟩,e3⟩,b4,b5⟩
     rcases e2 with e2 | ⟨g,ofs,cap,cur,K1,hv',k1,k2,k3,k4,k6,k5⟩
     ·exact .inl e2
     ·exact .inr ⟨g,ofs,cap,cur,K1,hv',k1,k2,k3,k4,k6,OwnEls.turn (R:=xT t.rep) (S:=xT (xT (xT t.rep))) rfl (fun c x G hx=>⟨hx.1,hx.2⟩) k5⟩
    ·rcases az he with rfl | he
     ·exact ⟨aV hok.1,ax _,trivial⟩
     ·exact fh Same.rfl (Nat.le_succ _) hnew (hS.fine.chs e (hmem e he)) hJ
   | _=>cases hs
  | _=>cases hs
 | _=>cases hs
theorem Qd {o:Oper} (hS:Sim P I w0 F n J θ s a w): ∃J',J.le J'/\Sim P I w0 F n J' θ (Kg o s) a w/\Fr s θ (Kg o s) θ:=by
 unfold Kg
 split
 ·split
  ·unfold wv
   split
   ·exact EY ‹_› hS
   ·exact ⟨J,Hp.le.rfl,hS,Fr.rfl⟩
  ·exact ⟨J,Hp.le.rfl,hS,Fr.rfl⟩
 ·exact ⟨J,Hp.le.rfl,hS,Fr.rfl⟩
theorem IP {f g:Ent->Ch} {C:List Ch} : ∀ {l:List Ent} {K:List Nat},(∀e∈l,∀F,(f e).holds J w F->(g e).holds J w F)->Sep J (l.map f++C) w K->Sep J (l.map g++C) w K
 | [],K,_,h=>h
 | e::l,_,hh,⟨G,K',e1,h1,h2⟩=>⟨G,K',e1,hh e (by simp) G h1,IP (fun e he=>hh e (by simp[he])) h2⟩
theorem Kh {n:Nat} {e:Ent} {h:Hdr} {ver:Nat} {c:Chk} (k:Says (GU n e) h ver c):ver=n\/Says e h ver c:=by
 unfold GU at k
 split at k
 ·obtain ⟨rfl,k⟩:=k
  rcases k with ⟨h1,-⟩ | k
  ·exact .inl h1.symm
  ·exact k.elim
 ·exact .inr k
theorem Qe (hS:Sim P I w0 F n J θ s a w):Sim P I w0 F n J θ (Qc s) a w/\Fr s θ (Qc s) θ:=by
 unfold Qc
 split
 ·have hnew:Newer s.nxt s.chs (s.chs.map (GU s.nxt)):=fun e he h ver c hs=>by
   obtain ⟨e0,h0,rfl⟩:=List.mem_map.1 he
   rcases Kh hs with rfl | hs
   ·exact .inl (aE _)
   ·exact .inr ⟨e0,h0,hs⟩
  refine ⟨⟨hS.le,hS.agr,?_,fun e he=>AV.ok_same Same.rfl (Nat.le_succ _) hnew (hS.fine.env e he) Hp.le.rfl,fun e he=>aV (hS.fine.ver e he),hS.fine.nd,fun e he=>?_,hS.fine.lay⟩,Nat.le_succ _,Same.rfl,fun e he _=>he,hnew⟩
  ·obtain ⟨h1,h2,K,h3,h4,h5⟩:=hS.st
   refine ⟨h1,h2,K,?_,h4,h5⟩
   rw[List.map_map]
   refine IP (fun e he G hG=>?_) h3
   show (toCh P θ (GU s.nxt e)).holds J w G
   obtain ⟨hh,ver,c⟩:=e
   unfold GU
   split
   ·rename_i E t xs hc
    obtain rfl:c= .own (.sl E (.fro (.fro (.fro t)))) xs:=hc
    obtain ⟨hl,e2⟩:=(show (af E (xT (xT (xT t.rep)))).own J w [hv θ hh] xs G from hG)
    refine (show (af E (K7 t.rep)).own J w [hv θ hh] xs G from ⟨hl,?_⟩)
    rcases e2 with e2 | ⟨g,ofs,cap,cur,K1,hv',k1,k2,k3,k4,k6,k5⟩
    ·exact .inl e2
    ·exact .inr ⟨g,ofs,cap,cur,K1,hv',k1,k2,k3,k4,k6,OwnEls.turn (R:=xT (xT (xT t.rep))) (S:=K7 t.rep) rfl (fun c x G hx=>by rw[hx.1];exact RD hx.2) k5⟩
   ·exact hG
  ·obtain ⟨e0,h0,rfl⟩:=List.mem_map.1 he
   have hok:=hS.fine.chs e0 h0
   have:=fh Same.rfl (Nat.le_succ _) hnew hok (J':=J) Hp.le.rfl
   obtain ⟨hh,ver,c⟩:=e0
   unfold GU
   split
   ·exact ⟨this.1,ax _,trivial⟩
   ·exact this
 ·exact ⟨hS,Fr.rfl⟩
theorem M6 (hS:Sim P I w0 F n J θ s a w): ∃θ',Sim P I w0 F n J θ' (R3 s) a w/\Fr s θ (R3 s) θ':=by
 obtain ⟨θ',S1,F1⟩:=yx hS
 obtain ⟨S2,F2⟩:=Qe S1
 exact ⟨θ',S2,F1.trans F2⟩
end
end R
namespace R
open Go.RowKit
open D
section
variable {Y:Type} (ft:FT) (s:Sg) (k:Res->Option Y)
def M7 (ns:List Int):List LV:=ns.map fun n=>.val (.int .i64 n)
def YQ (T:Nat) (g:FuncId) (x:Operand):Option Y:=(fs ft g).bind fun f=>(opd s x).bind fun v=>(di ft s s.chs f.ps [v]).bind fun a=>bR (a.lent.isEmpty&&a.own.isEmpty) <|
 (appP f.ps f.m a.d).bind fun r=>(TQ (f.rs++outs f.ps) (toH _ r)).bind fun ns=>match opd s x with
 | some (.one lv)=>k ⟨[],[],s.chs,[(⟨s.nxt,[]⟩,.blk T (lv::M7 ns))],.one (.ptr ⟨s.nxt,[]⟩ 0)⟩
 | _=>none
end
section
variable {Y:Type} {ft:FT} {s:Sg} {k:Res->Option Y} {P:Program} {w0:World} {o:Oper} {res:Y} {x:Operand}
theorem Qf {J:Hp} {θ:Th} {n:Nat} {ns:List Int} : ∀z∈M7 ns,z.ok P w0 J θ n:=fun z hz=>by
 obtain ⟨m,hm,rfl⟩:=List.mem_map.1 hz
 exact Eq.refl true
theorem Ui {θ:Th} {ns:List Int} :(M7 ns).map (·.v θ)=ns.map (Value.int .i64):=by
 unfold M7
 rw[List.map_map];rfl
theorem Uj {T:Nat} {g:FuncId} (hF:FTok P ft) (hk: ∀f,fs ft g=some f->NewOk P g T f) {ts:Array TypeId} (ho:o.op= .call { callee:=.value (.func g),args:= #[x],argTypes:=ts }) (h:YQ ft s k T g x=some res):Oks P w0 s o k res:=by
 obtain ⟨f,hf',h⟩:=bind_some h
 obtain ⟨v0,hv0',h⟩:=bind_some h
 obtain ⟨a,ha,h⟩:=bind_some h
 obtain ⟨hc,h⟩:=aj h
 rw[ak] at hc
 have hl0:a.lent= []:=List.isEmpty_iff.1 hc.1
 have ho0:a.own= []:=List.isEmpty_iff.1 hc.2
 obtain ⟨r,hr,h⟩:=bind_some h
 obtain ⟨ns,hns,h⟩:=bind_some h
 split at h
 ·rename_i lv hx
  refine ⟨_,h,by simp,aQ rfl,fun J θ hf=>?_⟩
  have k1:lv.ok P w0 J θ s.nxt:=bO hf hx
  obtain rfl:v0= .one lv:=ae (hv0'.symm.trans hx)
  obtain ⟨q1,-,-⟩:=fA (J':=J) hF hf Hp.le.rfl ha (fun y hy=>by obtain rfl:=aq hy;exact k1) (fun e he=>he) (by rw[hl0];exact fun h hh=>by cases hh) (ghV θ a.gh) BT
  have hev:evL (envL θ s) x=lv.v θ:=aF (θ:=θ) hx
  have q1:PArgs P w0 J (ghV θ a.gh) f.ps [lv.v θ] a.d:=q1
  have hl:(#[] :Array Value).toList++(#[x] :Array Operand).toList.map (evL (envL θ s))++(#[] :Array Value).toList=([lv.v θ] :List Value).toArray.toList:=by
   simp only[List.map_cons,List.map_nil,List.nil_append,List.append_nil,hev]
  refine OpT.weak (n8 (hk f hf').1 ho rfl hl ((hk f hf').2 w0 J (ghV θ a.gh) [lv.v θ] a.d r ns hf.lay q1 hr hns)) (fun v hv0=>?_) (fun v hv0=>?_)
  ·obtain ⟨b,rfl⟩:=hv0
   refine ⟨ax _,by show Value.pointer (some ⟨bk (hv _ ⟨s.nxt,[]⟩),0,none⟩)=_;rw[de];rfl,fun g hg=>?_⟩
   obtain rfl:=aq hg
   refine De (ax _) (ax _) fun z hz=>?_
   rcases az hz with rfl | hz
   ·exact LV.ok_same Same.upd (Nat.le_succ _) k1 Hp.le.rfl
   ·exact Qf z hz
  ·show [Ch.blk (bk v) ([lv.v θ] ++ns.map (Value.int .i64)) T] = [Ch.blk (bk (hv (upd θ s.nxt v) ⟨s.nxt,[]⟩)) ((lv::M7 ns).map (·.v (upd θ s.nxt v))) T]
   rw[de,List.map_cons,Ui,LV.v_same Same.upd k1];rfl
 ·cases h
end
end R
namespace R
open Go.RowKit
open D
structure Mp where
 ver:Nat
 md:MD
 m:List (md.k.den×md.e.den)
 rest:List Ent
def MD.ck (d:MD) (m:List (d.k.den×d.e.den)):Chk:=.map d.K d.E d.k d.e m
def Xk (h:Hdr) (chs:List Ent):Option Mp:=(pull h chs).bind fun r=>match r.1.2.2 with
 | .map K E k e m=>some ⟨r.1.2.1,⟨K,E,k,e⟩,m,r.2⟩
 | _=>none
def Mp.ent (r:Mp) (h:Hdr):Ent:=(h,r.ver,r.md.ck r.m)
theorem GV {h:Hdr} {chs:List Ent} {r:Mp} (e:Xk h chs=some r):chs.Perm (r.ent h::r.rest):=by
 obtain ⟨q,hq,e⟩:=bind_some e
 obtain ⟨p,k⟩:=fa hq
 obtain ⟨⟨h',ver,c⟩,rest⟩:=q
 obtain rfl:h'=h:=k
 cases c with
 | map K E k e' m =>
  obtain rfl:=ae (show some _=some r from e)
  exact p
 | _=>cases e
def MK.beq:MK->MK->Bool
 | .int,.int=>true
 | .ii,.ii=>true
 | _,_=>false
def ME.beq:ME->ME->Bool
 | .int,.int=>true
 | .bool,.bool=>true
 | _,_=>false
def MD.beq (a b:MD):Bool:=Nat.beq a.K b.K&&Nat.beq a.E b.E&&MK.beq a.k b.k&&ME.beq a.e b.e
theorem MD.beq_eq {a b:MD} (h:MD.beq a b=true):a=b:=by
 obtain ⟨K,E,k,e⟩:=a
 obtain ⟨K',E',k',e'⟩:=b
 unfold MD.beq at h
 simp only[ak] at h
 obtain ⟨⟨⟨h1,h2⟩,h3⟩,h4⟩:=h
 obtain rfl:K=K':=au h1
 obtain rfl:E=E':=au h2
 obtain rfl:k=k':=by cases k <;> cases k' <;> first | rfl | cases h3
 obtain rfl:e=e':=by cases e <;> cases e' <;> first | rfl | cases h4
 rfl
def Qg:(k:MK)->AV->Option k.den
 | .int,.one (.val (.int .i64 n))=>some n
 | .ii,.agg [.val (.int .i64 a),.val (.int .i64 b)] =>some (a,b)
 | _,_=>none
theorem Df {k:MK} {v:AV} {d:k.den} (h:Qg k v=some d) (θ:Th):v.v θ=k.val d:=by
 unfold Qg at h
 split at h
 ·rw[<-ae h];rfl
 ·rw[<-ae h];rfl
 ·cases h
def Uk:(e:ME)->AV->Option e.den
 | .int,.one (.val (.int .i64 n))=>some n
 | .bool,.one (.val (.bool b))=>some b
 | .bool,.one (.nb b)=>some (!b)
 | _,_=>none
theorem Qh {e:ME} {v:AV} {d:e.den} (h:Uk e v=some d) (θ:Th):v.v θ=e.val d:=by
 unfold Uk at h
 split at h
 ·rw[<-ae h];rfl
 ·rw[<-ae h];rfl
 ·rw[<-ae h];rfl
 ·cases h
theorem ME.val_one (e:ME) (d:e.den):(e.val d).oneCell'=true:=by cases e <;> rfl
section
variable {Y:Type} (tt:TT) (s:Sg) (k:Res->Option Y)
def YR (T:TypeId):Option Y:=(td tt T).bind fun d=>d.mp.bind fun md=>k ⟨[],[],s.chs,[(⟨s.nxt,[]⟩,md.ck [])],.one (.own ⟨s.nxt,[]⟩)⟩
def Ul (T:TypeId) (m x y:Operand):Option Y:=(td tt T).bind fun d=>d.mp.bind fun md=>match opd s m with
 | some (.one (.own h))=>(Xk h s.chs).bind fun r=>bR (MD.beq md r.md) ((opd s x).bind fun kv=>(Qg r.md.k kv).bind fun q=>(opd s y).bind fun ev=>(Uk r.md.e ev).bind fun i =>
  (@Lr r.md.k.den r.md.e.den r.m r.md.k.ok r.md.e.ok q i).bind fun M=>k ⟨[],[r.ent h],r.rest,[(h,r.md.ck M)],.any ⟨s.nxt,[]⟩⟩)
 | _=>none
def R4 (T:TypeId) (m x:Operand) (two:Bool):Option Y:=(td tt T).bind fun d=>d.mp.bind fun md=>match opd s m with
 | some (.one (.own h))=>(Xk h s.chs).bind fun r=>bR (MD.beq md r.md) ((opd s x).bind fun kv=>(Qg r.md.k kv).bind fun q =>
  Xb false (r.md.k.ok q=true) (instDecidableEqBool _ _) (match two with
   | true=>k ⟨[r.ent h],[],r.rest,[],.tup [(false,[.val (r.md.e.val ((@lkM r.md.k.den r.md.e.den r.md.k.dec r.m q).getD r.md.e.z))]),(false,[.val (.bool (@lkM r.md.k.den r.md.e.den r.md.k.dec r.m q).isSome)])]⟩
   | false=>k ⟨[r.ent h],[],r.rest,[],.one (.val (r.md.e.val ((@lkM r.md.k.den r.md.e.den r.md.k.dec r.m q).getD r.md.e.z)))⟩))
 | _=>none
end
section
variable {Y:Type} {tt:TT} {s:Sg} {k:Res->Option Y} {P:Program} {w0:World} {o:Oper} {res:Y} {m x y:Operand}
theorem M8 {θ:Th} {h:Hdr} {ver:Nat} {md:MD} {M:List (md.k.den×md.e.den)} :toCh P θ (h,ver,md.ck M)= @Ch.mp P md.K md.E md.k.den md.e.den md.k.dec md.k.lit md.k.ok md.e.lit md.e.z (hv θ h) M:=rfl
theorem Wf {I:Hp} {w:World} {C:List Ch} {K E:TypeId} {κ ε:Type} [DecidableEq κ] {lit:κ->Lit} {ok:κ->Bool} {elit:ε->Lit} {z:ε} {v:Value} {M:List (κ×ε)} (h:St I w0 w (Ch.mp P K E lit ok elit z v M::C)):v.oneCell'=true:=by
 obtain ⟨h1,h2,F,⟨G,G',rfl,⟨b,rfl,rfl,h3⟩,e⟩,h4,h5⟩:=h
 rfl
theorem Um (hT:TTok P tt) {T:TypeId} (ho:o.op= .makeMap T none) (h:YR tt s k T=some res):Oks P w0 s o k res:=by
 obtain ⟨d,hd,h⟩:=bind_some h
 obtain ⟨md,hm,h⟩:=bind_some h
 refine ⟨_,h,by simp,aQ rfl,fun J θ hf=>?_⟩
 have h1:= @Gl P J w0 o (evL (envL θ s)) md.k.den md.e.den md.k.dec md.k.lit md.k.ok md.e.lit md.e.z T md.K md.E ho
 intro w C hs
 refine (h1 w C hs).imp fun v w' hv=>?_
 have hone:=letI:=md.k.dec;Wf hv.2
 refine ⟨⟨⟨ax _,by rw[de];exact hone⟩,de,fun g hg=>?_⟩,?_⟩
 ·obtain rfl:=aq hg
  exact ⟨ax _,ax _,trivial⟩
 ·show St J w0 w' ([toCh P (upd θ s.nxt v) (⟨s.nxt,[]⟩,s.nxt,md.ck [])] ++C)
  rw[M8,de];exact hv.2
theorem IQ (hT:TTok P tt) {T:TypeId} (ho:o.op= .mapUpdate T m x y\/o.op= .insert T m x y) (h:Ul tt s k T m x y=some res):Oks P w0 s o k res:=by
 obtain ⟨d,hd,h⟩:=bind_some h
 obtain ⟨md,hm,h⟩:=bind_some h
 split at h
 ·rename_i hh hx
  obtain ⟨r,hr,h⟩:=bind_some h
  obtain ⟨he,h⟩:=aj h
  obtain ⟨kv,hk,h⟩:=bind_some h
  obtain ⟨q,hq,h⟩:=bind_some h
  obtain ⟨ev,hev,h⟩:=bind_some h
  obtain ⟨i,hi,h⟩:=bind_some h
  obtain ⟨M,hM,h⟩:=bind_some h
  have hp:=GV hr
  obtain ⟨m1,m2,m3⟩:=(hT.get hd).mp _ hm
  rw[MD.beq_eq he] at m1 m2 m3
  refine ⟨_,h,Be hp,aQ rfl,fun J θ hf=>?_⟩
  have hok:=jG hf hp
  have h1:= @JF P J w0 o (evL (envL θ s)) r.md.k.den r.md.e.den r.md.k.dec r.md.k.lit r.md.k.val r.md.k.ok r.md.e.val r.md.e.lit r.md.e.ok r.md.e.z T r.md.K r.md.E m x y (hv θ hh) q i r.m M m2 m3 m1 ho (aF hx) ((aF hk).trans (Df hq θ)) ((aF hev).trans (Qh hi θ)) hM
  refine OpT.weak h1 (fun u hu=>⟨ax _,de,fun g hg=>?_⟩) (fun u hu=>?_)
  ·obtain rfl:=aq hg
   exact ⟨aV hok.1,ax _,trivial⟩
  ·show [_] = [toCh P (upd θ s.nxt u) (hh,s.nxt,r.md.ck M)]
   rw[M8,show hv (upd θ s.nxt u) hh=hv θ hh from aZ Same.upd hok.1]
 ·cases h
theorem M9 (hT:TTok P tt) {T:TypeId} {two:Bool} (ho:o.op= .lookup T m x two) (h:R4 tt s k T m x two=some res):Oks P w0 s o k res:=by
 obtain ⟨d,hd,h⟩:=bind_some h
 obtain ⟨md,hm,h⟩:=bind_some h
 split at h
 ·rename_i hh hx
  obtain ⟨r,hr,h⟩:=bind_some h
  obtain ⟨he,h⟩:=aj h
  obtain ⟨kv,hk,h⟩:=bind_some h
  obtain ⟨q,hq,h⟩:=bind_some h
  obtain ⟨hok,h⟩:=Gr h
  have hp:=GV hr
  obtain ⟨m1,m2,m3⟩:=(hT.get hd).mp _ hm
  rw[MD.beq_eq he] at m1 m2 m3
  cases two with
  | true =>
   refine ⟨_,h,mZ hp,fun _ _ _ g hg=>(by cases hg),fun J θ hf=>?_⟩
   have h1:= @Gn P J w0 o (evL (envL θ s)) r.md.k.den r.md.e.den r.md.k.dec r.md.k.lit r.md.k.val r.md.k.ok r.md.e.val r.md.e.lit r.md.e.ok r.md.e.z T r.md.K r.md.E m x (hv θ hh) q r.m m2 m3 hok m1 ho (aF hx) ((aF hk).trans (Df hq θ))
   refine OpT.weak h1 (fun u hu=>⟨fun y hy z hz=>?_,?_,fun g hg=>by cases hg⟩) (fun u hu=>rfl)
   ·rcases az hy with rfl | hy
    ·obtain rfl:=aq hz;exact ME.val_one _ _
    ·obtain rfl:=aq hy
     obtain rfl:=aq hz;exact Eq.refl true
   ·rw[hu];rfl
  | false =>
   refine ⟨_,h,mZ hp,fun _ _ _ g hg=>(by cases hg),fun J θ hf=>?_⟩
   have h1:= @Ej P J w0 o (evL (envL θ s)) r.md.k.den r.md.e.den r.md.k.dec r.md.k.lit r.md.k.val r.md.k.ok r.md.e.val r.md.e.lit r.md.e.ok r.md.e.z T r.md.K r.md.E m x (hv θ hh) q r.m m2 m3 hok m1 ho (aF hx) ((aF hk).trans (Df hq θ))
   refine OpT.weak h1 (fun u hu=>⟨ME.val_one _ _,?_,fun g hg=>by cases hg⟩) (fun u hu=>rfl)
   rw[hu];rfl
 ·cases h
end
end R
namespace R
open Go.RowKit
open D
structure Env where
 tt:TT
 ft:FT
 an:List (Nat×Ty)
 n:Nat
 tr:Trs
section
variable {Y:Type} (V:Env) (s:Sg) (k:Res->Option Y)
def B2 (d:Nat):List (Nat×Ty)->Bool
 | [] =>false
 | (u,_)::l=>Nat.beq u d || B2 d l
def XX (d:Nat):List (Nat×Ty)->Bool
 | [] =>false
 | (u,.raw)::l=>Nat.beq u d || XX d l
 | _::l=>XX d l
def XY (d:Option Nat) (an:List (Nat×Ty)):Bool:=match d with
 | some d=>XX d an
 | none=>false
def XZ (d:Nat):List (Nat×Ty)->Bool
 | [] =>false
 | (u,.str)::l=>Nat.beq u d || XZ d l
 | _::l=>XZ d l
def X0 (d:Option Nat) (an:List (Nat×Ty)):Bool:=match d with
 | some d=>XZ d an
 | none=>false
def Wg (d:Option Nat) (an:List (Nat×Ty)):Bool:=match d with
 | some d=>B2 d an
 | none=>false
def Un (dst:Option Nat) (c:Call):Option Y:=match c.callee,c.args.toList,c.argTypes.toList with
 | .builtin .len,[x],[T] =>match opd s x with
  | some (.one (.own _))=>VV V.tt s k T x
  | some (.vw _ _ _ _ _ _)=>T8 V.tt s k T x
  | some (.xv _ _ _ _ _ _ _)=>T8 V.tt s k T x
  | _=>sLen V.tt s k T x
 | .builtin .append,[x,y],[T,U] =>match Nat.beq T U with
  | true=>(match opd s x with
   | some (.vw _ _ _ _ _ _)=>V8 V.tt s k T x y
   | _=>(match opd s y with
    | some (.sub _ _ _ _ _ _)=>Ud V.tt s k T x y
    | some (.pre _ _ _ _ _ _)=>Ud V.tt s k T x y
    | _=>YN V.tt V.an s k dst T x y))
  | false=>V9 V.tt s k T U x y
 | .builtin .clear,[x],[T] =>MS V.tt s k T x
 | .builtin .copy,[x,y],[T,_] =>match opd s x with
  | some (.vw _ _ _ _ _ _)=>MX V.tt s k T x y
  | some (.xv _ _ _ _ _ _ _)=>MX V.tt s k T x y
  | _=>V3 V.tt s k T x y
 | .builtin .min,[x,y],[_,_] =>XQ s k x y
 | .builtin .max,[x,y],[_,_] =>XR s k x y
 | .value (.func g),xs,_=>match (fs V.ft g).bind (·.cl) with
  | some q=>match Nat.beq q.2 7,xs with
   | true,xs=>RS V.ft s k g xs
   | false,[x] =>(match Nat.beq q.2 9 with
    | true=>YQ V.ft s k q.1 g x
    | false=>bR (!Nat.beq q.2 0 && !Nat.ble 1000 q.2) (My s k q.1 q.2 x))
   | false,[x,y] =>(match Nat.ble 1000 q.2 with
    | true=>XW s k q.1 (q.2 - 1000) x y
    | false=>bR (Nat.beq q.2 0) (Uc s k x y))
   | _,_=>none
  | none=>RR V.ft s k g xs
 | .value (.tmp t),xs,_=>match Iy V.ft s t xs.length with
  | some c=>RT V.ft s k c xs
  | none=>Mf V.ft s k t xs
 | _,_,_=>none
def step (o:Oper):Option Y:=match o.op with
  | .move x=>TG s k x
  | .assign x=>TG s k x
  | .pick c x y=>VS s k c x y
  | .unOp .not _ x=>XK s k x
  | .unOp .neg _ x=>XL s k x
  | .binOp b t x y _=>match opd s y with
   | some (.capv _ _)=>Ub s k b x y
   | _=>match opd s x with
    | some (.one (.rd _ (.tree _ _ _) _))=>XS V.tt s k b t x y
    | some (.one (.ptr _ _))=>XS V.tt s k b t x y
    | some (.one (.rdn _ _ _ _))=>Xh V.tt s k b t x y
    | some (.one (.own _))=>Xh V.tt s k b t x y
    | some (.one (.val (.slice _ _ _)))=>Xh V.tt s k b t x y
    | some (.one (.val (.string _)))=>Ug V.tt s k b t x y
    | _=>Xc V.tt s k b t x y
  | .index T x i=>We V.tt s k T x i
  | .extract x i=>CO s k x i
  | .indexAddr T x i=>match opd s x with
    | some (.one (.own h))=>(match Gz h s.chs with
      | some _=>MZ V.tt s k T x i
      | none=>LO V.tt s k T x i)
    | some (.vw _ _ _ _ _ _)=>GR V.tt s k T x i
    | some (.xv _ _ _ _ _ _ _)=>GR V.tt s k T x i
    | _=>Gs V.tt s k T x i
  | .fieldAddr T x f=>match opd s x with
    | some (.one (.fz _ _ _ _ _))=>GI V.tt s k T x f
    | some (.one (.rd _ (.tree _ _ _) _))=>Ms V.tt s k T x f
    | _=>LH V.tt s k T x f
  | .load T x=>match opd s x with
    | some (.elr _ _ _ _ _ _ _)=>LI V.tt s k T x
    | some (.elo _ _ _ _ _ _ _ _)=>RL V.tt s k T x
    | some (.one (.fz _ _ _ _ _))=>ID V.tt s k T x
    | some (.one (.fzf _ _ _ _ _))=>ID V.tt s k T x
    | _=>RK V.tt s k T x
  | .store T x y=>match opd s x with
    | some (.elo h _ _ _ _ _ _ _)=>match Gz h s.chs with
      | some _=>LY V.tt s k T x y
      | none=>LP V.tt s k T x y
    | _=>LN V.tt s k T x y
  | .nilCheck x=>T2 s k x
  | .slice T x (some lo) (some hi) (some mx)=>MR V.tt s k T x lo hi mx
  | .slice T x lo hi none=>match opd s x with
    | some (.vw _ _ _ _ _ _)=>C9 V.tt s k T x lo hi
    | some (.xv _ _ _ _ _ _ _)=>C9 V.tt s k T x lo hi
    | some (.one (.own _))=>match XY o.dst V.an with
     | true=>C9 V.tt s k T x lo hi
     | false=>match X0 o.dst V.an with
      | true=>(match lo,hi with
        | none,some hi=>MW V.tt s k T x hi
        | _,_=>none)
      | false=>match lo with
      | some _=>match Wg o.dst V.an with
        | true=>Mv V.tt s k T x lo hi
        | false=>Mw V.tt s k T x lo hi
      | none=>match Wg o.dst V.an with
        | true=>Mx V.tt s k T x lo hi
        | false=>Mu V.tt s k T x lo hi
    | some (.one (.val (.string _)))=>M3 V.tt s k T x lo hi
    | _=>Mt V.tt s k T x lo hi
  | .box T x=>YK s k T x
  | .alloc T=>RJ V.tt s k T
  | .build T parts=>RN V.tt s k T parts
  | .buildSlice T m parts=>YM V.tt V.an s k o.dst T m parts
  | .makeSlice T x y=>VW V.tt V.an s k o.dst T x y
  | .call c=>Un V s k o.dst c
  | .makeFunc f x y=>RU s k f x y
  | .makeMap T none=>YR V.tt s k T
  | .convert S D x=>match opd s x with
    | some (.one (.val (.int _ _)))=>VT V.tt s k S D x
    | _=>R1 V.tt s k S D x
  | .mapUpdate T m x y=>Ul V.tt s k T m x y
  | .insert T m x y=>Ul V.tt s k T m x y
  | .lookup T m x two=>R4 V.tt s k T m x two
  | _=>none
end
section
variable {Y:Type} {V:Env} {s:Sg} {k:Res->Option Y} {P:Program} {w0:World} {o:Oper} {res:Y}
theorem Wh {α:Type} {a:Array α} {x:α} (h:a.toList= [x]):a= #[x]:=Array.ext' h
theorem Qi {α:Type} {a:Array α} {x y:α} (h:a.toList= [x,y]):a= #[x,y]:=Array.ext' h
theorem Qj (hT:TTok P V.tt) (hF:FTok P V.ft) {c:Call} (ho:o.op= .call c) (h:Un V s k o.dst c=some res):Oks P w0 s o k res:=by
 obtain ⟨cal,args,tys⟩:=c
 unfold Un at h
 split at h
 ·rename_i x T h1 h2 h3
  obtain rfl:cal= .builtin .len:=h1
  obtain rfl:args= #[x]:=Wh h2
  obtain rfl:tys= #[T]:=Wh h3
  split at h
  ·exact Pp hT ho h
  ·exact IJ hT ho h
  ·exact IJ hT ho h
  ·exact TK hT ho h
 ·rename_i x y T U h1 h2 h3
  obtain rfl:cal= .builtin .append:=h1
  obtain rfl:args= #[x,y]:=Qi h2
  obtain rfl:tys= #[T,U]:=Qi h3
  split at h
  ·rename_i hu
   obtain rfl:T=U:=au hu
   split at h
   ·exact PW hT ho h
   ·split at h
    ·exact IN hT ho h
    ·exact IN hT ho h
    ·exact TP hT ho h
  ·exact P4 hT ho h
 ·rename_i x T h1 h2 h3
  obtain rfl:cal= .builtin .clear:=h1
  obtain rfl:args= #[x]:=Wh h2
  obtain rfl:tys= #[T]:=Wh h3
  exact J8 hT ho h
 ·rename_i x y T U h1 h2 h3
  obtain rfl:cal= .builtin .copy:=h1
  obtain rfl:args= #[x,y]:=Qi h2
  obtain rfl:tys= #[T,U]:=Qi h3
  split at h
  ·exact EV hT ho h
  ·exact EV hT ho h
  ·exact PN hT ho h
 ·rename_i x y T U h1 h2 h3
  obtain rfl:cal= .builtin .min:=h1
  obtain rfl:args= #[x,y]:=Qi h2
  obtain rfl:tys= #[T,U]:=Qi h3
  exact T3 ho h
 ·rename_i x y T U h1 h2 h3
  obtain rfl:cal= .builtin .max:=h1
  obtain rfl:args= #[x,y]:=Qi h2
  obtain rfl:tys= #[T,U]:=Qi h3
  exact T4 ho h
 ·rename_i g h1
  obtain rfl:cal= .value (.func g):=h1
  split at h
  ·rename_i q hq
   obtain ⟨f,hf,hq⟩:=bind_some hq
   split at h
   ·rename_i hb
    exact Ml hF (fun f' hf'=>by
     obtain rfl:f=f':=ae (hf.symm.trans hf')
     exact ((hF.get hf).cl q hq).2.1 hb) ho h
   ·rename_i x h7 hx
    obtain rfl:args= #[x]:=Wh hx
    split at h
    ·rename_i h9
     exact Uj hF (fun f' hf'=>by
      obtain rfl:f=f':=ae (hf.symm.trans hf')
      exact ((hF.get hf).cl q hq).2.2 h9) ho h
    ·rename_i h9
     obtain ⟨hb,h8⟩:=aj h
     rw[ak] at hb
     exact MF (((hF.get hf).cl q hq).1.2.1 (by simpa using hb.1) h7 (by simpa using hb.2) h9) ho h8
   ·rename_i x y h7 hx
    obtain rfl:args= #[x,y]:=Qi hx
    split at h
    ·rename_i hb
     exact Uh (((hF.get hf).cl q hq).1.2.2 hb) ho h
    ·obtain ⟨hb,h9⟩:=aj h
     exact P5 (((hF.get hf).cl q hq).1.1 hb) ho h9
   ·cases h
  ·exact Mj hF ho h
 ·rename_i t h1
  obtain rfl:cal= .value (.tmp t):=h1
  split at h
  ·exact Mk hF ‹_› ho h
  ·exact Mm hF ho h
 ·cases h
theorem Na (hT:TTok P V.tt) (hF:FTok P V.ft) (h:step V s k o=some res):Oks P w0 s o k res:=by
 unfold step at h
 split at h
 ·exact Ii (.inl ‹_›) h
 ·exact Ii (.inr ‹_›) h
 ·exact Pm ‹_› h
 ·exact TH ‹_› h
 ·exact TJ ‹_› h
 ·have ho:= ‹o.op=_›
  split at h
  ·exact P3 ho h
  ·split at h
   ·exact Mz hT ho h
   ·exact Mz hT ho h
   ·exact GL hT ho h
   ·exact GL hT ho h
   ·exact GL hT ho h
   ·exact P9 hT ho h
   ·exact LJ hT ho h
 ·exact Qa hT ‹_› h
 ·exact Gt ‹_› h
 ·have ho:= ‹o.op=_›
  split at h
  ·split at h
   ·exact Ke hT ho h
   ·exact JM hT ho h
  ·exact B0 hT ho h
  ·exact B0 hT ho h
  ·exact JJ hT ho h
 ·have ho:= ‹o.op=_›
  split at h
  ·exact JT hT ho h
  ·exact JU hT ho h
  ·exact LK hT ho h
 ·have ho:= ‹o.op=_›
  split at h
  ·exact LL hT ho h
  ·exact LU hT ho h
  ·exact EJ hT ho h
  ·exact EJ hT ho h
  ·exact LS hT ho h
 ·have ho:= ‹o.op=_›
  split at h
  ·split at h
   ·exact JQ hT ho h
   ·exact JN hT ho h
  ·exact JL hT ho h
 ·exact PJ ‹_› h
 ·exact J7 hT ‹_› h
 ·have ho:= ‹o.op=_›
  split at h
  ·exact wt hT ho h
  ·exact wt hT ho h
  ·split at h
   ·exact wt hT ho h
   ·split at h
    ·split at h
     ·exact Kc hT ho h
     ·cases h
    ·split at h
     ·split at h
      ·exact JX hT ho h
      ·exact JY hT ho h
     ·split at h
      ·exact JZ hT ho h
      ·exact JW hT ho h
  ·exact Kf hT ho h
  ·exact JV hT ho h
 ·exact TL ‹_› h
 ·exact LQ hT ‹_› h
 ·exact LW hT ‹_› h
 ·exact TO hT ‹_› h
 ·exact Ps hT ‹_› h
 ·exact Qj hT hF ‹_› h
 ·exact Mn ‹_› h
 ·exact Um hT ‹_› h
 ·have ho:= ‹o.op=_›
  split at h
  ·exact Pn hT ho h
  ·exact M5 hT ho h
 ·exact IQ hT (.inl ‹_›) h
 ·exact IQ hT (.inr ‹_›) h
 ·exact M9 hT ‹_› h
 ·cases h
end
inductive Gd
 | no | skip | bad
 | yes (t:Nat) (b neg want:Bool)
def guardOf (ops:List Oper) (s:Sg) (o:Oper):Gd:=match o.guard with
 | none=>.no
 | some (g,want)=>match ops[g]? with
  | some p=>match p.dst with
   | some t=>match look s.env t with
    | some (.one (.val (.bool b)))=>.yes t b false want
    | some (.one (.nb b))=>.yes t b true want
    | some .und=>.skip
    | _=>.bad
   | none=>.bad
  | none=>.bad
def GW (s:Sg) (t:Nat) (b:Bool):Sg:=⟨(t,s.nxt,.one (.val (.bool b)))::s.env,s.chs,s.nxt+1⟩
def zA:AV->List Hdr
 | .one (.own h)=>[h]
 | .agg xs=>xs.flatMap fun x=>match x with | .own h=>[h] | _=>[]
 | .elo h _ _ _ _ _ _ _=>[h]
 | _=>[]
def vn:List Hdr->Sg->Sg
 | [],s=>s
 | h::hs,s=>vn hs (settle 4 h s)
def B3 (s:Sg):List Operand->List Hdr
 | [] =>[]
 | x::xs=>(match opd s x with | some v=>zA v | none=>[])++B3 s xs
def X1 (o:Oper):List Operand:=match o.op with
 | .store _ _ y=>[y]
 | .build _ parts=>parts.toList.map (·.2)
 | .buildSlice _ _ parts=>parts.toList.map (·.2)
 | .call c=>c.args.toList
 | .box _ x=>[x]
 | .binOp _ _ x _ _=>[x]
 | .nilCheck x=>[x]
 | _=>[]
def YS (o:Bool):AV->List (Bool×Hdr)
 | .one (.own h)=>[(false,h)]
 | .one (.ptr h off)=>if o&&Nat.beq off 0 then [(true,h)] else []
 | .agg xs=>xs.flatMap fun x=>match x with | .own h=>[(false,h)] | .ptr h off=>if o&&Nat.beq off 0 then [(true,h)] else [] | _=>[]
 | _=>[]
def YT (s:Sg) (o:Bool):List Operand->List (Bool×Hdr)
 | [] =>[]
 | x::xs=>(match opd s x with | some v=>YS o v | none=>[])++YT s o xs
def keeps (o:Oper):Bool:=match o.op with
 | .binOp _ _ _ _ _=>false
 | .nilCheck _=>false
 | _=>true
def Nb:List LV->List (Bool×Hdr)
 | [] =>[]
 | .own h::l=>(false,h)::Nb l
 | _::l=>Nb l
def ldH (s:Sg) (o:Oper):List (Bool×Hdr):=match o.op with
 | .load _ x=>match opd s x with
  | some (.one (.ptr h _))=>match qR h s.chs with
   | some b=>Nb b.cells
   | none=>[]
  | _=>[]
 | _=>[]
def Uo:Trs->Bool
 | [] =>false
 | q::l=>Nat.beq q.2.1 0 || Uo l
def ldF (tr:Trs) (s:Sg) (o:Oper):List (Bool×Hdr):=match Uo tr with
 | true=>ldH s o
 | false=>[]
def Nc:Trs->Trs
 | [] =>[]
 | q::l=>match Nat.beq q.2.1 0 with
  | true=>Nc l
  | false=>q::Nc l
def X2 (s:Sg) (o:Oper):Bool:=match o.op with
 | .store _ x _=>match opd s x with
  | some (.one (.ptr _ _))=>true
  | _=>false
 | .call c=>match c.callee with
  | .value _=>false
  | _=>true
 | _=>false
def YU (tr:Trs) (s:Sg) (o:Oper):List (Bool×Hdr):=match Uo tr&&X2 s o with
 | true=>[]
 | false=>YT s (keeps o) (X1 o)
def Qk (tr:Trs) (o:Oper) (s:Sg):Sg:=match tr with
 | [] =>s
 | _=>PR tr (YU tr s o) s
def Xl (tr:Trs) (o:Oper) (s0:Sg):Sg:=match qS s0 with
 | s=>Qk tr o (Kg o (vn (B3 s o.op.operands.toList) s))
section
variable {Y:Type} (V:Env) (all:List Oper) (k:Sg->Option Y)
noncomputable def Ql (kont:Sg->Option Y) (o:Oper) (s:Sg):Option Y:=match guardOf all s o with
 | .bad=>none
 | .no=>bR (okO V.n s o) (match Ua V.tt s o with
  | some q=>IL q.2.xs.length fun c=>kont (after s o.dst (R0 q c))
  | none=>step V s (fun r=>kont (after s o.dst r)) o)
 | .skip=>bR (dstOk V.n o.dst) (kont (skip s o.dst))
 | .yes t b neg want=>if b then (match (!neg)==want with
   | true=>bR (okO V.n (GW s t (!neg)) o) (step V (GW s t (!neg)) (fun r=>kont (after (GW s t (!neg)) o.dst r)) o)
   | false=>bR (dstOk V.n o.dst) (kont (skip (GW s t (!neg)) o.dst)))
  else (match neg==want with
   | true=>bR (okO V.n (GW s t neg) o) (step V (GW s t neg) (fun r=>kont (after (GW s t neg) o.dst r)) o)
   | false=>bR (dstOk V.n o.dst) (kont (skip (GW s t neg) o.dst)))
noncomputable def EZ:List Oper->Sg->Option Y
 | [],s=>k s
 | o::os,s=>Ql V all (EZ os) o (Xl V.tr o s)
end
section
variable {Y:Type} {V:Env} {P:Program} {I:Hp} {w0 w:World} {F:Ch} {J:Hp} {θ:Th} {s:Sg} {a:Act} {res:Y} {Q:Exit->Act->World->Prop}
theorem Ki {h:Hdr} {s':Sg} (hs:GB h s=some s') (hS:Sim P I w0 F V.n J θ s a w):Fr s θ s' θ:=by
 obtain ⟨r,hr,hs⟩:=bind_some hs
 obtain ⟨q,hq,hs⟩:=bind_some hs
 have hp:=yw hr
 obtain ⟨l,ver,hl,hp2,hu⟩:=Ew hq
 have hmem: ∀e,e∈q.2.2->e∈s.chs:=fun e he=>(hp.trans (hp2.cons _)).mem_iff.2 (by simp[he])
 cases hb:q.1 with
 | true =>
  rw[hb] at hs
  obtain rfl:=ae (show some _=some s' from hs)
  refine ⟨Nat.le_succ _,Same.rfl,fun e he _=>he,fun e he h' ver' c hs'=>?_⟩
  rcases az he with rfl | he
  ·obtain ⟨rfl,hs'⟩:=hs'
   rcases hs' with ⟨rfl,rfl⟩ | hs'
   ·exact .inr ⟨r.ent h,hp.mem_iff.2 (by simp),rfl,.inr ⟨rfl,rfl⟩⟩
   ·exact hs'.elim
  ·exact .inr ⟨e,hmem e he,hs'⟩
 | false =>
  rw[hb] at hs
  obtain rfl:=ae (show some _=some s' from hs)
  refine ⟨Nat.le_succ _,Same.rfl,fun e he _=>he,fun e he h' ver' c hs'=>?_⟩
  rcases az he with rfl | he
  ·obtain ⟨rfl,hs'⟩:=hs'
   rcases hs' with ⟨rfl,rfl⟩ | hs'
   ·exact .inl (aE _)
   ·exact hs'.elim
  ·exact .inr ⟨e,hmem e he,hs'⟩
theorem E3: ∀ {m:Nat} {h:Hdr} {s:Sg},Sim P I w0 F V.n J θ s a w->Fr s θ (settle m h s) θ
 | 0,_,_,hS=>Fr.rfl
 | m+1,h,s,hS=>by
  unfold settle
  split
  ·split
   ·split
    ·rename_i hs
     exact (E3 hS).trans (Ki hs (zh hS))
    ·exact Fr.rfl
   ·exact Fr.rfl
  ·exact Fr.rfl
theorem sy: ∀ {hs:List Hdr} {s:Sg},Sim P I w0 F V.n J θ s a w->Sim P I w0 F V.n J θ (vn hs s) a w/\Fr s θ (vn hs s) θ
 | [],s,hS=>⟨hS,Fr.rfl⟩
 | h::hs,s,hS=>by
  obtain ⟨k1,k2⟩:=sy (hs:=hs) (zh (m:=4) (h:=h) hS)
  exact ⟨k1,(E3 hS).trans k2⟩
theorem Up {t:Nat} {b:Bool} (hS:Sim P I w0 F V.n J θ s a w) (hv':(envL θ s).lookup t=some (.bool b)):Sim P I w0 F V.n J θ (GW s t b) a w/\Fr s θ (GW s t b) θ:=by
 refine ⟨⟨hS.le,hS.agr.sub fun u v h=>?_,hS.st,fun e he=>?_,fun e he=>?_,Eo (d:=some t) (av:=.one (.val (.bool b))) hS.fine.nd hS.fine.ver,fun e he=>fh Same.rfl (Nat.le_succ _) Newer.rfl (hS.fine.chs e he) Hp.le.rfl,hS.fine.lay⟩,Nat.le_succ _,Same.rfl,fun e he h=>?_,Newer.rfl⟩
 ·have h:List.lookup u ((t,Value.bool b)::envL θ s)=some v:=h
  rw[List.lookup_cons] at h
  by_cases e:u=t
  ·subst e
   simp at h
   rw[hv',h]
  ·rw[show (u==t)=false from by simpa using e] at h
   exact h
 ·rcases az he with rfl | he
  ·exact Eq.refl true
  ·exact AV.ok_same Same.rfl (Nat.le_succ _) Newer.rfl (hS.fine.env e he) Hp.le.rfl
 ·rcases az he with rfl | he
  ·exact ax _
  ·exact aV (hS.fine.ver e he)
 ·rcases az he with rfl | he
  ·exact absurd h (Nat.lt_irrefl _)
  ·exact he
theorem Qm {ops:Array Oper} {o:Oper} :match guardOf ops.toList s o with
  | .no=>o.guard=none
  | .skip=> ∃g want d,o.guard=some (g,want)/\(ops[g]?).bind (·.dst)=some d/\(envL θ s).lookup d=some undef
  | .yes t b neg want=> ∃g,o.guard=some (g,want)/\(ops[g]?).bind (·.dst)=some t/\(envL θ s).lookup t=some (.bool (if neg then !b else b))
  | .bad=>True:=by
 unfold guardOf
 cases hg:o.guard with
 | none=>exact rfl
 | some gw =>
  obtain ⟨g,want⟩:=gw
  simp only
  cases hp:ops.toList[g]? with
  | none=>trivial
  | some p =>
   simp only
   cases hd:p.dst with
   | none=>trivial
   | some t =>
    simp only
    have hd':(ops[g]?).bind (·.dst)=some t:=by
     rw[<-Array.getElem?_toList,hp];exact hd
    cases hl:look s.env t with
    | none=>trivial
    | some v =>
     have hv':=gu (θ:=θ) hl
     cases v with
     | one x =>
      cases x with
      | val u =>
       cases u with
       | bool b=>exact ⟨g,rfl,hd',hv'⟩
       | _=>trivial
      | nb b=>exact ⟨g,rfl,hd',hv'⟩
      | _=>trivial
     | und=>exact ⟨g,want,t,rfl,hd',hv'⟩
     | _=>trivial
theorem Dg {o:Oper} {r:Res} (hG:GoodA P w0 J θ s o r) (hS:Sim P I w0 F V.n J θ s a w) {θ':Th} (hs:Same s.nxt θ θ'):Fr s θ (after s o.dst r) θ' :=
 Fr.put hs (Res.newer hG.perm hG.says)
theorem Qn (hT:TTok P V.tt) (hF:FTok P V.ft) {ops:Array Oper} {rest:List Oper} {o:Oper} {kont:Sg->Option Y} (h:Ql V ops.toList kont o s=some res) (hS:Sim P I w0 F V.n J θ s a w)
  (K: ∀s' θ' a' w',kont s'=some res->Sim P I w0 F V.n J θ' s' a' w'->Fr s θ s' θ'->wpList P ops Q rest a' w'):wpList P ops Q (o::rest) a w:=by
 have hg:=Qm (θ:=θ) (s:=s) (ops:=ops) (o:=o)
 have run: ∀s1,Sim P I w0 F V.n J θ s1 a w->Fr s θ s1 θ->(∀g want,o.guard=some (g,want)-> ∃d,(ops[g]?).bind (·.dst)=some d/\(envL θ s1).lookup d=some (.bool want))->bR (okO V.n s1 o) (step V s1 (fun r=>kont (after s1 o.dst r)) o)=some res->wpList P ops Q (o::rest) a w:=by
  intro s1 hS1 hF1 hgd h
  obtain ⟨hk,h⟩:=aj h
  obtain ⟨r,hr,hG⟩:=Na hT hF h
  cases hgo:o.guard with
  | none=>exact RH (hG.at hS1.fine) hS1 hgo hk fun θ' a' w' hs hS'=>K _ θ' a' w' hr hS' (hF1.trans (Dg (hG.at hS1.fine) hS1 hs))
  | some gw =>
   obtain ⟨g,want⟩:=gw
   obtain ⟨d,hd,hv'⟩:=hgd g want hgo
   exact TA (hG.at hS1.fine) hS1 hgo hd hv' rfl hk fun θ' a' w' hs hS'=>K _ θ' a' w' hr hS' (hF1.trans (Dg (hG.at hS1.fine) hS1 hs))
 have skp: ∀s1,Sim P I w0 F V.n J θ s1 a w->Fr s θ s1 θ-> ∀g want d b,o.guard=some (g,want)->(ops[g]?).bind (·.dst)=some d->(envL θ s1).lookup d=some (.bool b)->b=(!want)->bR (dstOk V.n o.dst) (kont (skip s1 o.dst))=some res->wpList P ops Q (o::rest) a w:=by
  intro s1 hS1 hF1 g want d b hgo hd hv' hb h
  obtain ⟨hk,h⟩:=aj h
  exact Pi hS1 hgo hd hv' hb hk fun a' hS'=>K _ θ a' w h hS' (hF1.trans (Fr.put Same.rfl Newer.rfl))
 unfold Ql at h
 split at h
 ·cases h
 ·rename_i hgo
  rw[hgo] at hg
  obtain ⟨hk,h9⟩:=aj h
  clear h
  split at h9
  ·rename_i q hq
   obtain ⟨q1,q2,hG⟩:=P2 hT hq hS
   have:=GT h9 _ q1 q2
   exact RH hG hS (show o.guard=none from hg) hk fun θ' a' w' hs hS'=>K _ θ' a' w' this hS' (Fr.rfl.trans (Dg hG hS hs))
  ·refine run s hS Fr.rfl (fun g want e=>by rw[show o.guard=none from hg] at e;cases e) ?_
   rw[hk];exact h9
 ·rename_i hgo
  rw[hgo] at hg
  obtain ⟨g,want,d,h1,h2,h3⟩:=hg
  obtain ⟨hk,h⟩:=aj h
  exact JG hS h1 h2 h3 hk fun a' hS'=>K _ θ a' w h hS' (Fr.put Same.rfl Newer.rfl)
 ·rename_i t b neg want hgo
  rw[hgo] at hg
  obtain ⟨g,h1,h2,h3⟩:=hg
  have both: ∀c:Bool,(envL θ s).lookup t=some (.bool c)->(match c==want with
    | true=>bR (okO V.n (GW s t c) o) (step V (GW s t c) (fun r=>kont (after (GW s t c) o.dst r)) o)
    | false=>bR (dstOk V.n o.dst) (kont (skip (GW s t c) o.dst)))=some res->wpList P ops Q (o::rest) a w:=by
   intro c hc h
   obtain ⟨q1,q2⟩:=Up hS hc
   have hlk:(envL θ (GW s t c)).lookup t=some (.bool c):=by
    show List.lookup t ((t,Value.bool c)::envL θ s)=_
    rw[List.lookup_cons_self]
   split at h
   ·rename_i hcw
    have hcw:c=want:=by simpa using hcw
    exact run _ q1 q2 (fun g' want' e=>by
     rw[h1] at e
     obtain ⟨rfl,rfl⟩:g=g'/\want=want':=by simpa using e
     exact ⟨t,h2,by rw[hlk,hcw]⟩) h
   ·rename_i hcw
    have hcw:c≠want:=by simpa using hcw
    exact skp _ q1 q2 g want t c h1 h2 hlk (by cases c <;> cases want <;> simp_all) h
  cases b with
  | true =>
   refine both (!neg) ?_ (show _=some res from h)
   rw[h3];cases neg <;> rfl
  | false =>
   refine both neg ?_ (show _=some res from h)
   rw[h3];cases neg <;> rfl
theorem Uq {tr:Trs} {o:Oper} (hS:Sim P I w0 F V.n J θ s a w): ∃J' θ',J.le J'/\Sim P I w0 F V.n J' θ' (Xl tr o s) a w/\Fr s θ (Xl tr o s) θ':=by
 obtain ⟨θ1,S1,F1⟩:=yx hS
 obtain ⟨S2,F2⟩:=sy (hs:=B3 (qS s) o.op.operands.toList) S1
 obtain ⟨J2,hJ2,S3,F3⟩:=Qd (o:=o) S2
 show∃J' θ',J.le J'/\Sim P I w0 F V.n J' θ' (Qk tr o (Kg o (vn (B3 (qS s) o.op.operands.toList) (qS s)))) a w/\Fr s θ (Qk tr o (Kg o (vn (B3 (qS s) o.op.operands.toList) (qS s)))) θ'
 unfold Qk
 split
 ·exact ⟨J2,θ1,hJ2,S3,(F1.trans F2).trans F3⟩
 ·obtain ⟨J',θ',h1,h2,h3⟩:=tZ S3
  exact ⟨J',θ',hJ2.trans h1,h2,((F1.trans F2).trans F3).trans h3⟩
theorem E4 (hT:TTok P V.tt) (hF:FTok P V.ft) {ops:Array Oper} {k:Sg->Option Y} : ∀ {l:List Oper} {s:Sg} {J:Hp} {θ:Th} {a:Act} {w:World},EZ V ops.toList k l s=some res->Sim P I w0 F V.n J θ s a w->
  (∀s' J' θ' a' w',k s'=some res->Sim P I w0 F V.n J' θ' s' a' w'->J.le J'->Fr s θ s' θ'->Q .normal a' w')->wpList P ops Q l a w
 | [],s,J,θ,a,w,h,hS,K=>wpList_nil (K s J θ a w h hS Hp.le.rfl Fr.rfl)
 | o::os,s,J,θ,a,w,h,hS,K=>by
  obtain ⟨J1,θ1,q0,q1,q2⟩:=Uq (tr:=V.tr) (o:=o) hS
  exact Qn hT hF (show Ql V ops.toList (EZ V ops.toList k os) o (Xl V.tr o s)=some res from h) q1 fun s' θ' a' w' hk hS' hFr =>
   E4 hT hF hk hS' fun s2 J2 θ2 a2 w2 hk2 hS2 hJ2 hFr2=>K s2 J2 θ2 a2 w2 hk2 hS2 (q0.trans hJ2) ((q2.trans hFr).trans hFr2)
end
end R
namespace R
open Go.RowKit
open D
inductive Knd
 | num (k:IntKind) | boo | str
 | rd (E:TypeId) (t:Ty)
 | own (E:TypeId) (t:Ty)
 | map (d:MD)
 | tre (T E:TypeId) (t:Ty)
 | bx (T:TypeId) (k:IntKind)
def Knd.den:Knd->Type
 | .num _=>Int
 | .boo=>Bool
 | .str=>ByteArray
 | .rd _ t=>List t.den
 | .own _ t=>List t.den
 | .map d=>List (d.k.den×d.e.den)
 | .tre _ _ t=>Tr t.den
 | .bx _ _=>Int
def Wi {a b:MD} (h:a=b) (m:List (a.k.den×a.e.den)):List (b.k.den×b.e.den):=h ▸ m
def E5 (d:MD) (x:LV) (chs:List Ent):Option (List (d.k.den×d.e.den)×List Ent):=match x with
 | .own h=>(Xk h chs).bind fun r=>if h:MD.beq r.md d=true then some (Wi (MD.beq_eq h) r.m,r.rest) else none
 | _=>none
theorem E6 {d:MD} {x:LV} {chs:List Ent} {q:List (d.k.den×d.e.den)×List Ent} (h:E5 d x chs=some q): ∃hh ver,x= .own hh/\chs.Perm ((hh,ver,d.ck q.1)::q.2):=by
 unfold E5 at h
 split at h
 ·rename_i hh
  obtain ⟨r,hr,h⟩:=bind_some h
  have hp:=GV hr
  obtain ⟨ver,md,m,rest⟩:=r
  split at h
  ·rename_i he
   obtain rfl:=MD.beq_eq he
   obtain rfl:=ae h
   exact ⟨hh,ver,rfl,hp⟩
  ·cases h
 ·cases h
def IR (T:TypeId) (k:IntKind) (x:LV) (chs:List Ent):Option (Int×List Ent):=match x with
 | .ptr h off=>bR (Nat.beq off 0) ((qR h chs).bind fun b=>bR (Nat.beq b.T T) (match b.cells with
  | [c] =>(CP k c).bind fun d=>some (d,b.rest)
  | _=>none))
 | _=>none
theorem E7 {T:TypeId} {k:IntKind} {x:LV} {chs:List Ent} {q:Int×List Ent} (h:IR T k x chs=some q): ∃hh ver c,x= .ptr hh 0/\CP k c=some q.1/\chs.Perm ((hh,ver,.blk T [c])::q.2):=by
 cases x with
 | ptr hh off =>
  obtain ⟨h0,h⟩:=aj (show bR (Nat.beq off 0) _=some q from h)
  obtain rfl:=au h0
  obtain ⟨b,hb,h2⟩:=bind_some h
  obtain ⟨h1,h3⟩:=aj h2
  have hp:=jW hb
  clear h2 h hb
  obtain ⟨ver,T',cells,rest⟩:=b
  obtain rfl:T'=T:=au h1
  match cells,h3,hp with
  | [c],h,hp =>
   obtain ⟨d,hd,h4⟩:=bind_some (show (CP k c).bind _=some q from h)
   obtain rfl:=ae h4
   exact ⟨hh,ver,c,rfl,hd,hp⟩
  | [],h,_=>cases h
  | _::_::_,h,_=>cases h
 | _=>cases h
def R5:List Knd->Type
 | [] =>Unit
 | [k] =>k.den
 | k::l::ks=>k.den×R5 (l::ks)
def qu:List Knd->Type
 | [] =>Unit
 | k::ks=>k.den×qu ks
def toN:(ks:List Knd)->R5 ks->qu ks
 | [],_=>()
 | [_],d=>(d,())
 | _::l::ks,d=>(d.1,toN (l::ks) d.2)
def ofN:(ks:List Knd)->qu ks->R5 ks
 | [],_=>()
 | [_],d=>d.1
 | _::l::ks,d=>(d.1,ofN (l::ks) d.2)
theorem oL: ∀(ks:List Knd) (d:qu ks),toN ks (ofN ks d)=d
 | [],_=>rfl
 | [_],_=>rfl
 | _::l::ks,d=>congrArg (Prod.mk d.1) (oL (l::ks) d.2)
def R6 (k:Knd) (x:LV) (chs:List Ent):Option (k.den×List Ent):=match k with
 | .num k=>(CP k x).bind fun d=>some (d,chs)
 | .boo=>(BP x).bind fun d=>some (d,chs)
 | .str=>(JK x).bind fun d=>some (d,chs)
 | .rd E t=>(Po E t x).bind fun d=>some (d,chs)
 | .own E t=>(u7 E t x chs).bind fun q=>some (q.1,q.2.2)
 | .map d=>E5 d x chs
 | .tre T E t=>(Vq T E t x).bind fun d=>some (d,chs)
 | .bx T k=>IR T k x chs
def Xm (id:Nat):(k:Knd)->k.den->LV
 | .num k,d=>.val (.int k d)
 | .boo,d=>.val (.bool d)
 | .str,d=>.val (.string d)
 | .rd E t,d=>.rd ⟨id,[]⟩ (.sl E t) d
 | .own _ _,_=>.own ⟨id,[]⟩
 | .map _,_=>.own ⟨id,[]⟩
 | .tre T E t,d=>.rd ⟨id,[]⟩ (.tree T E t) d
 | .bx _ _,_=>.ptr ⟨id,[]⟩ 0
def Ur (id ver:Nat):(k:Knd)->k.den->List Ent
 | .own E t,d=>[(⟨id,[]⟩,ver,.own (.sl E t) d)]
 | .map md,d=>[(⟨id,[]⟩,ver,md.ck d)]
 | .bx T k,d=>[(⟨id,[]⟩,ver,.blk T [.val (.int k d)])]
 | _,_=>[]
def zB:(ks:List Knd)->List LV->List Ent->Option (qu ks×List Ent)
 | [],[],chs=>some ((),chs)
 | k::ks,x::xs,chs=>(R6 k x chs).bind fun q=>(zB ks xs q.2).bind fun r=>some ((q.1,r.1),r.2)
 | _,_,_=>none
def Dh (id:Nat):(ks:List Knd)->qu ks->List LV
 | [],_=>[]
 | k::ks,d=>Xm id k d.1::Dh (id+1) ks d.2
def Bf (id ver:Nat):(ks:List Knd)->qu ks->List Ent
 | [],_=>[]
 | k::ks,d=>Ur id ver k d.1++Bf (id+1) ver ks d.2
section
variable {P:Program} {w0 w:World} {J:Hp} {θ:Th} {n:Nat} {C:List Ch}
theorem St.bun {ls:List Ch} {α:Type} {R:Rep α} {cs:List Value} {x:α} (h:St J w0 w (ls++C)) (hb:Bun J ls R cs x):St J w0 w (Ch.own R cs x::C):=by
 obtain ⟨h1,h2,F,h3,h4,h5⟩:=h
 obtain ⟨G,K,rfl,e1,e2⟩:=h3.split
 exact ⟨h1,h2,G++K,⟨G,K,rfl,hb w G e1,e2⟩,h4,h5⟩
theorem Qo {α:Type} {R:Rep α} {u:Value} {x:α} (h:St J w0 w (Ch.own R [u] x::C)):u.oneCell'=true:=by
 obtain ⟨h1,h2,F,⟨G,K,rfl,k,e⟩,h4,h5⟩:=h
 exact R.own_one k u (by simp)
theorem Us {k:Knd} {x:LV} {chs:List Ent} {q:k.den×List Ent} (h:R6 k x chs=some q) (hx:x.ok P w0 J θ n) (hS:St J w0 w (chs.map (toCh P θ)++C)) {θ':Th} {id ver m:Nat} (hid:θ' id=x.v θ) (hm:id<m) :
  (Xm id k q.1).ok P w0 J θ' m/\(Xm id k q.1).v θ'=x.v θ/\St J w0 w ((Ur id ver k q.1).map (toCh P θ')++(q.2.map (toCh P θ)++C))/\ ∀e∈q.2,e∈chs:=by
 have hh:hv θ' ⟨id,[]⟩=x.v θ:=hid
 cases k with
 | num k =>
  obtain ⟨d,hd,h⟩:=bind_some (show (CP k x).bind _=some q from h)
  obtain rfl:=ae h
  exact ⟨Eq.refl true,(CQ hd θ).symm,hS,fun e he=>he⟩
 | boo =>
  obtain ⟨d,hd,h⟩:=bind_some (show (BP x).bind _=some q from h)
  obtain rfl:=ae h
  exact ⟨Eq.refl true,(Es hd θ).symm,hS,fun e he=>he⟩
 | str =>
  obtain ⟨d,hd,h⟩:=bind_some (show (JK x).bind _=some q from h)
  obtain rfl:=ae h
  exact ⟨Eq.refl true,(Ij hd θ).symm,hS,fun e he=>he⟩
 | rd E t =>
  obtain ⟨d,hd,h⟩:=bind_some (show (Po E t x).bind _=some q from h)
  obtain rfl:=ae h
  refine ⟨⟨hm,?_⟩,hh,hS,fun e he=>he⟩
  rw[hh];exact y6 hd hx
 | tre T E t =>
  obtain ⟨d,hd,h⟩:=bind_some (show (Vq T E t x).bind _=some q from h)
  obtain rfl:=ae h
  refine ⟨⟨hm,?_⟩,hh,hS,fun e he=>he⟩
  rw[hh];exact Gv hd hx
 | own E t =>
  obtain ⟨r,hr,h⟩:=bind_some (show (u7 E t x chs).bind _=some q from h)
  obtain rfl:=ae h
  obtain ⟨p,hb⟩:=za hr P J θ
  have h1:St J w0 w (Ch.own (Ty.sl E t).rep [x.v θ] r.1::(r.2.2.map (toCh P θ)++C)):=by
   refine St.bun ?_ hb
   have:=hS.perm ((p.map (toCh P θ)).append_right C)
   rwa [aM,ai] at this
  refine ⟨⟨hm,by rw[hh];exact Qo h1⟩,hh,?_,fun e he=>p.mem_iff.2 (by simp[he])⟩
  show St J w0 w (Ch.own _ [hv θ' ⟨id,[]⟩] _::_)
  rw[hh];exact h1
 | map d =>
  obtain ⟨h0,ver0,rfl,p⟩:=E6 (show E5 d x chs=some q from h)
  have h1:St J w0 w (toCh P θ (h0,ver0,d.ck q.1)::(q.2.map (toCh P θ)++C)):=by
   have:=hS.perm ((p.map (toCh P θ)).append_right C)
   exact this
  have e0:hv θ h0=LV.v θ (.own h0):=rfl
  have h2:St J w0 w (@Ch.mp P d.K d.E d.k.den d.e.den d.k.dec d.k.lit d.k.ok d.e.lit d.e.z (hv θ h0) (show List (d.k.den×d.e.den) from q.1)::(q.2.map (toCh P θ)++C)):=h1
  refine ⟨⟨hm,by rw[hh];exact hx.2⟩,hh,?_,fun e he=>p.mem_iff.2 (by simp[he])⟩
  show St J w0 w (@Ch.mp P d.K d.E d.k.den d.e.den d.k.dec d.k.lit d.k.ok d.e.lit d.e.z (hv θ' ⟨id,[]⟩) (show List (d.k.den×d.e.den) from q.1)::_)
  rw[hh];exact h2
 | bx T k =>
  obtain ⟨h0,ver0,c,rfl,hc,p⟩:=E7 (show IR T k x chs=some q from h)
  have h1:St J w0 w (Ch.blk (bk (hv θ h0)) [c.v θ] T::(q.2.map (toCh P θ)++C)):=hS.perm ((p.map (toCh P θ)).append_right C)
  have e0:bk (hv θ' ⟨id,[]⟩)=bk (hv θ h0):=by rw[hh];rfl
  refine ⟨hm,?_,?_,fun e he=>p.mem_iff.2 (by simp[he])⟩
  ·show Value.pointer (some ⟨bk (hv θ' ⟨id,[]⟩),0,none⟩)=_
   rw[e0];rfl
  ·show St J w0 w (Ch.blk (bk (hv θ' ⟨id,[]⟩)) [.int k _] T::_)
   rw[e0,<-CQ hc θ];exact h1
theorem yy: ∀ {ks:List Knd} {xs:List LV} {chs:List Ent} {q:qu ks×List Ent} {id ver:Nat} {C:List Ch},zB ks xs chs=some q->(∀x∈xs,x.ok P w0 J θ n)->St J w0 w (chs.map (toCh P θ)++C)-> ∀ {θ':Th} {m:Nat},(∀i x,xs[i]? =some x->θ' (id+i)=x.v θ)->id+ks.length<=m->
  (∀x∈Dh id ks q.1,x.ok P w0 J θ' m)/\(Dh id ks q.1).map (·.v θ')=xs.map (·.v θ)/\St J w0 w ((Bf id ver ks q.1).map (toCh P θ')++(q.2.map (toCh P θ)++C))/\ ∀e∈q.2,e∈chs
 | [],[],chs,q,id,ver,C,h,_,hS,θ',m,_,_=>by
  obtain rfl:=ae (show some _=some q from h)
  exact ⟨fun x hx=>(by cases hx),rfl,hS,fun e he=>he⟩
 | k::ks,x::xs,chs,q,id,ver,C,h,hx,hS,θ',m,hid,hm=>by
  obtain ⟨a,ha,h⟩:=bind_some (show (R6 k x chs).bind _=some q from h)
  obtain ⟨b,hb,h⟩:=bind_some h
  obtain rfl:=ae h
  have hm':id<m:=by rw[al] at hm;omega
  obtain ⟨a1,a2,a3,a4⟩:=Us (ver:=ver) ha (hx x (by simp)) hS (θ':=θ') (id:=id) (m:=m) (hid 0 x rfl) hm'
  obtain ⟨b1,b2,b3,b4⟩:=yy (id:=id+1) (ver:=ver) (C:=(Ur id ver k a.1).map (toCh P θ')++C) hb (fun y hy=>hx y (by simp[hy])) (a3.perm (List.perm_append_comm_assoc _ _ _)) (θ':=θ') (m:=m) (fun i y hy=>by
   have:=hid (i+1) y hy
   rwa [show id+(i+1)=id+1+i from by omega] at this) (by rw[al] at hm;omega)
  refine ⟨fun y hy=>?_,?_,?_,fun e he=>a4 e (b4 e he)⟩
  ·rcases az hy with rfl | hy
   ·exact a1
   ·exact b1 y hy
  ·show LV.v θ' _::(Dh (id+1) ks b.1).map _=_
   rw[a2,b2];rfl
  ·show St J w0 w ((Ur id ver k a.1++Bf (id+1) ver ks b.1).map _++_)
   rw[aM]
   refine b3.perm ?_
   have:=List.perm_append_comm_assoc ((Bf (id+1) ver ks b.1).map (toCh P θ')++b.2.map (toCh P θ)) ((Ur id ver k a.1).map (toCh P θ')) C
   rw[ai,ai] at this
   rw[ai]
   exact this
 | [],_::_,chs,q,id,ver,C,h,_,_,_,_,_,_=>by cases h
 | _::_,[],chs,q,id,ver,C,h,_,_,_,_,_,_=>by cases h
end
inductive It
 | slot (t:Nat) (k:Knd)
 | box (t:Nat) (ks:List Knd)
 | row (t:Nat) (E:TypeId) (u:Ty)
 | agg (t:Nat) (ks:List Knd)
 | par (i:Nat) (p:List Nat) (E:TypeId) (u:Ty)
 | gone (t:Nat)
 | cur (t:Nat)
 | pbx (i:Nat) (ks:List Knd)
def It.s (t:Nat):It:=.slot t (.num .i64)
inductive RIt
 | slot (t:Nat) (k:Knd)
 | box (h:Hdr) (T:TypeId) (ks:List Knd)
 | row (h:Hdr) (E:TypeId) (u:Ty)
 | agg (t:Nat) (k:Knd) (ks:List Knd)
 | cur (h:Hdr) (T:TypeId) (g:Hdr) (E:TypeId) (xs:List Int)
def RIt.ks:RIt->List Knd
 | .slot _ k=>[k]
 | .box _ _ ks=>ks
 | .row _ E u=>[.own E u]
 | .agg _ k ks=>k::ks
 | .cur _ _ _ _ _=>[.num .i64,.num .i64]
def qU:List RIt->List Knd
 | [] =>[]
 | r::rs=>r.ks++qU rs
def OV:Option AV->Option Hdr
 | some (.one (.ptr h off))=>if Nat.beq off 0 then some h else none
 | _=>none
def Wj:Option AV->Option Hdr
 | some (.one (.own h))=>some h
 | _=>none
theorem Ut {v:Option AV} {h:Hdr} (k:Wj v=some h):v=some (.one (.own h)):=by
 unfold Wj at k
 split at k
 ·rw[ae k]
 ·cases k
def Wk (h:Hdr) (chs:List Ent):Option (Hdr×TypeId×TypeId×List Int):=(pull h chs).bind fun r=>match r.1.2.2 with
 | .blk T [.rd g (.sl E (.int .u8)) xs,_,_] =>some (g,T,E,xs)
 | _=>none
theorem IS {h g:Hdr} {T E:TypeId} {xs:List Int} {chs:List Ent} (k:Wk h chs=some (g,T,E,xs)): ∃ver a b,(h,ver,Chk.blk T [.rd g (.sl E (.int .u8)) xs,a,b])∈chs:=by
 obtain ⟨r,hr,k2⟩:=bind_some k
 clear k
 obtain ⟨p,e⟩:=fa hr
 obtain ⟨⟨h',ver,c⟩,rest⟩:=r
 obtain rfl:h'=h:=e
 clear hr
 split at k2
 ·rename_i T' g' E' xs' a b hc
  obtain rfl:c=_:=hc
  obtain ⟨rfl,rfl,rfl,rfl⟩:=ae k2
  exact ⟨ver,a,b,p.mem_iff.2 (List.mem_cons_self ..)⟩
 ·cases k2
def resolve (s:Sg):It->Option RIt
 | .slot t k=>some (.slot t k)
 | .box t ks=>(OV (look s.env t)).bind fun h=>(qR h s.chs).bind fun b=>some (.box h b.T ks)
 | .row t E u=>(Wj (look s.env t)).bind fun h=>some (.row h E u)
 | .agg t ks=>match ks with
  | k::ks=>some (.agg t k ks)
  | [] =>none
 | .par i p E u=>bR (Nat.blt i s.nxt) (some (.row ⟨i,p⟩ E u))
 | .gone _=>none
 | .pbx i ks=>(qR ⟨i,[]⟩ s.chs).bind fun b=>some (.box ⟨i,[]⟩ b.T ks)
 | .cur t=>(OV (look s.env t)).bind fun h=>(Wk h s.chs).bind fun q=>some (.cur h q.2.1 q.1 q.2.2.1 q.2.2.2)
def yz (s:Sg):List It->Option (List RIt)
 | [] =>some []
 | i::is=>(resolve s i).bind fun r=>(yz s is).bind fun rs=>some (r::rs)
def oneOf:Option AV->Option LV
 | some (.one x)=>some x
 | _=>none
theorem Qp {v:Option AV} {x:LV} (h:oneOf v=some x):v=some (.one x):=by
 unfold oneOf at h
 split at h
 ·rw[ae h]
 ·cases h
def Nd:Option AV->Option (List LV)
 | some (.agg xs)=>some xs
 | _=>none
theorem Qq {v:Option AV} {x:List LV} (h:Nd v=some x):v=some (.agg x):=by
 unfold Nd at h
 split at h
 ·rw[ae h]
 ·cases h
def Qr (env:List (Nat×Nat×AV)) (chs:List Ent):(r:RIt)->Option (qu r.ks×List Ent)
 | .slot t k=>(oneOf (look env t)).bind fun x=>zB [k] [x] chs
 | .box h T ks=>(qR h chs).bind fun b=>bR (Nat.beq b.T T) (zB ks b.cells b.rest)
 | .row h E u=>zB [.own E u] [.own h] chs
 | .agg t k ks=>(Nd (look env t)).bind fun xs=>zB (k::ks) xs chs
 | .cur h T g E _=>(tX h T E chs).bind fun q=>bR (Hdr.beq q.g g) (some ((q.d.2.1,q.d.2.2,()),q.rest))
def Qs:(ks ls:List Knd)->qu ks->qu ls->qu (ks++ls)
 | [],_,_,e=>e
 | _::ks,ls,d,e=>(d.1,Qs ks ls d.2 e)
def R7:(ks ls:List Knd)->qu (ks++ls)->qu ks
 | [],_,_=>()
 | _::ks,ls,d=>(d.1,R7 ks ls d.2)
def Uu:(ks ls:List Knd)->qu (ks++ls)->qu ls
 | [],_,d=>d
 | _::ks,ls,d=>Uu ks ls d.2
theorem GX: ∀(ks ls:List Knd) (d:qu ks) (e:qu ls),R7 ks ls (Qs ks ls d e)=d
 | [],_,_,_=>rfl
 | _::ks,ls,d,e=>congrArg (Prod.mk d.1) (GX ks ls d.2 e)
theorem GY: ∀(ks ls:List Knd) (d:qu ks) (e:qu ls),Uu ks ls (Qs ks ls d e)=e
 | [],_,_,_=>rfl
 | _::ks,ls,d,e=>GY ks ls d.2 e
def Uv (env:List (Nat×Nat×AV)):(rs:List RIt)->List Ent->Option (qu (qU rs)×List Ent)
 | [],chs=>some ((),chs)
 | r::rs,chs=>(Qr env chs r).bind fun q=>(Uv env rs q.2).bind fun p=>some (Qs r.ks (qU rs) q.1 p.1,p.2)
def Vs (id:Nat):(r:RIt)->qu r.ks->List (Nat×Nat×AV)
 | .slot t k,d=>[(t,id,.one (Xm id k d.1))]
 | .agg t k ks,d=>[(t,id,.agg (Dh id (k::ks) d))]
 | _,_=>[]
def Vt (id ver:Nat):(r:RIt)->qu r.ks->List Ent
 | .slot _ k,d=>Bf id ver [k] d
 | .agg _ k ks,d=>Bf id ver (k::ks) d
 | .box h T ks,d=>(h,ver,.blk T (Dh id ks d))::Bf id ver ks d
 | .row h E u,d=>[(h,ver,.own (.sl E u) d.1)]
 | .cur h T g E xs,d=>[(h,ver,.blk T [.rd g (.sl E (.int .u8)) xs,.val (.int .i64 d.1),.val (.int .i64 d.2.1)])]
def Bg:(id:Nat)->(rs:List RIt)->qu (qU rs)->List (Nat×Nat×AV)
 | _,[],_=>[]
 | id,r::rs,d=>Vs id r (R7 r.ks (qU rs) d)++Bg (id+r.ks.length) rs (Uu r.ks (qU rs) d)
def wx (ver:Nat):(id:Nat)->(rs:List RIt)->qu (qU rs)->List Ent
 | _,[],_=>[]
 | id,r::rs,d=>Vt id ver r (R7 r.ks (qU rs) d)++wx ver (id+r.ks.length) rs (Uu r.ks (qU rs) d)
structure Cut where
 nxt:Nat
 its:List RIt
 env:List (Nat×Nat×AV)
 chs:List Ent
def Cut.top (c:Cut):Nat:=c.nxt+(qU c.its).length
def Cut.at (c:Cut) (d:qu (qU c.its)):Sg:=⟨Bg c.nxt c.its d++c.env,wx c.top c.nxt c.its d++c.chs,c.top+1⟩
def X3 (t:Nat):List Nat->Bool
 | [] =>false
 | u::l=>Nat.beq u t || X3 t l
def Kj (l:List (Nat×Nat×AV)) (t:Nat):Option Nat:=match l with
 | [] =>none
 | (u,k,_)::l=>if Nat.beq u t then some k else Kj l t
def yA (env:List (Nat×Nat×AV)):List (Nat×Nat×AV)->Bool
 | [] =>true
 | e::l=>(match Kj env e.1 with | some v=>Nat.beq v e.2.1 | none=>false)&&yA env l
def GZ:List Ent->List Ent->Option (List Ent)
 | [],chs=>some chs
 | e::l,chs=>(pull e.1 chs).bind fun r=>bR (Nat.beq r.1.2.1 e.2.1) (GZ l r.2)
def distinctH:List Ent->Bool
 | [] =>true
 | e::l=>Bd e.1 l&&distinctH l
def Wl:Option AV->List Hdr
 | some (.one (.ptr h _))=>[h]
 | _=>[]
def oM (s:Sg):List RIt->List Hdr
 | [] =>[]
 | .slot t (.bx _ _)::rs=>Wl (look s.env t)++oM s rs
 | .slot t _::rs=>(match look s.env t with | some v=>zA v | none=>[])++oM s rs
 | .box h _ _::rs=>(match qR h s.chs with | some b=>zA (.agg b.cells) | none=>[])++oM s rs
 | .row h _ _::rs=>h::oM s rs
 | .cur _ _ _ _ _::rs=>oM s rs
 | .agg t _ _::rs=>(match look s.env t with | some v=>zA v | none=>[])++oM s rs
def zC:List Ent->List Hdr
 | [] =>[]
 | (h,_,.own _ _)::l=>h::zC l
 | _::l=>zC l
def Cut.of (c:Cut) (s0:Sg):Option (qu (qU c.its)):=match vn (zC c.chs) (vn (oM s0 c.its) s0) with
 | s=>(Uv s.env c.its s.chs).bind fun q=>(GZ c.chs q.2).bind fun _=>bR (yA s.env c.env) (some q.1)
def RIt.hdrs:RIt->List Hdr
 | .slot _ _=>[]
 | .box h _ _=>[h]
 | .row h _ _=>[h]
 | .agg _ _ _=>[]
 | .cur h _ g _ _=>[h,g]
def hdrsR:List RIt->List Hdr
 | [] =>[]
 | r::rs=>r.hdrs++hdrsR rs
def E8:List (Nat×Nat×AV)->List Nat->List (Nat×Nat×AV)
 | [],_=>[]
 | e::l,seen=>match X3 e.1 seen with
  | true=>E8 l seen
  | false=>e::E8 l (e.1::seen)
theorem sA: ∀ {l:List (Nat×Nat×AV)} {seen:List Nat},(E8 l seen).Sublist l
 | [],_=>List.Sublist.refl _
 | e::l,seen=>by
  unfold E8
  split
  ·exact sA.cons _
  ·exact sA.cons_cons _
def Uw:List It->List It
 | [] =>[]
 | .gone _::is=>Uw is
 | i::is=>i::Uw is
def Ux (s:Sg):List It->List Hdr
 | [] =>[]
 | .gone t::is=>(match look s.env t with
  | some (.one (.ptr h _))=>match qR h s.chs with | some b=>zA (.agg b.cells) | none=>[]
  | some v=>zA v
  | none=>[])++Ux s is
 | _::is=>Ux s is
def zD (ks:List Nat) (is:List It) (s:Sg):Option Cut:=(yz s (Uw is)).bind fun rs=>bR (distinctH s.chs) (some ⟨s.nxt,rs,E8 (s.env.filter fun e=> !X3 e.1 ks) [],s.chs.filter fun e=> !YO e.1 (Ux s is++(oM s rs++hdrsR rs))⟩)
theorem Uy {P:Program} {w0:World} {J:Hp} {θ:Th} {m id ver:Nat} {chs:List Ent} {k:Knd} {d:k.den} (h1:id<m) (h2:ver<m): ∀e∈Ur id ver k d,okE P w0 J θ m chs e:=by
 cases k with
 | own E t=>intro e he;obtain rfl:=aq he;exact ⟨h1,h2,trivial⟩
 | map md=>intro e he;obtain rfl:=aq he;exact ⟨h1,h2,trivial⟩
 | bx T k=>intro e he;obtain rfl:=aq he;exact ⟨h1,h2,fun x hx=>by obtain rfl:=aq hx;exact Eq.refl true⟩
 | _=>intro e he;cases he
theorem yB {P:Program} {w0:World} {J:Hp} {θ:Th} {m ver:Nat} {chs:List Ent} (h2:ver<m): ∀ {ks:List Knd} {id:Nat} {d:qu ks},id+ks.length<=m-> ∀e∈Bf id ver ks d,okE P w0 J θ m chs e
 | [],_,_,_=>fun e he=>by cases he
 | k::ks,id,d,h1=>fun e he=>by
  rw[al] at h1
  rcases aD he with he | he
  ·exact Uy (by omega) h2 e he
  ·exact yB h2 (by omega) e he
section
variable {P:Program} {w0 w:World} {J:Hp} {θ:Th} {n:Nat} {C:List Ch}
def RitOk (P:Program) (w0:World) (J:Hp) (θ:Th) (n:Nat):RIt->Prop
 | .cur _ _ g E xs=>LV.ok P w0 J θ n (.rd g (.sl E (.int .u8)) xs)
 | _=>True
def YV (P:Program) (w0 w:World) (J:Hp) (θ:Th) (env:List (Nat×Nat×AV)) (chs:List Ent) (hs:List Hdr) (len:Nat) (rest:List Ent) (E:Nat->List (Nat×Nat×AV)) (N:Nat->Nat->List Ent):Prop:=
 ∃vals:List Value,vals.length=len/\ ∀(θ':Th) (id ver m:Nat),(∀i v,vals[i]? =some v->θ' (id+i)=v)->id+len<=m->ver<m->(∀h∈hs,hv θ' h=hv θ h/\h.id<m)-> ∀C,St J w0 w (chs.map (toCh P θ)++C)->
  (∀e∈E id,(∀chs',e.2.2.ok P w0 J θ' m chs')/\ ∃x,look env e.1=some x/\e.2.2.v θ'=x.v θ)/\(∀chs',∀e∈N id ver,okE P w0 J θ' m chs' e)/\St J w0 w ((N id ver).map (toCh P θ')++(rest.map (toCh P θ)++C))
theorem Qt {env:List (Nat×Nat×AV)} {chs chs0:List Ent} {r:RIt} {q:qu r.ks×List Ent} (h:Qr env chs r=some q) (henv: ∀e∈env,e.2.2.ok P w0 J θ n chs0) (hchs: ∀e∈chs,okE P w0 J θ n chs0 e) {n1:Nat} (hrit:RitOk P w0 J θ n1 r) :
  YV P w0 w J θ env chs r.hdrs r.ks.length q.2 (fun id=>Vs id r q.1) (fun id ver=>Vt id ver r q.1):=by
 cases r with
 | slot t k =>
  obtain ⟨x,hx,h⟩:=bind_some (show (oneOf (look env t)).bind _=some q from h)
  have hx:=Qp hx
  ·have hxo:x.ok P w0 J θ n:=by
    obtain ⟨e,he,h1⟩:=so hx
    have:=henv e he
    rw[h1] at this
    exact this
   refine ⟨[x.v θ],rfl,fun θ' id ver m hid hm hv' hh C hS=>?_⟩
   obtain ⟨k1,k2,k3,k4⟩:=yy (ver:=ver) (C:=C) (id:=id) (θ':=θ') (m:=m) h (fun y hy=>by obtain rfl:=aq hy;exact hxo) hS (fun i y hy=>by
    cases i with
    | zero=>simp at hy;rw[<-hy];exact hid 0 _ rfl
    | succ i=>simp at hy) hm
   refine ⟨fun e he=>?_,fun chs'=>yB hv' hm,k3⟩
   obtain rfl:=aq he
   exact ⟨fun chs'=>k1 _ (by simp[Dh]),_,hx,(List.cons.inj (show _::_=_::_ from k2)).1⟩
 | box hh T ks =>
  obtain ⟨b,hb,h⟩:=bind_some (show (qR hh chs).bind _=some q from h)
  obtain ⟨hT,h⟩:=aj h
  have hT:=au hT
  have hp:=jW hb
  have hbk:=hchs (b.ent hh) (hp.mem_iff.2 (by simp))
  have hlen: ∀ {ks:List Knd} {xs:List LV} {chs:List Ent} {q:qu ks×List Ent},zB ks xs chs=some q->xs.length=ks.length:=by
   intro ks
   induction ks with
   | nil=>intro xs chs q h;cases xs with
    | nil=>rfl
    | cons _ _=>cases h
   | cons k ks ih=>intro xs chs q h;cases xs with
    | nil=>cases h
    | cons x xs =>
     obtain ⟨a,ha,h⟩:=bind_some (show (R6 k x chs).bind _=some q from h)
     obtain ⟨c,hc,h⟩:=bind_some h
     rw[al,al,ih hc]
  have hl:=hlen h
  have hvl:(b.cells.map (·.v θ)).length=ks.length:=by rw[List.length_map];exact hl
  have hget: ∀ {θ':Th} {id:Nat},(∀i v,(b.cells.map (·.v θ))[i]? =some v->θ' (id+i)=v)-> ∀i x,b.cells[i]? =some x->θ' (id+i)=x.v θ:=fun hid i x hx=>hid i _ (by rw[List.getElem?_map,hx];rfl)
  refine ⟨b.cells.map (·.v θ),hvl,fun θ' id ver m hid hm hv' hh' C hS=>?_⟩
  ·have hS':St J w0 w (b.rest.map (toCh P θ)++(Ch.blk (bk (hv θ hh)) (b.cells.map (·.v θ)) b.T::C)):=by
    refine (hS.perm ((hp.map (toCh P θ)).append_right C)).perm ?_
    exact (List.perm_middle (l₁:=b.rest.map (toCh P θ)) (l₂:=C)).symm
   obtain ⟨k1,k2,k3,k4⟩:=yy (ver:=ver) (id:=id) (θ':=θ') (m:=m) h hbk.2.2 hS' (hget hid) hm
   obtain ⟨g1,g2⟩:=hh' hh (by simp[RIt.hdrs])
   refine ⟨fun e he=>(by cases he),fun chs' e he=>?_,?_⟩
   ·rcases az he with rfl | he
    ·exact ⟨g2,hv',k1⟩
    ·exact yB hv' hm e he
   ·show St J w0 w (Ch.blk (bk (hv θ' hh)) ((Dh id ks q.1).map (·.v θ')) T::((Bf id ver ks q.1).map (toCh P θ')++(q.2.map (toCh P θ)++C)))
    rw[g1,k2,<-hT]
    refine k3.perm ?_
    rw[<-ai,<-ai]
    exact List.perm_middle
 | agg t k ks =>
  obtain ⟨xs,hx,h⟩:=bind_some (show (Nd (look env t)).bind _=some q from h)
  have hx:=Qq hx
  have hxo: ∀x∈xs,x.ok P w0 J θ n:=by
   obtain ⟨e,he,h1⟩:=so hx
   have:=henv e he
   rw[h1] at this
   exact this
  have hlen: ∀ {ks:List Knd} {xs:List LV} {chs:List Ent} {q:qu ks×List Ent},zB ks xs chs=some q->xs.length=ks.length:=by
   intro ks
   induction ks with
   | nil=>intro xs chs q h;cases xs with
    | nil=>rfl
    | cons _ _=>cases h
   | cons k ks ih=>intro xs chs q h;cases xs with
    | nil=>cases h
    | cons x xs =>
     obtain ⟨a,ha,h⟩:=bind_some (show (R6 k x chs).bind _=some q from h)
     obtain ⟨c,hc,h⟩:=bind_some h
     rw[al,al,ih hc]
  refine ⟨xs.map (·.v θ),by rw[List.length_map];exact hlen h,fun θ' id ver m hid hm hv' hh C hS=>?_⟩
  obtain ⟨k1,k2,k3,k4⟩:=yy (ver:=ver) (C:=C) (id:=id) (θ':=θ') (m:=m) h hxo hS (fun i y hy=>hid i _ (by rw[List.getElem?_map,hy];rfl)) hm
  refine ⟨fun e he=>?_,fun chs'=>yB hv' hm,k3⟩
  obtain rfl:=aq he
  refine ⟨fun chs'=>k1,_,hx,?_⟩
  show Value.agg ((Dh id (k::ks) q.1).map (·.v θ')).toArray=Value.agg (xs.map (·.v θ)).toArray
  rw[k2]
 | row hh E u =>
  have h:zB [.own E u] [.own hh] chs=some q:=h
  obtain ⟨a,ha,h⟩:=bind_some (show (R6 (.own E u) (.own hh) chs).bind _=some q from h)
  obtain ⟨c,hc,h⟩:=bind_some h
  obtain rfl:=ae (show some ((),a.2)=some c from hc)
  obtain rfl:=ae h
  obtain ⟨r,hr,ha⟩:=bind_some (show (u7 E u (.own hh) chs).bind _=some a from ha)
  obtain rfl:=ae ha
  obtain ⟨p,hb⟩:=za hr P J θ
  refine ⟨[hv θ hh],rfl,fun θ' id ver m hid hm hv' hh' C hS=>?_⟩
  have h1:St J w0 w (Ch.own (Ty.sl E u).rep [hv θ hh] r.1::(r.2.2.map (toCh P θ)++C)):=by
   refine St.bun ?_ hb
   have:=hS.perm ((p.map (toCh P θ)).append_right C)
   rwa [aM,ai] at this
  refine ⟨fun e he=>(by cases he),fun chs' e he=>?_,?_⟩
  ·obtain rfl:=aq he
   exact ⟨(hh' hh (by simp[RIt.hdrs])).2,hv',trivial⟩
  ·show St J w0 w (Ch.own _ [hv θ' hh] _::_)
   rw[(hh' hh (by simp[RIt.hdrs])).1];exact h1
 | cur hh T g E xs =>
  obtain ⟨b,hb,h⟩:=bind_some (show (tX hh T E chs).bind _=some q from h)
  obtain ⟨hg,h⟩:=aj h
  obtain rfl:=ae h
  have hg:=Hdr.beq_eq hg
  obtain ⟨p,ver0,he⟩:=mP hb
  refine ⟨[.int .i64 b.d.2.1,.int .i64 b.d.2.2],rfl,fun θ' id ver m hid hm hv' hh' C hS=>?_⟩
  obtain ⟨g1,g2⟩:=hh' hh (by simp[RIt.hdrs])
  obtain ⟨g3,g4⟩:=hh' g (by simp[RIt.hdrs])
  refine ⟨fun e he=>(by cases he),fun chs' e he=>?_,?_⟩
  ·obtain rfl:=aq he
   refine ⟨g2,hv',fun z hz=>?_⟩
   rcases az hz with rfl | hz
   ·exact ⟨g4,by rw[g3];exact hrit.2⟩
   ·rcases az hz with rfl | hz
    ·exact Eq.refl true
    ·obtain rfl:=aq hz
     exact Eq.refl true
  ·show St J w0 w (Ch.blk (bk (hv θ' hh)) [hv θ' g,.int .i64 b.d.2.1,.int .i64 b.d.2.2] T::(b.rest.map (toCh P θ)++C))
   have h1:=hS.perm ((p.map (toCh P θ)).append_right C)
   rw[List.map_cons,he] at h1
   rw[g1,g3,<-hg]
   exact h1
theorem Qu {k:Knd} {x:LV} {chs:List Ent} {q:k.den×List Ent} (h:R6 k x chs=some q): ∀e∈q.2,e∈chs:=by
 cases k with
 | num k=>obtain ⟨d,hd,h⟩:=bind_some (show (CP k x).bind _=some q from h);obtain rfl:=ae h;exact fun e he=>he
 | boo=>obtain ⟨d,hd,h⟩:=bind_some (show (BP x).bind _=some q from h);obtain rfl:=ae h;exact fun e he=>he
 | str=>obtain ⟨d,hd,h⟩:=bind_some (show (JK x).bind _=some q from h);obtain rfl:=ae h;exact fun e he=>he
 | rd E t=>obtain ⟨d,hd,h⟩:=bind_some (show (Po E t x).bind _=some q from h);obtain rfl:=ae h;exact fun e he=>he
 | own E t =>
  obtain ⟨r,hr,h⟩:=bind_some (show (u7 E t x chs).bind _=some q from h)
  obtain rfl:=ae h
  exact fun e he=>(zb hr).mem_iff.2 (by simp[he])
 | tre T E t=>obtain ⟨d,hd,h⟩:=bind_some (show (Vq T E t x).bind _=some q from h);obtain rfl:=ae h;exact fun e he=>he
 | map d =>
  obtain ⟨h0,ver0,-,p⟩:=E6 (show E5 d x chs=some q from h)
  exact fun e he=>p.mem_iff.2 (by simp[he])
 | bx T k =>
  obtain ⟨h0,ver0,c,-,-,p⟩:=E7 (show IR T k x chs=some q from h)
  exact fun e he=>p.mem_iff.2 (by simp[he])
theorem rl: ∀ {ks:List Knd} {xs:List LV} {chs:List Ent} {q:qu ks×List Ent},zB ks xs chs=some q-> ∀e∈q.2,e∈chs
 | [],[],chs,q,h=>by obtain rfl:=ae (show some _=some q from h);exact fun e he=>he
 | k::ks,x::xs,chs,q,h=>by
  obtain ⟨a,ha,h⟩:=bind_some (show (R6 k x chs).bind _=some q from h)
  obtain ⟨b,hb,h⟩:=bind_some h
  obtain rfl:=ae h
  exact fun e he=>Qu ha e (rl hb e he)
 | [],_::_,chs,q,h=>by cases h
 | _::_,[],chs,q,h=>by cases h
theorem Nf {env:List (Nat×Nat×AV)} {chs:List Ent} {r:RIt} {q:qu r.ks×List Ent} (h:Qr env chs r=some q): ∀e∈q.2,e∈chs:=by
 cases r with
 | slot t k =>
  obtain ⟨x,hx,h⟩:=bind_some (show (oneOf (look env t)).bind _=some q from h)
  exact rl h
 | box hh T ks =>
  obtain ⟨b,hb,h⟩:=bind_some (show (qR hh chs).bind _=some q from h)
  obtain ⟨hT,h⟩:=aj h
  exact fun e he=>(jW hb).mem_iff.2 (bh _ (rl h e he))
 | row hh E u=>exact rl (show zB [.own E u] [.own hh] chs=some q from h)
 | cur hh T g E xs =>
  obtain ⟨b,hb,h⟩:=bind_some (show (tX hh T E chs).bind _=some q from h)
  obtain ⟨hg,h⟩:=aj h
  obtain rfl:=ae h
  exact fun e he=>(mP hb).1.mem_iff.2 (bh _ he)
 | agg t k ks =>
  obtain ⟨x,hx,h⟩:=bind_some (show (Nd (look env t)).bind _=some q from h)
  exact rl h
theorem IT {env:List (Nat×Nat×AV)} {chs0:List Ent} {n1:Nat} (henv: ∀e∈env,e.2.2.ok P w0 J θ n chs0): ∀ {rs:List RIt} {chs:List Ent} {q:qu (qU rs)×List Ent},Uv env rs chs=some q->(∀e∈chs,okE P w0 J θ n chs0 e)->(∀r∈rs,RitOk P w0 J θ n1 r)->
  (∀e∈q.2,e∈chs)/\YV P w0 w J θ env chs (hdrsR rs) (qU rs).length q.2 (fun id=>Bg id rs q.1) (fun id ver=>wx ver id rs q.1)
 | [],chs,q,h,_,_=>by
  obtain rfl:=ae (show some _=some q from h)
  exact ⟨fun e he=>he,[],rfl,fun θ' id ver m _ _ _ _ C hS=>⟨fun e he=>(by cases he),fun chs' e he=>(by cases he),hS⟩⟩
 | r::rs,chs,q,h,hchs,hrit=>by
  obtain ⟨a,ha,h⟩:=bind_some (show (Qr env chs r).bind _=some q from h)
  obtain ⟨b,hb,h⟩:=bind_some h
  obtain rfl:=ae h
  have hsub:=Nf ha
  obtain ⟨v1,l1,k1⟩:=Qt (w:=w) ha henv hchs (hrit r (by simp))
  obtain ⟨s2,v2,l2,k2⟩:=IT henv hb (fun e he=>hchs e (hsub e he)) fun x hx=>hrit x (by simp[hx])
  refine ⟨fun e he=>hsub e (s2 e he),v1++v2,by rw[aw,l1,l2];exact (aw ..).symm,fun θ' id ver m hid hm hv' hh C hS=>?_⟩
  have hm:id+(r.ks.length+(qU rs).length)<=m:=by
   have:(qU (r::rs)).length=r.ks.length+(qU rs).length:=aw ..
   rw[this] at hm;exact hm
  obtain ⟨a1,a2,a3⟩:=k1 θ' id ver m (fun i v hi=>hid i v (by rw[List.getElem?_append_left (List.getElem?_eq_some_iff.1 hi).1];exact hi)) (by omega) hv' (fun x hx=>hh x (aU _ hx)) C hS
  obtain ⟨b1,b2,b3⟩:=k2 θ' (id+r.ks.length) ver m (fun i v hi=>by
   have:=hid (r.ks.length+i) v (by rw[List.getElem?_append_right (by omega),l1,Nat.add_sub_cancel_left];exact hi)
   rwa [<-Nat.add_assoc] at this) (by omega) hv' (fun x hx=>hh x (aX _ hx)) ((Vt id ver r a.1).map (toCh P θ')++C) (a3.perm (List.perm_append_comm_assoc _ _ _))
  have e1:Bg id (r::rs) (Qs r.ks (qU rs) a.1 b.1)=Vs id r a.1++Bg (id+r.ks.length) rs b.1:=by
   show Vs id r (R7 _ _ _)++Bg _ rs (Uu _ _ _)=_
   rw[GX,GY]
  have e2:wx ver id (r::rs) (Qs r.ks (qU rs) a.1 b.1)=Vt id ver r a.1++wx ver (id+r.ks.length) rs b.1:=by
   show Vt id ver r (R7 _ _ _)++wx ver _ rs (Uu _ _ _)=_
   rw[GX,GY]
  show (∀e∈Bg id (r::rs) (Qs r.ks (qU rs) a.1 b.1),_)/\(∀chs',∀e∈wx ver id (r::rs) (Qs r.ks (qU rs) a.1 b.1),_)/\St J w0 w ((wx ver id (r::rs) (Qs r.ks (qU rs) a.1 b.1)).map _++_)
  rw[e1,e2]
  refine ⟨fun e he=>?_,fun chs' e he=>?_,?_⟩
  ·rcases aD he with he | he
   ·exact a1 e he
   ·exact b1 e he
  ·rcases aD he with he | he
   ·exact a2 chs' e he
   ·exact b2 chs' e he
  ·rw[aM]
   refine b3.perm ?_
   have:=List.perm_append_comm_assoc ((wx ver (id+r.ks.length) rs b.1).map (toCh P θ')++b.2.map (toCh P θ)) ((Vt id ver r a.1).map (toCh P θ')) C
   rw[ai,ai] at this
   rw[ai]
   exact this
end
end R
namespace R
open Go.RowKit
open D
def G5:Chk->Prop
 | .hole _ _ _ _ _ _ _ _ _ _=>False
 | _=>True
theorem Qv {id ver:Nat} {k:Knd} {d:k.den} : ∀e∈Ur id ver k d,e.2.1=ver/\G5 e.2.2:=by
 cases k with
 | own E t=>intro e he;obtain rfl:=aq he;exact ⟨rfl,trivial⟩
 | map md=>intro e he;obtain rfl:=aq he;exact ⟨rfl,trivial⟩
 | bx T k=>intro e he;obtain rfl:=aq he;exact ⟨rfl,trivial⟩
 | _=>intro e he;cases he
theorem vo {ver:Nat} : ∀ {ks:List Knd} {id:Nat} {d:qu ks},∀e∈Bf id ver ks d,e.2.1=ver/\G5 e.2.2
 | [],_,_=>fun e he=>by cases he
 | k::ks,id,d=>fun e he=>by
  rcases aD he with he | he
  ·exact Qv e he
  ·exact vo e he
theorem E9 {ver:Nat} : ∀ {rs:List RIt} {id:Nat} {d:qu (qU rs)},∀e∈wx ver id rs d,e.2.1=ver/\G5 e.2.2
 | [],_,_=>fun e he=>by cases he
 | r::rs,id,d=>fun e he=>by
  rcases aD he with he | he
  ·cases r with
   | slot t k=>exact vo e he
   | box h T ks =>
    rcases az he with rfl | he
    ·exact ⟨rfl,trivial⟩
    ·exact vo e he
   | row h E u=>obtain rfl:=aq he;exact ⟨rfl,trivial⟩
   | agg t k ks=>exact vo e he
   | cur h T g E xs=>obtain rfl:=aq he;exact ⟨rfl,trivial⟩
  ·exact E9 e he
theorem Fa: ∀ {rs:List RIt} {id:Nat} {d:qu (qU rs)},(∀e∈Bg id rs d,id<=e.2.1/\e.2.1<id+(qU rs).length)/\(Bg id rs d).Pairwise fun a b=>a.2.1≠b.2.1
 | [],_,_=>⟨fun e he=>(by cases he),List.Pairwise.nil⟩
 | r::rs,id,d=>by
  have hl:(qU (r::rs)).length=r.ks.length+(qU rs).length:=aw ..
  obtain ⟨k1,k2⟩:=Fa (rs:=rs) (id:=id+r.ks.length) (d:=Uu r.ks (qU rs) d)
  have hE: ∀e∈Vs id r (R7 r.ks (qU rs) d),e.2.1=id/\0<r.ks.length:=fun e he=>by
   cases r with
   | slot t k=>obtain rfl:=aq he;exact ⟨rfl,Nat.one_pos⟩
   | agg t k ks=>obtain rfl:=aq he;exact ⟨rfl,Nat.succ_pos _⟩
   | box _ _ _=>cases he
   | row _ _ _=>cases he
   | cur _ _ _ _ _=>cases he
  have hP:(Vs id r (R7 r.ks (qU rs) d)).Pairwise fun a b=>a.2.1≠b.2.1:=by
   cases r with
   | slot t k=>exact List.pairwise_singleton _ _
   | agg t k ks=>exact List.pairwise_singleton _ _
   | box _ _ _=>exact List.Pairwise.nil
   | row _ _ _=>exact List.Pairwise.nil
   | cur _ _ _ _ _=>exact List.Pairwise.nil
  refine ⟨fun e he=>?_,List.pairwise_append.2 ⟨hP,k2,fun a ha b hb=>?_⟩⟩
  ·rw[hl]
   rcases aD he with he | he
   ·have:=hE e he;omega
   ·have:=k1 e he;omega
  ·have:=hE a ha;have:=k1 b hb;omega
theorem IU {t v:Nat} : ∀ {l:List (Nat×Nat×AV)},Kj l t=some v-> ∃x,look l t=some x/\(t,v,x)∈l
 | (u,k,x)::l,h=>by
  unfold Kj at h
  split at h
  ·rename_i hu
   have:u=t:=au hu
   subst this
   obtain rfl:=ae h
   refine ⟨x,?_,by simp⟩
   unfold look
   rw[if_pos (Nat.beq_refl u)]
  ·rename_i hu
   obtain ⟨y,h1,h2⟩:=IU h
   refine ⟨y,?_,by simp[h2]⟩
   unfold look
   rw[if_neg hu];exact h1
theorem zE {env:List (Nat×Nat×AV)} : ∀ {l:List (Nat×Nat×AV)},yA env l=true-> ∀e∈l,Kj env e.1=some e.2.1
 | e::l,h,x,hx=>by
  have h:((match Kj env e.1 with | some v=>Nat.beq v e.2.1 | none=>false)&&yA env l)=true:=h
  rw[ak] at h
  rcases az hx with rfl | hx
  ·have h1:=h.1
   split at h1
   ·rename_i v hv
    rw[hv,au h1]
   ·cases h1
  ·exact zE h.2 x hx
theorem B4: ∀ {l chs rest:List Ent},GZ l chs=some rest->(∀e∈l,∀e'∈chs,e'.1=e.1->e'.2.1=e.2.1->e'=e)->chs.Perm (l++rest)
 | [],chs,rest,h,_=>by obtain rfl:=ae (show some _=some rest from h);exact List.Perm.refl _
 | e::l,chs,rest,h,k=>by
  obtain ⟨r,hr,h⟩:=bind_some (show (pull e.1 chs).bind _=some rest from h)
  obtain ⟨hv,h⟩:=aj h
  obtain ⟨p,he⟩:=fa hr
  have hre:r.1=e:=k e (by simp) r.1 (p.mem_iff.2 (by simp)) he (au hv)
  rw[hre] at p
  exact p.trans ((B4 h fun x hx x' hx'=>k x (by simp[hx]) x' (p.mem_iff.2 (by simp[hx']))).cons e)
theorem xk: ∀ {l:List Ent},distinctH l=true-> ∀a∈l,∀b∈l,a.1=b.1->a=b
 | e::l,h,a,ha,b,hb,hab=>by
  have h:(Bd e.1 l&&distinctH l)=true:=h
  rw[ak] at h
  rcases az ha with h1 | h1
  ·rcases az hb with h2 | h2
   ·rw[h1,h2]
   ·rw[h1] at hab;exact absurd hab.symm (oc h.1 h2)
  ·rcases az hb with h2 | h2
   ·rw[h2] at hab;exact absurd hab (oc h.1 h1)
   ·exact xk h.2 a h1 b h2 hab
theorem Ng {l:List (Nat×Nat×AV)} (h:l.Pairwise fun a b=>a.2.1≠b.2.1): ∀a∈l,∀b∈l,a.2.1=b.2.1->a=b:=by
 induction l with
 | nil=>intro a ha;cases ha
 | cons e l ih =>
  intro a ha b hb hab
  obtain ⟨h1,h2⟩:=List.pairwise_cons.1 h
  rcases az ha with k1 | k1
  ·rcases az hb with k2 | k2
   ·rw[k1,k2]
   ·rw[k1] at hab;exact absurd hab (h1 b k2)
  ·rcases az hb with k2 | k2
   ·rw[k2] at hab;exact absurd hab.symm (h1 a k1)
   ·exact ih h2 a k1 b k2 hab
structure CutOk (P:Program) (w0:World) (c:Cut) (s:Sg) (J0:Hp) (θ0:Th):Prop where
 nxt:c.nxt=s.nxt
 env: ∀e∈c.env,e∈s.env
 nd:c.env.Pairwise fun a b=>a.2.1≠b.2.1
 chs: ∀e∈c.chs,e∈s.chs
 dist:distinctH s.chs=true
 hdr: ∀h∈hdrsR c.its,h.id<s.nxt
 fine:Fine P w0 J0 θ0 s
 rit: ∀r∈c.its,RitOk P w0 J0 θ0 s.nxt r
section
variable {V:Env} {P:Program} {I:Hp} {w0 w:World} {F:Ch} {J J0:Hp} {θ θ0:Th} {s s':Sg} {a:Act} {c:Cut}
theorem vp {ks:List Nat} {is:List It} (h:zD ks is s=some c) (hf:Fine P w0 J θ s):CutOk P w0 c s J θ:=by
 obtain ⟨rs,hrs,h⟩:=bind_some h
 obtain ⟨hd,h⟩:=aj h
 obtain rfl:=ae h
 have hres: ∀ {is:List It} {rs:List RIt},yz s is=some rs-> ∀h∈hdrsR rs,h.id<s.nxt:=by
  intro is
  induction is with
  | nil=>intro rs h x hx;obtain rfl:=ae (show some _=some rs from h);cases hx
  | cons i is ih =>
   intro rs h x hx
   obtain ⟨r,hr,h⟩:=bind_some (show (resolve s i).bind _=some rs from h)
   obtain ⟨rs',hrs',h⟩:=bind_some h
   obtain rfl:=ae h
   rcases aD hx with hx | hx
   ·cases i with
    | slot t k=>obtain rfl:=ae (show some _=some r from hr);cases hx
    | gone t=>cases hr
    | cur t =>
     obtain ⟨h0,h1,hr⟩:=bind_some (show (OV (look s.env t)).bind _=some r from hr)
     obtain ⟨⟨g,T,E,xs⟩,hb,hr⟩:=bind_some hr
     obtain rfl:=ae hr
     obtain ⟨ver,a,b,hm⟩:=IS hb
     have hok:=hf.chs _ hm
     rcases az hx with rfl | hx
     ·exact hok.1
     ·obtain rfl:=aq hx
      exact (show LV.ok P w0 J θ s.nxt (.rd _ (.sl E (.int .u8)) xs) from hok.2.2 _ (by simp)).1
    | agg t ks =>
     cases ks with
     | nil=>cases hr
     | cons k ks=>obtain rfl:=ae (show some _=some r from hr);cases hx
    | par i p E u =>
     obtain ⟨hi,hr⟩:=aj (show bR (Nat.blt i s.nxt) _=some r from hr)
     obtain rfl:=ae hr
     obtain rfl:=aq hx
     rw[Nat.blt_eq] at hi
     exact hi
    | box t ks =>
     obtain ⟨h0,h1,hr⟩:=bind_some (show (OV (look s.env t)).bind _=some r from hr)
     obtain ⟨b,hb,hr⟩:=bind_some hr
     obtain rfl:=ae hr
     obtain rfl:=aq hx
     exact (hf.chs _ ((jW hb).mem_iff.2 (List.mem_cons_self ..))).1
    | pbx i ks =>
     obtain ⟨b,hb,hr⟩:=bind_some (show (qR ⟨i,[]⟩ s.chs).bind _=some r from hr)
     obtain rfl:=ae hr
     obtain rfl:=aq hx
     exact (hf.chs _ ((jW hb).mem_iff.2 (List.mem_cons_self ..))).1
    | row t E u =>
     obtain ⟨h0,h1,hr⟩:=bind_some (show (Wj (look s.env t)).bind _=some r from hr)
     obtain rfl:=ae hr
     obtain rfl:=aq hx
     obtain ⟨e,he,h2⟩:=so (Ut h1)
     have:=hf.env e he
     rw[h2] at this
     exact this.1
   ·exact ih hrs' x hx
 have hrit: ∀ {is:List It} {rs:List RIt},yz s is=some rs-> ∀r∈rs,RitOk P w0 J θ s.nxt r:=by
  intro is
  induction is with
  | nil=>intro rs h x hx;obtain rfl:=ae (show some _=some rs from h);cases hx
  | cons i is ih =>
   intro rs h x hx
   obtain ⟨r,hr,h⟩:=bind_some (show (resolve s i).bind _=some rs from h)
   obtain ⟨rs',hrs',h⟩:=bind_some h
   obtain rfl:=ae h
   rcases az hx with rfl | hx
   ·cases i with
    | slot t k=>obtain rfl:=ae (show some _=some x from hr);trivial
    | gone t=>cases hr
    | agg t ks =>
     cases ks with
     | nil=>cases hr
     | cons k ks=>obtain rfl:=ae (show some _=some x from hr);trivial
    | par i p E u =>
     obtain ⟨hi,hr⟩:=aj (show bR (Nat.blt i s.nxt) _=some x from hr)
     obtain rfl:=ae hr
     trivial
    | box t ks =>
     obtain ⟨h0,h1,hr⟩:=bind_some (show (OV (look s.env t)).bind _=some x from hr)
     obtain ⟨b,hb,hr⟩:=bind_some hr
     obtain rfl:=ae hr
     trivial
    | pbx i ks =>
     obtain ⟨b,hb,hr⟩:=bind_some (show (qR ⟨i,[]⟩ s.chs).bind _=some x from hr)
     obtain rfl:=ae hr
     trivial
    | row t E u =>
     obtain ⟨h0,h1,hr⟩:=bind_some (show (Wj (look s.env t)).bind _=some x from hr)
     obtain rfl:=ae hr
     trivial
    | cur t =>
     obtain ⟨h0,h1,hr⟩:=bind_some (show (OV (look s.env t)).bind _=some x from hr)
     obtain ⟨⟨g,T,E,xs⟩,hb,hr⟩:=bind_some hr
     obtain rfl:=ae hr
     obtain ⟨ver,a,b,hm⟩:=IS hb
     exact (show LV.ok P w0 J θ s.nxt (.rd g (.sl E (.int .u8)) xs) from (hf.chs _ hm).2.2 _ (List.mem_cons_self ..))
   ·exact ih hrs' x hx
 exact ⟨rfl,fun e he=>(List.mem_filter.1 (sA.mem he)).1,(hf.nd.filter _).sublist sA,fun e he=>(List.mem_filter.1 he).1,hd,hres hrs,hf,hrit hrs⟩
theorem cut_ok (hC:CutOk P w0 c s J0 θ0) (hS:Sim P I w0 F V.n J θ s' a w) (hFr:Fr s θ0 s' θ) (hJ:J0.le J) {d:qu (qU c.its)} (h:c.of s'=some d): ∃θ',Sim P I w0 F V.n J θ' (c.at d) a w/\Fr s θ0 (c.at d) θ':=by
 unfold Cut.of at h
 obtain ⟨S1,F1⟩:=sy (hs:=oM s' c.its) hS
 obtain ⟨S2,F2⟩:=sy (hs:=zC c.chs) S1
 generalize hs1:vn (zC c.chs) (vn (oM s' c.its) s')=s1 at h S2 F2
 simp only at h
 obtain ⟨q,hq,h⟩:=bind_some h
 obtain ⟨rest2,hrest,h⟩:=bind_some h
 obtain ⟨henv,h⟩:=aj h
 obtain rfl:=ae h
 have hfr:Fr s θ0 s1 θ:=(hFr.trans F1).trans F2
 have hsame:Same s.nxt θ0 θ:=hfr.same
 obtain ⟨hsub,vals,hvl,hcut⟩:=IT (w:=w) (n1:=s.nxt) S2.fine.env hq S2.fine.chs fun r hr=>by
  have h1:=hC.rit r hr
  cases r with
  | cur h T g E xs=>exact LV.ok_same hsame (aE _) (show LV.ok P w0 J0 θ0 s.nxt (.rd g (.sl E (.int .u8)) xs) from h1) hJ
  | _=>trivial
 let θ':Th:=fun i=>if i<s.nxt then θ i else vals.getD (i - s.nxt) undef
 have hθ:Same s.nxt θ θ':=fun i hi=>if_pos hi
 have hθ0:Same s.nxt θ0 θ':=hsame.trans hθ (aE _)
 have htop:c.top=s.nxt+(qU c.its).length:=by unfold Cut.top;rw[hC.nxt]
 obtain ⟨e1,e2,e3⟩:=hcut θ' s.nxt c.top (c.top+1) (fun i v hi=>by
  show (if s.nxt+i<s.nxt then _ else vals.getD (s.nxt+i - s.nxt) undef)=v
  rw[if_neg (by omega),Nat.add_sub_cancel_left,List.getD_eq_getElem?_getD,hi];rfl) (by rw[htop];exact Nat.le_succ _) (ax _) (fun x hx=>⟨aZ hθ (hC.hdr x hx),by have:=hC.hdr x hx;rw[htop];omega⟩) [F] S2.st
 have hstay: ∀e∈c.chs,∀e'∈q.2,e'.1=e.1->e'.2.1=e.2.1->e'=e:=fun e he e' he' h1 h2=>by
  have hes:=hC.chs e he
  have hek:=hC.fine.chs e hes
  rcases hfr.chs e' (hsub e' he') e'.1 e'.2.1 e'.2.2 ⟨rfl,.inl ⟨rfl,rfl⟩⟩ with h3 | ⟨e0,he0,h3⟩
  ·have:=hek.2.1;omega
  ·have:=xk hC.dist e0 he0 e hes (h3.1.trans h1)
   subst this
   rcases h3.2 with ⟨h4,h5⟩ | h4
   ·obtain ⟨x1,x2,x3⟩:=e'
    obtain ⟨y1,y2,y3⟩:=e0
    simp only at h1 h2 h5
    rw[h1,h2,h5]
   ·obtain ⟨y1,y2,y3⟩:=e0
    cases y3 with
    | hole over t dd u y f i k off lv =>
     have h5:=h4.1
     have h6:=hek.2.2.2.1
     have h7:over=e'.2.1:=h5
     have h8:over<y2:=h6
     have h9:e'.2.1=y2:=h2
     omega
    | _=>exact h4.elim
 have hperm:=B4 hrest hstay
 have hnew:Newer s.nxt s.chs (wx c.top s.nxt c.its q.1++c.chs):=fun e he h' ver x hs=>by
  rcases aD he with he | he
  ·obtain ⟨k1,k2⟩:=E9 e he
   rcases hs.2 with ⟨h1,h2⟩ | h1
   ·left;rw[<-h1,k1,htop];omega
   ·obtain ⟨y1,y2,y3⟩:=e
    cases y3 with
    | hole _ _ _ _ _ _ _ _ _ _=>exact k2.elim
    | _=>exact h1.elim
  ·exact .inr ⟨e,hC.chs e he,hs⟩
 have hlook: ∀e∈c.env,look s1.env e.1=some e.2.2:=fun e he=>by
  obtain ⟨x,h1,h2⟩:=IU (zE henv e he)
  have hes:=hC.env e he
  have:=Ng hC.fine.nd _ (hfr.env _ h2 (hC.fine.ver e hes)) e hes rfl
  rw[h1,<-this]
 have hat:c.at q.1=⟨Bg s.nxt c.its q.1++c.env,wx c.top s.nxt c.its q.1++c.chs,c.top+1⟩:=by unfold Cut.at;rw[hC.nxt]
 obtain ⟨v1,v2⟩:=Fa (rs:=c.its) (id:=s.nxt) (d:=q.1)
 refine ⟨θ',?_,by
  rw[hat]
  refine ⟨show s.nxt<=c.top+1 by rw[htop];omega,hθ0,fun e he hv0=>?_,hnew⟩
  rcases aD he with he | he
  ·have:=v1 e he;omega
  ·exact hC.env e he⟩
 rw[hat]
 refine ⟨S2.le,S2.agr.pick _ fun p hp=>?_,?_,fun e he=>?_,fun e he=>?_,List.pairwise_append.2 ⟨v2,hC.nd,fun x hx y hy hxy=>?_⟩,fun e he=>?_,S2.fine.lay⟩
 ·obtain ⟨e,he,rfl⟩:=List.mem_map.1 hp
  rcases aD he with he | he
  ·obtain ⟨-,x,h1,h2⟩:=e1 e he
   show (envL θ s1).lookup e.1=some (e.2.2.v θ')
   rw[h2];exact gu h1
  ·have hok:=hC.fine.env e (hC.env e he)
   show (envL θ s1).lookup e.1=some (e.2.2.v θ')
   rw[AV.v_same hθ0 hok,<-AV.v_same hsame hok];exact gu (hlook e he)
 ·have hch:c.chs.map (toCh P θ')=c.chs.map (toCh P θ):=List.map_congr_left fun e he=>by
   have hok:=hC.fine.chs e (hC.chs e he)
   rw[mX hθ0 hok,mX hsame hok]
  show St J w0 w ((wx c.top s.nxt c.its q.1++c.chs).map (toCh P θ')++ [F])
  rw[aM,hch]
  have h1:=e3.perm (List.Perm.append_left _ ((hperm.map (toCh P θ)).append_right [F]))
  rw[aM] at h1
  refine St.left (ds:=rest2.map (toCh P θ)) (h1.perm ?_)
  rw[ai,ai,ai]
  exact (List.Perm.append_left _ (List.Perm.append_left _ List.perm_append_comm))
 ·rcases aD he with he | he
  ·exact (e1 e he).1 _
  ·exact AV.ok_same hθ0 (show s.nxt<=c.top+1 by rw[htop];omega) hnew (hC.fine.env e (hC.env e he)) hJ
 ·rcases aD he with he | he
  ·have:=v1 e he
   show e.2.1<c.top+1
   rw[htop];omega
  ·have:=hC.fine.ver e (hC.env e he)
   show e.2.1<c.top+1
   rw[htop];omega
 ·have:=v1 x hx
  have:=hC.fine.ver y (hC.env y hy)
  omega
 ·rcases aD he with he | he
  ·exact e2 _ e he
  ·exact fh hθ0 (show s.nxt<=c.top+1 by rw[htop];omega) hnew (hC.fine.chs e (hC.chs e he)) hJ
end
end R
namespace R
open Go.RowKit
open D
def uN (t:Nat):List Nat->Bool
 | [] =>false
 | u::l=>Nat.beq u t || uN t l
theorem ng {t:Nat} : ∀ {l:List Nat},uN t l=true↔t∈l
 | [] =>by simp[uN]
 | u::l=>by
  unfold uN
  rw[Bool.or_eq_true,ng (l:=l),List.mem_cons]
  constructor
  ·rintro (h | h)
   ·exact .inl (au h).symm
   ·exact .inr h
  ·rintro (h | h)
   ·exact .inl (by rw[h];exact Nat.beq_refl u)
   ·exact .inr h
theorem G6 {t:Nat} {l:List Nat} :uN t l=false↔t∉l:=by
 rw[<-ng (l:=l)];simp
def zF:List Nat->Bool
 | [] =>true
 | u::l=> !uN u l&&zF l
theorem rm: ∀ {l:List Nat},zF l=true->l.Nodup
 | [],_=>List.nodup_nil
 | u::l,h=>by
  unfold zF at h
  rw[ak,Bool.not_eq_true',G6] at h
  exact List.nodup_cons.2 ⟨h.1,rm h.2⟩
structure OpK where
 reads:List Nat
 needs:List Nat
 gives:List Nat
 src:List (Nat×Option Nat)
structure Skel where
 ops:List OpK
 nres:Nat
 base:List Nat
 pre:List (List Nat)
 fin:List (Nat×Option Nat)
 left:List Nat
structure Sm where
 fact:Nat->(Nat->Value)->Prop
 chunk:Nat->(Nat->Value)->Ch
namespace Skel
def op (p:Skel) (i:Nat):OpK:=p.ops.getD i ⟨[],[],[],[]⟩
def before (p:Skel) (i:Nat):List Nat:=p.pre.getD i []
def srcOf (t:Nat):List (Nat×Option Nat)->Option (Option Nat)
 | [] =>none
 | (u,x)::l=>if Nat.beq u t then some x else srcOf t l
def ev (p:Skel) (L:List (Nat×Value)) (i:Nat) (vs:Nat->Value):Operand->Value
 | .tmp t=>match srcOf t (p.op i).src with
  | some (some j)=>vs j
  | _=>(L.lookup t).getD undef
 | x=>evL L x
end Skel
structure Loc (p:Skel) (q:Sm) (m:Nat):Prop where
 fact: ∀i,i<m-> ∀vs vs',(∀j,j=i\/j∈p.before i->vs' j=vs j)->q.fact i vs->q.fact i vs'
 chB: ∀x,x∈p.base-> ∀vs vs',q.chunk x vs'=q.chunk x vs
 chG: ∀i,i<m-> ∀x,x∈(p.op i).gives-> ∀vs vs',(∀j,j=i\/j∈p.before i->vs' j=vs j)->q.chunk x vs'=q.chunk x vs
def Skel.goal (p:Skel) (q:Sm) (P:Program) (I:Hp) (w0:World) (L:List (Nat×Value)) (i:Nat) (o:Oper):Prop:=
 ∀vs,(∀j,j∈p.before i->q.fact j vs)->
  match JA o vs with
  | some true=>OpT P I w0 o (p.ev L i vs) (((p.op i).reads++(p.op i).needs).map (q.chunk · vs)) (fun v=>q.fact i (upd vs i v)) (fun v=>((p.op i).reads++(p.op i).gives).map (q.chunk · (upd vs i v)))
  | some false=>q.fact i (upd vs i undef)/\(p.op i).needs= [] /\(p.op i).gives= []
  | none=>False
def isDst (ops:List Oper) (j t:Nat):Bool:=match ops[j]? with
 | some o=>match o.dst with
  | some u=>Nat.beq u t
  | none=>false
 | none=>false
theorem sB {ops:List Oper} {j t:Nat} :isDst ops j t=true↔(ops.toArray[j]?).bind (·.dst)=some t:=by
 unfold isDst
 rw[List.getElem?_toArray]
 cases ops[j]? with
 | none=>simp
 | some o =>
  simp only[aa]
  cases o.dst with
  | none=>simp
  | some u=>simp
def R8 (l:List Nat) (f:Nat->Bool):Bool:=match l with
 | [] =>false
 | x::l=>f x || R8 l f
def Ba (l:List Nat) (f:Nat->Bool):Bool:=match l with
 | [] =>true
 | x::l=>f x&&Ba l f
theorem G7 {f:Nat->Bool} : ∀ {l:List Nat},R8 l f=true↔ ∃x,x∈l/\f x=true
 | [] =>by simp[R8]
 | x::l=>by unfold R8;rw[Bool.or_eq_true,G7 (l:=l)];simp
theorem rp {f:Nat->Bool} : ∀ {l:List Nat},Ba l f=true↔ ∀x,x∈l->f x=true
 | [] =>by simp[Ba]
 | x::l=>by unfold Ba;rw[ak,rp (l:=l)];simp
def Xn (l:List Oper) (k:Nat) (f:Nat->Oper->Bool):Bool:=match l with
 | [] =>true
 | o::l=>f k o&&Xn l (k+1) f
theorem Nh {f:Nat->Oper->Bool} : ∀ {l:List Oper} {k:Nat},Xn l k f=true-> ∀i o,l[i]? =some o->f (k+i) o=true
 | [],_,_,i,o,h=>by simp at h
 | x::l,k,h,i,o,hi=>by
  unfold Xn at h
  rw[ak] at h
  cases i with
  | zero=>simp at hi;subst hi;exact h.1
  | succ i =>
   have:=Nh h.2 i o (by simpa using hi)
   rwa [show k+1+i=k+(i+1) from by omega] at this
def Skel.okOp (p:Skel) (n:Nat) (kn:Nat->Bool) (ops:List Oper) (all:List Nat) (i:Nat) (o:Oper) (b:List Nat) (r:OpK):Bool:=
 noSelect o&&(dstOk n o.dst&&(Ba (edgesOf o) (fun j=>Nat.blt j i) &&
 (Ba b (fun j=>Nat.blt j i&&(uN j (edgesOf o) || R8 (edgesOf o) fun k=>uN j (p.before k))) &&
 (Ba (slotsOf ops.toArray o) (fun t=>match srcOf t r.src with
  | none=>false
  | some none=>kn t&&Ba all fun j=> !isDst ops j t || (Nat.beq j i || uN i (p.before j))
  | some (some j)=>isDst ops j t&&(uN j b&&Ba all fun k=> !isDst ops k t || (Nat.beq k j || (Nat.beq k i || (uN k (p.before j) || uN i (p.before k)))))) &&
 ((match o.guard with
  | none=>true
  | some (g,_)=>match ops[g]? with
   | none=>false
   | some og=>match og.dst with
    | none=>false
    | some t=>match srcOf t r.src with
     | some (some j)=>Nat.beq j g
     | _=>false) &&
 (Ba (r.reads++r.needs) (fun x=>Nat.blt x p.nres&&(uN x p.base || R8 b fun j=>uN x (p.op j).gives)) &&
 (Ba r.reads (fun x=>Ba all fun k=>Nat.beq k i || (!uN x (p.op k).needs || uN i (p.before k))) &&
 (Ba r.needs (fun x=>Ba all fun k=>Nat.beq k i || !uN x (p.op k).needs) &&
 (Ba r.gives (fun x=>Nat.blt x p.nres&&(!uN x p.base&&(!uN x (r.reads++r.needs)&&Ba all (fun k=>Nat.beq k i || !uN x (p.op k).gives)))) &&
 (zF (r.reads++r.needs)&&zF (r.reads++r.gives)))))))))))
def Skel.ok (p:Skel) (n:Nat) (kn:Nat->Bool) (ops:List Oper):Bool:=
 Xn ops 0 fun i o=>p.okOp n kn ops (List.range ops.length) i o (p.before i) (p.op i)
def Skel.okB (p:Skel) (kn:Nat->Bool) (ops:List Oper):Bool:=
 let all:=List.range ops.length
 zF p.base&&(zF p.left&&(Ba p.left (fun x=>(uN x p.base || R8 all fun j=>uN x (p.op j).gives)&&Ba all fun j=> !uN x (p.op j).needs) &&
 (Ba (p.base++all.flatMap fun j=>(p.op j).gives) (fun x=>uN x p.left || R8 all fun j=>uN x (p.op j).needs) &&
 p.fin.all fun (t,s)=>match s with
  | none=>kn t&&Ba all fun j=> !isDst ops j t
  | some j=>Nat.blt j ops.length&&(isDst ops j t&&Ba all fun k=> !isDst ops k t || (Nat.beq k j || uN k (p.before j))))))
def Skel.out (p:Skel) (L:List (Nat×Value)) (vs:Nat->Value):List (Nat×Value):=
 p.fin.map fun (t,s)=>(t,match s with | some j=>vs j | none=>(L.lookup t).getD undef)
structure Inv (p:Skel) (q:Sm) (C:List Ch) (I:Hp) (w0:World) (n:Nat) (L:List (Nat×Value)) (ops:Array Oper) (S:Nat->Bool) (vs:Nat->Value) (a:Act) (w:World):Prop where
 closed: ∀i,S i=true-> ∀j,j∈p.before i->S j=true
 lt: ∀i,S i=true->i<ops.size
 defers:a.defers= []
 size:a.tmps.size=n
 old: ∀t v,L.lookup t=some v->(∀j,S j=true->(ops[j]?).bind (·.dst)≠some t)->a.tmps.getD t undef=v
 new: ∀j t,S j=true->(ops[j]?).bind (·.dst)=some t->(∀k,S k=true->(ops[k]?).bind (·.dst)=some t->k=j\/k∈p.before j)->a.tmps.getD t undef=vs j
 facts: ∀i,S i=true->q.fact i vs
 st: ∃l:List Nat,l.Nodup/\(∀x,x∈l↔(x∈p.base\/ ∃j,S j=true/\x∈(p.op j).gives)/\ ¬ ∃j,S j=true/\x∈(p.op j).needs)/\St I w0 w (l.map (q.chunk · vs)++C)
structure Skel.Good (p:Skel) (n:Nat) (L:List (Nat×Value)) (ops:Array Oper) (i:Nat) (o:Oper):Prop where
 sel:noSelect o=true
 dst:dstOk n o.dst=true
 edges: ∀j,j∈edgesOf o->j<i
 bef: ∀j,j∈p.before i->j<i/\(j∈edgesOf o\/ ∃k,k∈edgesOf o/\j∈p.before k)
 slots: ∀t,t∈slotsOf ops o->(Skel.srcOf t (p.op i).src=some none/\(L.lookup t).isSome=true/\ ∀j,j<ops.size->(ops[j]?).bind (·.dst)=some t->j=i\/i∈p.before j) \/
  ∃j,Skel.srcOf t (p.op i).src=some (some j)/\(ops[j]?).bind (·.dst)=some t/\j∈p.before i/\ ∀k,k<ops.size->(ops[k]?).bind (·.dst)=some t->k=j\/k=i\/k∈p.before j\/i∈p.before k
 guard: ∀g want,o.guard=some (g,want)-> ∃t,(ops[g]?).bind (·.dst)=some t/\Skel.srcOf t (p.op i).src=some (some g)
 have_: ∀x,x∈(p.op i).reads++(p.op i).needs->x<p.nres/\(x∈p.base\/ ∃j,j∈p.before i/\x∈(p.op j).gives)
 keep: ∀x,x∈(p.op i).reads-> ∀k,k<ops.size->x∈(p.op k).needs->k=i\/i∈p.before k
 once: ∀x,x∈(p.op i).needs-> ∀k,k<ops.size->x∈(p.op k).needs->k=i
 give: ∀x,x∈(p.op i).gives->x<p.nres/\x∉p.base/\x∉(p.op i).reads++(p.op i).needs/\ ∀k,k<ops.size->x∈(p.op k).gives->k=i
 nd1:((p.op i).reads++(p.op i).needs).Nodup
 nd2:((p.op i).reads++(p.op i).gives).Nodup
theorem Vu {a b:Nat} :Nat.beq a b=true↔a=b:=⟨au,fun h=>by rw[h];exact Nat.beq_refl b⟩
theorem Vv {a b:Nat} :Nat.blt a b=true↔a<b:=by rw[Nat.blt_eq]
theorem Skel.good_of_ok {p:Skel} {n:Nat} {kn:Nat->Bool} {L:List (Nat×Value)} {ops:List Oper} (hkn: ∀t,kn t=true->(L.lookup t).isSome=true) (h:p.ok n kn ops=true) {i:Nat} {o:Oper} (hi:ops[i]? =some o):p.Good n L ops.toArray i o:=by
 have him:i<ops.length:=(List.getElem?_eq_some_iff.1 hi).1
 have h:=Nh h i o hi
 rw[Nat.zero_add] at h
 unfold Skel.okOp at h
 simp only[ak,rp,G7,ng,Vv,Vu,Bool.or_eq_true,Bool.not_eq_true',G6] at h
 obtain ⟨h1,h2,h2',h3,h4,h5,h7,h8,h9,h10,h11,h12⟩:=h
 have hr: ∀k,k<ops.toArray.size->k∈List.range ops.length:=fun k hk=>List.mem_range.2 (by simpa using hk)
 refine ⟨h1,h2,h2',fun j hj=>?_,fun t ht=>?_,fun g want hg=>?_,fun x hx=>h7 x hx,fun x hx k hk hn=>?_,fun x hx k hk hn=>?_,fun x hx=>?_,rm h11,rm h12⟩
 ·obtain ⟨e1,e2⟩:=h3 j hj
  exact ⟨e1,e2⟩
 ·have:=h4 t ht
  split at this
  ·cases this
  ·rename_i he
   simp only[ak,rp,Bool.or_eq_true,Bool.not_eq_true',Vu,ng] at this
   refine .inl ⟨he,hkn t this.1,fun j hj hd=>?_⟩
   rcases this.2 j (hr j hj) with e | e
   ·rw[sB.2 hd] at e;cases e
   ·exact e
  ·rename_i j he
   simp only[ak,rp,Bool.or_eq_true,Bool.not_eq_true',Vu,ng] at this
   refine .inr ⟨j,he,sB.1 this.1,this.2.1,fun k hk hd=>?_⟩
   rcases this.2.2 k (hr k hk) with e | e
   ·rw[sB.2 hd] at e;cases e
   ·exact e
 ·rw[hg] at h5
  simp only at h5
  split at h5
  ·cases h5
  ·rename_i og hog
   split at h5
   ·cases h5
   ·rename_i t ht
    split at h5
    ·rename_i j hj
     refine ⟨t,by rw[List.getElem?_toArray,hog];exact ht,?_⟩
     rw[<-au h5];exact hj
    ·cases h5
 ·rcases h8 x hx k (hr k hk) with e | e | e
  ·exact .inl e
  ·exact absurd hn e
  ·exact .inr e
 ·rcases h9 x hx k (hr k hk) with e | e
  ·exact e
  ·exact absurd hn e
 ·obtain ⟨e1,e2,e3,e4⟩:=h10 x hx
  refine ⟨e1,e2,e3,fun k hk hn=>?_⟩
  rcases e4 k (hr k hk) with e | e
  ·exact e
  ·exact absurd hn e
section
variable {p:Skel} {q:Sm} {kn:Nat->Bool} {C:List Ch} {P:Program} {I:Hp} {w0:World} {n:Nat} {L:List (Nat×Value)} {ops:List Oper} {S:Nat->Bool} {vs:Nat->Value} {a:Act} {w:World} {i:Nat} {o:Oper}
theorem Inv.step (hkn: ∀t,kn t=true->(L.lookup t).isSome=true) (hl:Loc p q ops.length) (hok:p.ok n kn ops=true) (hg:p.goal q P I w0 L i o) (hi:ops[i]? =some o) (h:Inv p q C I w0 n L ops.toArray S vs a w) (hn:S i=false) (hpre: ∀j,j∈p.before i->S j=true) {K:Act->World->Prop} {Q:Exit->Act->World->Prop}
  (hK: ∀vs a w,Inv p q C I w0 n L ops.toArray (fun j=>S j || j==i) vs a w->K a w):wpOp P ops.toArray Q i K a w:=by
 have G:=Skel.good_of_ok hkn hok hi
 have him:i<ops.toArray.size:=by have:=(List.getElem?_eq_some_iff.1 hi).1;simpa using this
 have hcl: ∀j,S j=true->i∉p.before j:=fun j hj hb=>by rw[h.closed j hj i hb] at hn;cases hn
 have slot: ∀t,t∈slotsOf ops.toArray o->a.tmps.getD t undef=p.ev L i vs (.tmp t):=by
  intro t ht
  rcases G.slots t ht with ⟨e1,e2,e3⟩ | ⟨j,e1,e2,e3,e4⟩
  ·obtain ⟨v,hv⟩:=Option.isSome_iff_exists.1 e2
   simp only[Skel.ev,e1,hv,Option.getD_some]
   refine h.old t v hv fun j hj hd=>?_
   rcases e3 j (h.lt j hj) hd with rfl | e
   ·rw[hn] at hj;cases hj
   ·exact hcl j hj e
  ·simp only[Skel.ev,e1]
   refine h.new j t (hpre j e3) e2 fun k hk hd=>?_
   rcases e4 k (h.lt k hk) hd with e | e | e | e
   ·exact .inl e
   ·subst e;rw[hn] at hk;cases hk
   ·exact .inr e
   ·exact absurd e (hcl k hk)
 have hev: ∀x,x∈o.op.operands->a.eval x=p.ev L i vs x:=by
  intro x hx
  cases x with
  | tmp t =>
   refine slot t ?_
   unfold slotsOf Oper.looksAt
   refine aU _ (List.mem_filterMap.2 ⟨.tmp t,by simpa using hx,rfl⟩)
  | _=>rfl
 have hfacts: ∀j,j∈p.before i->q.fact j vs:=fun j hj=>h.facts j (hpre j hj)
 have goal:=hg vs hfacts
 have main: ∀v w',q.fact i (upd vs i v)->(∃l:List Nat,l.Nodup/\(∀x,x∈l↔(x∈p.base\/ ∃j,(S j || j==i)=true/\x∈(p.op j).gives)/\ ¬ ∃j,(S j || j==i)=true/\x∈(p.op j).needs)/\St I w0 w' (l.map (q.chunk · (upd vs i v))++C))->K (a.put o.dst v) w':=by
  intro v w' hf hst
  refine hK (upd vs i v) _ _ ⟨?_,?_,?_,?_,?_,?_,?_,hst⟩
  ·intro j hj k hk
   simp only[Bool.or_eq_true,beq_iff_eq] at hj⊢
   rcases hj with hj | rfl
   ·exact .inl (h.closed j hj k hk)
   ·exact .inl (hpre k hk)
  ·intro j hj
   simp only[Bool.or_eq_true,beq_iff_eq] at hj
   rcases hj with hj | rfl
   ·exact h.lt j hj
   ·exact him
  ·cases hd:o.dst <;> simp[Act.put,h.defers]
  ·cases hd:o.dst <;> simp[Act.put,h.size]
  ·intro t u hu hj
   have hne:o.dst≠some t:=by
    have:=hj i (by simp)
    rwa [show (ops.toArray[i]?)=some o from by simpa using hi] at this
   have h0:=h.old t u hu fun j hS=>hj j (by simp[hS])
   cases hd:o.dst with
   | none=>exact h0
   | some d =>
    show (a.tmps.setIfInBounds d v).getD t undef=u
    rw[D.getD_set_ne (fun e=>hne (by rw[hd,e]))];exact h0
  ·intro j t hj hd hk
   simp only[Bool.or_eq_true,beq_iff_eq] at hj
   by_cases hdt:o.dst=some t
   ·have hji:j=i:=by
     rcases hj with hj | rfl
     ·rcases hk i (by simp) (by rw[show (ops.toArray[i]?)=some o from by simpa using hi];exact hdt) with e | e
      ·exact e.symm
      ·exact absurd e (hcl j hj)
     ·rfl
    subst hji
    have hlt:=G.dst
    rw[hdt] at hlt
    have hlt:t<n:=by simpa [dstOk] using hlt
    rw[hdt,fV]
    exact D.uR (by rw[h.size];exact hlt)
   ·have hji:j≠i:=by
     rintro rfl
     rw[show (ops.toArray[j]?)=some o from by simpa using hi] at hd
     exact hdt hd
    have hjS:S j=true:=by rcases hj with hj | e;exact hj;exact absurd e hji
    rw[H4 hji]
    have h0:=h.new j t hjS hd fun k hk'=>hk k (by simp[hk'])
    cases hd:o.dst with
    | none=>exact h0
    | some d =>
     show (a.tmps.setIfInBounds d v).getD t undef=_
     rw[D.getD_set_ne (fun e=>hdt (by rw[hd,e]))];exact h0
  ·intro j hj
   simp only[Bool.or_eq_true,beq_iff_eq] at hj
   by_cases e:j=i
   ·subst e;exact hf
   ·have hjS:S j=true:=by rcases hj with hj | e';exact hj;exact absurd e' e
    refine hl.fact j (by simpa using h.lt j hjS) vs _ (fun k hk=>H4 fun e'=>?_) (h.facts j hjS)
    subst e'
    rcases hk with e' | e'
    ·exact e e'.symm
    ·exact hcl j hjS e'
 obtain ⟨l,l1,l2,l3⟩:=h.st
 have hstay: ∀v x,x∈l->q.chunk x (upd vs i v)=q.chunk x vs:=by
  intro v x hx
  rcases ((l2 x).1 hx).1 with hb | ⟨j,hj,hxj⟩
  ·exact hl.chB x hb vs _
  ·refine hl.chG j (by simpa using h.lt j hj) x hxj vs _ fun k hk=>H4 fun e'=>?_
   subst e'
   rcases hk with e' | e'
   ·subst e';rw[hn] at hj;cases hj
   ·exact hcl j hj e'
 unfold wpOp
 rw[show (ops.toArray[i]?)=some o from by simpa using hi]
 simp only
 have hwant:Region.wanted o (yielded ops.toArray a.tmps)=true↔JA o vs=some true:=by
  unfold Region.wanted JA
  cases hgd:o.guard with
  | none=>simp
  | some q =>
   obtain ⟨g,want⟩:=q
   obtain ⟨t,e1,e2⟩:=G.guard g want hgd
   have ht:t∈slotsOf ops.toArray o:=by
    unfold slotsOf Oper.looksAt
    refine aX _ ?_
    rw[hgd]
    simp only
    rw[e1];simp
   have hv:=slot t ht
   simp only[Skel.ev,e2] at hv
   have hy:yielded ops.toArray a.tmps g=match vs g with | .bool b=>some b | _=>none:=by
    unfold yielded
    rw[e1]
    simp only[aa]
    rw[Array.getD_eq_getD_getElem?] at hv
    cases ht:a.tmps[t]? with
    | none =>
     rw[ht] at hv
     rw[<-hv];rfl
    | some u =>
     rw[ht] at hv
     simp only[Option.getD_some] at hv
     rw[hv]
     cases vs g <;> rfl
   simp only[hy]
   cases hvg:vs g <;> simp
 cases hw:JA o vs with
 | none=>rw[hw] at goal;exact goal.elim
 | some b =>
  cases b with
  | false =>
   rw[hw] at goal
   simp only at goal
   rw[if_neg (by rw[hwant,hw];simp)]
   refine main undef w goal.1 ⟨l,l1,fun x=>?_,?_⟩
   ·rw[l2]
    obtain ⟨-,g2,g3⟩:=goal
    constructor
    ·rintro ⟨h1,h2⟩
     refine ⟨h1.imp id fun ⟨j,hj,hx⟩=>⟨j,by simp[hj],hx⟩,fun ⟨j,hj,hx⟩=>?_⟩
     simp only[Bool.or_eq_true,beq_iff_eq] at hj
     rcases hj with hj | rfl
     ·exact h2 ⟨j,hj,hx⟩
     ·rw[g2] at hx;cases hx
    ·rintro ⟨h1,h2⟩
     refine ⟨?_,fun ⟨j,hj,hx⟩=>h2 ⟨j,by simp[hj],hx⟩⟩
     rcases h1 with h1 | ⟨j,hj,hx⟩
     ·exact .inl h1
     ·simp only[Bool.or_eq_true,beq_iff_eq] at hj
      rcases hj with hj | rfl
      ·exact .inr ⟨j,hj,hx⟩
      ·rw[g3] at hx;cases hx
   ·rw[List.map_congr_left fun x hx=>hstay undef x hx];exact l3
  | true =>
   rw[hw] at goal
   simp only at goal
   rw[if_pos (by rw[hwant,hw])]
   refine .inl ?_
   have hin: ∀x,x∈(p.op i).reads++(p.op i).needs->x∈l:=by
    intro x hx
    rw[l2]
    refine ⟨(G.have_ x hx).2.imp id fun ⟨j,hj,e⟩=>⟨j,hpre j hj,e⟩,fun ⟨k,hk,e⟩=>?_⟩
    rcases aD hx with hx | hx
    ·rcases G.keep x hx k (h.lt k hk) e with rfl | e'
     ·rw[hn] at hk;cases hk
     ·exact hcl k hk e'
    ·have:=G.once x hx k (h.lt k hk) e
     subst this;rw[hn] at hk;cases hk
   let r:=l.filter fun x=> !((p.op i).reads++(p.op i).needs).contains x
   have hr: ∀x,x∈r↔x∈l/\x∉(p.op i).reads++(p.op i).needs:=by
    intro x
    simp[r,List.mem_filter]
   have hrn:r.Nodup:=l1.filter _
   have hperm:l.Perm (((p.op i).reads++(p.op i).needs)++r):=by
    refine (List.perm_ext_iff_of_nodup l1 (List.nodup_append.2 ⟨G.nd1,hrn,fun x hx y hy e=>?_⟩)).2 fun x=>?_
    ·subst e;exact ((hr x).1 hy).2 hx
    ·rw[List.mem_append,hr]
     constructor
     ·intro hx
      by_cases e:x∈(p.op i).reads++(p.op i).needs
      ·exact .inl e
      ·exact .inr ⟨hx,e⟩
     ·rintro (e | e)
      ·exact hin x e
      ·exact e.1
   have hs:=l3.perm ((hperm.map (q.chunk · vs)).append_right C)
   rw[aM,ai] at hs
   have hsame:execOp a.eval o=execOp (p.ev L i vs) o:=pK G.sel hev
   have hu:=goal w _ hs
   rw[<-hsame] at hu
   refine hu.wp fun v w' hv=>main v w' hv.1 ⟨((p.op i).reads++(p.op i).gives)++r,?_,fun x=>?_,?_⟩
   ·refine List.nodup_append.2 ⟨G.nd2,hrn,fun x hx y hy e=>?_⟩
    subst e
    rcases aD hx with hx | hx
    ·exact ((hr x).1 hy).2 (aU _ hx)
    ·obtain ⟨-,g1,g2,g3⟩:=G.give x hx
     rcases ((l2 x).1 ((hr x).1 hy).1).1 with e | ⟨j,hj,e⟩
     ·exact g1 e
     ·have:=g3 j (h.lt j hj) e
      subst this;rw[hn] at hj;cases hj
   ·have hgx:x∈(p.op i).gives->x∉p.base/\(∀k,S k=true->x∉(p.op k).needs)/\x∉(p.op i).needs:=by
     intro hx
     obtain ⟨-,g1,g2,g3⟩:=G.give x hx
     refine ⟨g1,fun k hk e=>?_,fun e=>g2 (aX _ e)⟩
     have hkm:k<ops.length:=by simpa using h.lt k hk
     rcases ((Skel.good_of_ok (L:=L) hkn hok (List.getElem?_eq_getElem hkm)).have_ x (aX _ e)).2 with e' | ⟨j,hj,e'⟩
     ·exact g1 e'
     ·have:=g3 j (h.lt j (h.closed k hk j hj)) e'
      subst this
      exact hcl k hk hj
    rw[List.mem_append,hr]
    constructor
    ·rintro (hx | ⟨hx,hx2⟩)
     ·rcases aD hx with hx | hx
      ·obtain ⟨e1,e2⟩:=(l2 x).1 (hin x (aU _ hx))
       refine ⟨e1.imp id fun ⟨j,hj,e⟩=>⟨j,by simp[hj],e⟩,fun ⟨j,hj,e⟩=>?_⟩
       simp only[Bool.or_eq_true,beq_iff_eq] at hj
       rcases hj with hj | rfl
       ·exact e2 ⟨j,hj,e⟩
       ·exact (List.nodup_append.1 G.nd1).2.2 x hx x e rfl
      ·obtain ⟨g1,g2,g3⟩:=hgx hx
       refine ⟨.inr ⟨i,by simp,hx⟩,fun ⟨j,hj,e⟩=>?_⟩
       simp only[Bool.or_eq_true,beq_iff_eq] at hj
       rcases hj with hj | rfl
       ·exact g2 j hj e
       ·exact g3 e
     ·obtain ⟨e1,e2⟩:=(l2 x).1 hx
      refine ⟨e1.imp id fun ⟨j,hj,e⟩=>⟨j,by simp[hj],e⟩,fun ⟨j,hj,e⟩=>?_⟩
      simp only[Bool.or_eq_true,beq_iff_eq] at hj
      rcases hj with hj | rfl
      ·exact e2 ⟨j,hj,e⟩
      ·exact hx2 (aX _ e)
    ·rintro ⟨e1,e2⟩
     have e2': ¬ ∃j,S j=true/\x∈(p.op j).needs:=fun ⟨j,hj,e⟩=>e2 ⟨j,by simp[hj],e⟩
     have e2i:x∉(p.op i).needs:=fun e=>e2 ⟨i,by simp,e⟩
     by_cases hxg:x∈(p.op i).gives
     ·exact .inl (aX _ hxg)
     ·have hxl:x∈l:=by
       rw[l2]
       refine ⟨e1.imp id fun ⟨j,hj,e⟩=>?_,e2'⟩
       simp only[Bool.or_eq_true,beq_iff_eq] at hj
       rcases hj with hj | rfl
       ·exact ⟨j,hj,e⟩
       ·exact absurd e hxg
      by_cases e:x∈(p.op i).reads++(p.op i).needs
      ·rcases aD e with e | e
       ·exact .inl (aU _ e)
       ·exact absurd e e2i
      ·exact .inr ⟨hxl,e⟩
   ·rw[aM,ai]
    have:r.map (q.chunk · (upd vs i v))=r.map (q.chunk · vs):=List.map_congr_left fun x hx=>hstay v x ((hr x).1 hx).1
    rw[this]
    exact hv.2
theorem Uz (hkn: ∀t,kn t=true->(L.lookup t).isSome=true) (hl:Loc p q ops.length) (hok:p.ok n kn ops=true) (hg: ∀i o,ops[i]? =some o->p.goal q P I w0 L i o) {Q:Exit->Act->World->Prop}
  (hQ: ∀vs a w,Inv p q C I w0 n L ops.toArray (fun j=>decide (j<ops.length)) vs a w->Q .normal a w): ∀(fuel:Nat) (listed:Array Bool) (vs:Nat->Value) (a:Act) (w:World),listed.size=ops.length->D.leftOf ops.length listed<=fuel->
   Inv p q C I w0 n L ops.toArray (fun j=>listed.getD j false) vs a w->wpAny P .any ops.toArray Q fuel listed a w:=by
 have done: ∀(listed:Array Bool) (vs:Nat->Value) (a:Act) (w:World),(∀i,i<ops.length->listed.getD i false=true)->Inv p q C I w0 n L ops.toArray (fun j=>listed.getD j false) vs a w->Q .normal a w:=by
  intro listed vs a w hall h
  refine hQ vs a w ?_
  have e:(fun j=>listed.getD j false)=fun j=>decide (j<ops.length):=by
   funext j
   by_cases hj:j<ops.length
   ·rw[hall j hj];simp[hj]
   ·cases hl:listed.getD j false with
    | false=>simp[hj]
    | true=>exact absurd (by simpa using h.lt j hl) hj
  rw[<-e];exact h
 have nil: ∀(listed:Array Bool) (vs:Nat->Value) (a:Act) (w:World),listed.size=ops.length->Inv p q C I w0 n L ops.toArray (fun j=>listed.getD j false) vs a w->Region.ready .any ops.toArray listed= [] ->Q .normal a w:=by
  intro listed vs a w hsz h hr
  refine done listed vs a w (fun i=>?_) h
  induction i using Nat.strongRecOn with
  | _ i ih =>
   intro hi
   cases hl:listed.getD i false with
   | true=>rfl
   | false =>
    have:i∈Region.ready .any ops.toArray listed:=by
     refine D.mem_ready.2 ⟨by simpa using hi,?_,fun o ho j hj=>?_⟩
     ·rw[Array.getD_eq_getD_getElem?,Array.getElem?_eq_getElem (by omega)] at hl⊢
      simpa using hl
     ·have hj':=(Skel.good_of_ok (L:=L) hkn hok (show ops[i]? =some o by simpa using ho)).edges j hj
      exact ih j hj' (by omega)
    rw[hr] at this;cases this
 intro fuel
 induction fuel with
 | zero =>
  intro listed vs a w hsz hf h
  have hall: ∀i,i<ops.length->listed.getD i false=true:=by
   intro i hi
   cases hl:listed.getD i false with
   | true=>rfl
   | false =>
    have hz:(List.range ops.length).filter (fun i=> !listed.getD i false)= []:=List.eq_nil_of_length_eq_zero (Nat.le_zero.1 hf)
    have:i∈(List.range ops.length).filter (fun i=> !listed.getD i false):=List.mem_filter.2 ⟨List.mem_range.2 hi,by simp[hl]⟩
    rw[hz] at this;cases this
  refine ⟨?_,done listed vs a w hall h⟩
  cases hr:Region.ready .any ops.toArray listed with
  | nil=>rfl
  | cons i l =>
   have:i∈Region.ready .any ops.toArray listed:=by rw[hr];simp
   obtain ⟨h1,h2,-⟩:=D.mem_ready.1 this
   have h1':i<ops.length:=by simpa using h1
   have h3:=hall i h1'
   rw[Array.getD_eq_getD_getElem?,Array.getElem?_eq_getElem (by omega)] at h2 h3
   simp at h2 h3
   rw[h2] at h3;cases h3
 | succ fuel ih =>
  intro listed vs a w hsz hf h
  refine ⟨nil listed vs a w hsz h,fun i hi=>?_⟩
  obtain ⟨h1,h2,h3⟩:=D.mem_ready.1 hi
  have h1':i<ops.length:=by simpa using h1
  have hio:ops[i]? =some ops[i]:=List.getElem?_eq_getElem h1'
  have hn:listed.getD i false=false:=by
   rw[Array.getD_eq_getD_getElem?,Array.getElem?_eq_getElem (by omega)] at h2⊢
   simpa using h2
  have hgi:=hg i _ hio
  refine h.step hkn hl hok hgi hio hn (fun j hj=>?_) fun vs a w hI=>?_
  ·rcases ((Skel.good_of_ok (L:=L) hkn hok hio).bef j hj).2 with e | ⟨k,hk,e⟩
   ·exact h3 _ (by simpa using hio) j e
   ·exact h.closed k (h3 _ (by simpa using hio) k hk) j e
  ·refine ih _ vs a w (by simpa using hsz) ?_ ?_
   ·have hlt:D.leftOf ops.length (listed.setIfInBounds i true)<D.leftOf ops.length listed:=by
     unfold D.leftOf
     have hsub:(List.range ops.length).filter (fun j=> !(listed.setIfInBounds i true).getD j false)=((List.range ops.length).filter (fun j=> !listed.getD j false)).filter (fun j=>j !=i):=by
      rw[List.filter_filter]
      refine List.filter_congr fun j hj=>?_
      by_cases e:i=j
      ·subst e
       rw[Array.getD_eq_getD_getElem?,Array.getElem?_setIfInBounds_self_of_lt (by omega)];simp
      ·rw[Array.getD_eq_getD_getElem?,Array.getElem?_setIfInBounds_ne e,<-Array.getD_eq_getD_getElem?]
       simp[show (j !=i)=true from by simp;exact fun e'=>e e'.symm]
     rw[hsub]
     refine List.length_filter_lt_length_iff_exists.2 ⟨i,List.mem_filter.2 ⟨List.mem_range.2 h1',by simp[hn]⟩,by simp⟩
    omega
   ·have e:(fun j=>(listed.setIfInBounds i true).getD j false)=fun j=>(listed.getD j false || j==i):=by
     funext j
     by_cases e:i=j
     ·subst e
      rw[Array.getD_eq_getD_getElem?,Array.getElem?_setIfInBounds_self_of_lt (by omega)];simp
     ·rw[Array.getD_eq_getD_getElem?,Array.getElem?_setIfInBounds_ne e,<-Array.getD_eq_getD_getElem?]
      simp[show (j==i)=false from by simp;exact fun e'=>e e'.symm]
    rw[e];exact hI
theorem Qw {id:Nat} {C0:List Ch} {Q:Exit->Act->World->Prop} (p:Skel) (q:Sm) (hkn: ∀t,kn t=true->(L.lookup t).isSome=true) (hl:Loc p q ops.length) (hm:P.follows .mixedOrders=true) (ha:Agr n a L) (hs:St I w0 w C0) (hp:C0.Perm (p.base.map (q.chunk · fun _=>undef)++C))
  (hok:p.ok n kn ops=true) (hB:p.okB kn ops=true) (hg: ∀i o,ops[i]? =some o->p.goal q P I w0 L i o)
  (k: ∀vs a w,(∀i,i<ops.length->q.fact i vs)->Agr n a (p.out L vs)->St I w0 w (p.left.map (q.chunk · vs)++C)->Q .normal a w):(Code.region id ops.toArray true).wp P Q a w:=by
 unfold Skel.okB at hB
 simp only[ak,rp,G7,ng,Bool.or_eq_true,Bool.not_eq_true',G6,List.all_eq_true] at hB
 obtain ⟨hb1',hb3',hb4,hb5,hb6⟩:=hB
 have hb1:=rm hb1'
 have hb3:=rm hb3'
 refine wp_region_any hm (Uz (C:=C) hkn hl hok hg (fun vs a w h=>k vs a w (fun i hi=>h.facts i (by simpa using hi)) ?_ ?_) _ _ (fun _=>undef) a _ (by simp) ?_ ?_)
 ·refine ⟨h.defers,h.size,fun t v hv=>?_⟩
  have key: ∀(M:List (Nat×Option Nat)),(∀q∈M,q∈p.fin)->(M.map fun (t,s)=>(t,match s with | some j=>vs j | none=>(L.lookup t).getD undef)).lookup t=some v->a.tmps.getD t undef=v:=by
   intro M
   induction M with
   | nil=>intro _ h;cases h
   | cons q M ih =>
    intro hM hv
    obtain ⟨t',s'⟩:=q
    rw[List.map_cons,List.lookup_cons] at hv
    by_cases e:t=t'
    ·subst e
     simp only[BEq.rfl,Option.some.injEq] at hv
     have hf:=hb6 (t,s') (hM _ (by simp))
     cases s' with
     | none =>
      simp only[ak,rp,Bool.not_eq_true'] at hf hv
      obtain ⟨u,hu⟩:=Option.isSome_iff_exists.1 (hkn _ hf.1)
      rw[hu] at hv
      simp at hv;subst hv
      refine h.old t u hu fun j hj hd=>?_
      have hj:j<ops.length:=by simpa using hj
      have:=hf.2 j (List.mem_range.2 hj)
      rw[sB.2 hd] at this;cases this
     | some j =>
      simp only[ak,rp,Vv,Vu,Bool.or_eq_true,Bool.not_eq_true',ng] at hf hv
      rw[<-hv]
      refine h.new j t (by simpa using hf.1) (sB.1 hf.2.1) fun k hk hd=>?_
      have hk:k<ops.length:=by simpa using hk
      rcases hf.2.2 k (List.mem_range.2 hk) with e | e
      ·rw[sB.2 hd] at e;cases e
      ·exact e
    ·have:(t==t')=false:=by simpa using e
     rw[this] at hv
     exact ih (fun q hq=>hM q (by simp[hq])) hv
  exact key _ (fun _ h=>h) hv
 ·obtain ⟨l,l1,l2,l3⟩:=h.st
  refine l3.perm (List.Perm.append_right C (List.Perm.map _ ((List.perm_ext_iff_of_nodup l1 hb3).2 fun x=>?_)))
  rw[l2]
  constructor
  ·rintro ⟨h1,h2⟩
   have:=hb5 x (by
    rcases h1 with h1 | ⟨j,hj,hx⟩
    ·exact aU _ h1
    ·exact aX _ (List.mem_flatMap.2 ⟨j,List.mem_range.2 (by simpa using hj),hx⟩))
   rcases this with h | ⟨j,hj,h⟩
   ·exact h
   ·exact absurd ⟨j,by simpa using List.mem_range.1 hj,h⟩ h2
  ·intro hx
   have:=hb4 x hx
   refine ⟨this.1.imp (fun h=>h) fun ⟨j,hj,e⟩=>⟨j,by simpa using List.mem_range.1 hj,e⟩,fun ⟨j,hj,e⟩=>?_⟩
   exact this.2 j (List.mem_range.2 (by simpa using hj)) e
 ·unfold D.leftOf
  refine Nat.le_trans (List.length_filter_le _ _) (by simp)
 ·have hf: ∀j,(Array.replicate ops.toArray.size false).getD j false=false:=by
   intro j
   rw[Array.getD_eq_getD_getElem?,Array.getElem?_replicate]
   split <;> rfl
  refine ⟨fun i hi=>?_,fun i hi=>?_,ha.1,ha.2.1,fun t v hv _=>ha.2.2 t v hv,fun j t hj=>?_,fun i hi=>?_,p.base,hb1,fun x=>?_,?_⟩
  ·rw[hf] at hi;cases hi
  ·rw[hf] at hi;cases hi
  ·rw[hf] at hj;cases hj
  ·rw[hf] at hi;cases hi
  ·constructor
   ·intro hx
    refine ⟨.inl hx,fun ⟨j,hj,_⟩=>?_⟩
    rw[hf] at hj;cases hj
   ·rintro ⟨h1 | ⟨j,hj,_⟩,_⟩
    ·exact h1
    ·rw[hf] at hj;cases hj
  ·exact (hs.drawn (w':= { w with drawn:=w.drawn+1 }) rfl rfl rfl rfl).perm hp
end
end R
namespace R
open Go.RowKit
open D
def LV.ids:LV->List Nat
 | .val _=>[]
 | .nb _=>[]
 | .rd h _ _=>[h.id]
 | .own h=>[h.id]
 | .ptr h _=>[h.id]
 | .fn h _ _ _=>[h.id]
 | .fz h _ _ _ _=>[h.id]
 | .fzf h _ _ _ _=>[h.id]
 | .rdn h _ _ _=>[h.id]
def Ni:List LV->List Nat
 | [] =>[]
 | x::l=>x.ids++Ni l
def Xo:List (Bool×List LV)->List Nat
 | [] =>[]
 | y::l=>Ni y.2++Xo l
def AV.ids:AV->List Nat
 | .one x=>x.ids
 | .agg xs=>Ni xs
 | .tup ys=>Xo ys
 | .elr h _ _ _ _ _ _=>[h.id]
 | .elo h _ _ _ _ _ _ _=>[h.id]
 | .sub h _ _ _ _ _=>[h.id]
 | .pre h _ _ _ _ _=>[h.id]
 | .vw u h _ _ _ _=>[u.id,h.id]
 | .xv _ u h _ _ _ _=>[u.id,h.id]
 | .capv h _=>[h.id]
 | .any h=>[h.id]
 | .und=>[]
def Chk.ids:Chk->List Nat
 | .own _ _=>[]
 | .blk _ cs=>Ni cs
 | .hole _ _ _ _ _ _ _ _ _ lv=>lv.ids
 | .box _ _ _=>[]
 | .map _ _ _ _ _=>[]
 | .clo _ first capt=>Xo first++Ni capt
def B5 (h:Hdr) (c:Chk):List Nat:=h.id::c.ids
theorem pQ {x:LV} {i:Nat} : ∀ {l:List LV},x∈l->i∈x.ids->i∈Ni l
 | y::l,h,hi=>by
  rcases az h with rfl | h
  ·exact aU _ hi
  ·exact aX _ (pQ h hi)
theorem yC {y:Bool×List LV} {i:Nat} : ∀ {l:List (Bool×List LV)},y∈l->i∈Ni y.2->i∈Xo l
 | z::l,h,hi=>by
  rcases az h with rfl | h
  ·exact aU _ hi
  ·exact aX _ (yC h hi)
section
variable {P:Program} {w0:World} {J:Hp} {θ θ':Th} {n m:Nat} {chs chs':List Ent}
theorem ff {h:Hdr} (k:θ' h.id=θ h.id):hv θ' h=hv θ h:=by unfold hv;rw[k]
theorem LV.v_loc {x:LV} (h: ∀i∈x.ids,θ' i=θ i):x.v θ'=x.v θ:=by
 cases x with
 | val _=>rfl
 | nb _=>rfl
 | rd k t d=>exact ff (h _ (by simp[LV.ids]))
 | own k=>exact ff (h _ (by simp[LV.ids]))
 | ptr k off=>show Value.pointer (some ⟨bk (hv θ' k),off,none⟩)=_;rw[ff (h _ (by simp[LV.ids]))];rfl
 | fn k ps rs e=>exact ff (h _ (by simp[LV.ids]))
 | fz k T t d off=>show Value.pointer (some ⟨bk (hv θ' k),off,none⟩)=_;rw[ff (h _ (by simp[LV.ids]))];rfl
 | fzf k T ps rs e=>show Value.pointer (some ⟨bk (hv θ' k),0,none⟩)=_;rw[ff (h _ (by simp[LV.ids]))];rfl
 | rdn k b t d=>exact ff (h _ (by simp[LV.ids]))
theorem LV.ok_loc {x:LV} (h: ∀i∈x.ids,θ' i=θ i) (k:x.ok P w0 J θ n):x.ok P w0 J θ' n:=by
 cases x with
 | val _=>exact k
 | nb _=>trivial
 | rd g t d=>exact ⟨k.1,by rw[ff (h _ (by simp[LV.ids]))];exact k.2⟩
 | own g=>exact ⟨k.1,by rw[ff (h _ (by simp[LV.ids]))];exact k.2⟩
 | ptr g off=>exact k
 | fn g ps rs e=>exact ⟨k.1,by rw[ff (h _ (by simp[LV.ids]))];exact k.2⟩
 | fz g T t d off=>exact ⟨k.1,by rw[ff (h _ (by simp[LV.ids]))];exact k.2⟩
 | fzf g T ps rs e=>exact ⟨k.1,by rw[ff (h _ (by simp[LV.ids]))];exact k.2⟩
 | rdn g b t d=>exact ⟨k.1,by rw[ff (h _ (by simp[LV.ids]))];exact k.2⟩
theorem Di {xs:List LV} (h: ∀i∈Ni xs,θ' i=θ i):xs.map (·.v θ')=xs.map (·.v θ):=List.map_congr_left fun x hx=>LV.v_loc fun i hi=>h i (pQ hx hi)
theorem Fb {y:Bool×List LV} (hy: ∀i∈Ni y.2,θ' i=θ i):iU θ' y=iU θ y:=by
 unfold iU
 rw[Di hy]
 split
 ·rfl
 ·cases hl:y.2 with
  | nil=>rfl
  | cons x l=>exact LV.v_loc fun i hi=>hy i (by rw[hl];exact aU _ hi)
theorem AV.v_loc {x:AV} (h: ∀i∈x.ids,θ' i=θ i):x.v θ'=x.v θ:=by
 cases x with
 | one x=>exact LV.v_loc h
 | agg xs=>show Value.agg _=Value.agg _;rw[Di h]
 | tup ys =>
  show Value.tuple _=Value.tuple _
  congr 2
  refine List.map_congr_left fun y hy=>?_
  exact Fb fun i hi=>h i (yC hy hi)
 | elr k E t xs x i off=>show pt (hv θ' k) _=_;rw[ff (h _ (by simp[AV.ids]))];rfl
 | elo k ver E t xs x i off=>show pt (hv θ' k) _=_;rw[ff (h _ (by simp[AV.ids]))];rfl
 | sub k ver E t xs l=>show pJ (hv θ' k) _ _ _=_;rw[ff (h _ (by simp[AV.ids]))];rfl
 | pre k ver E t xs l=>show pJ (hv θ' k) _ _ _=_;rw[ff (h _ (by simp[AV.ids]))];rfl
 | vw u k kk N l m=>exact ff (h _ (by simp[AV.ids]))
 | xv top u k kk N l m=>exact ff (h _ (by simp[AV.ids]))
 | capv k c=>rfl
 | any k=>exact ff (h _ (by simp[AV.ids]))
 | und=>rfl
theorem AV.ok_loc {x:AV} (h: ∀i∈x.ids,θ' i=θ i) (k:x.ok P w0 J θ n chs):x.ok P w0 J θ' n chs:=by
 cases x with
 | one x=>exact LV.ok_loc h k
 | agg xs=>exact fun x hx=>LV.ok_loc (fun i hi=>h i (pQ hx hi)) (k x hx)
 | tup ys=>exact fun y hy x hx=>LV.ok_loc (fun i hi=>h i (yC hy (pQ hx hi))) (k y hy x hx)
 | elr g E t xs x i off=>exact ⟨k.1,k.2.1,by rw[ff (h _ (by simp[AV.ids]))];exact k.2.2⟩
 | elo g ver E t xs x i off=>exact k
 | sub g ver E t xs l=>exact k
 | pre g ver E t xs l=>exact k
 | vw u g kk N l m=>exact ⟨k.1,k.2.1,by rw[ff (h _ (by simp[AV.ids])),ff (h _ (by simp[AV.ids]))];exact k.2.2⟩
 | xv top u g kk N l m=>exact ⟨k.1,k.2.1,by rw[ff (h _ (by simp[AV.ids])),ff (h _ (by simp[AV.ids]))];exact k.2.2⟩
 | capv g c=>exact ⟨k.1,by rw[ff (h _ (by simp[AV.ids]))];exact k.2⟩
 | any g=>exact k
 | und=>trivial
theorem Qx {e:Ent} (h: ∀i∈B5 e.1 e.2.2,θ' i=θ i):toCh P θ' e=toCh P θ e:=by
 obtain ⟨k,ver,c⟩:=e
 have hk:hv θ' k=hv θ k:=ff (h _ (by simp[B5]))
 cases c with
 | own t d=>show Ch.own _ [hv θ' k] d=_;rw[hk];rfl
 | blk T cells=>show Ch.blk (bk (hv θ' k)) (cells.map (·.v θ')) T=_;rw[hk,Di fun i hi=>h i (bh _ hi)];rfl
 | hole over t d u y f i kk off lv=>show Ch.gap _ [hv θ' k] _ f (ptB (hv θ' k)) (ptO (hv θ' k)+(i.toNat*kk+off)) (lv.v θ')=_;rw[hk,LV.v_loc fun i hi=>h i (bh _ hi)];rfl
 | box T t d=>show Ch.box (bk (hv θ' k)) T _ d=_;rw[hk];rfl
 | map K E kk e m=>show @Ch.mp P K E kk.den e.den kk.dec kk.lit kk.ok e.lit e.z (hv θ' k) m=_;rw[hk];rfl
 | clo _ _ _=>rfl
theorem UA {e:Ent} (h: ∀i∈B5 e.1 e.2.2,θ' i=θ i) (k:okE P w0 J θ n chs e):okE P w0 J θ' n chs e:=by
 obtain ⟨g,ver,c⟩:=e
 cases c with
 | own t d=>exact k
 | blk T cells=>exact ⟨k.1,k.2.1,fun x hx=>LV.ok_loc (fun i hi=>h i (bh _ (pQ hx hi))) (k.2.2 x hx)⟩
 | hole over t d u y f i kk off lv=>exact ⟨k.1,k.2.1,LV.ok_loc (fun i hi=>h i (bh _ hi)) k.2.2.1,k.2.2.2⟩
 | box T t d=>exact k
 | map K E kk e m=>exact k
 | clo f first capt =>
  obtain ⟨h1,h2,h3,h4,h5⟩:=k
  have hf: ∀y∈first,∀i∈Ni y.2,θ' i=θ i:=fun y hy i hi=>h i (bh _ (aU _ (yC hy hi)))
  have hc: ∀i∈Ni capt,θ' i=θ i:=fun i hi=>h i (bh _ (aX _ hi))
  refine ⟨h1,h2,fun y hy x hx=>LV.ok_loc (fun i hi=>hf y hy i (pQ hx hi)) (h3 y hy x hx),fun x hx=>LV.ok_loc (fun i hi=>hc i (pQ hx hi)) (h4 x hx),?_⟩
  show hv θ' g=_
  rw[ff (h _ (by simp[B5])),Di hc,List.map_congr_left fun y hy=>Fb (hf y hy)]
  exact h5
def AV.elos:AV->List (Hdr×Nat)
 | .elo h ver _ _ _ _ _ _=>[(h,ver)]
 | .sub h ver _ _ _ _=>[(h,ver)]
 | .pre h ver _ _ _ _=>[(h,ver)]
 | _=>[]
def Chk.elos (ver:Nat):Chk->List (Hdr×Nat)
 | .hole _ _ _ _ _ _ _ _ _ (.own l)=>[(l,ver)]
 | _=>[]
theorem LV.ok_le {x:LV} (hm:n<=m) (h:x.ok P w0 J θ n):x.ok P w0 J θ m:=LV.ok_same Same.rfl' hm h Hp.le.rfl
where Same.rfl' {n:Nat} {θ:Th} :Same n θ θ:=fun i hi=>Eq.refl _
theorem AV.ok_move {x:AV} (hn:n<=m) (hm: ∀h ver c,(h,ver)∈x.elos->Mem chs n h ver c-> ∀e∈chs',∀c',Says e h ver c'->c'=c) (k:x.ok P w0 J θ n chs):x.ok P w0 J θ m chs':=by
 cases x with
 | one x=>exact LV.ok_le hn k
 | agg xs=>exact fun x hx=>LV.ok_le hn (k x hx)
 | tup ys=>exact fun y hy x hx=>LV.ok_le hn (k y hy x hx)
 | elr g E t xs x i off=>exact ⟨aJ k.1 hn,k.2⟩
 | elo g ver E t xs x i off=>exact ⟨aJ k.1 hn,k.2.1,aJ k.2.2.1 hn,hm _ _ _ (by simp[AV.elos]) k.2.2⟩
 | sub g ver E t xs l=>exact ⟨aJ k.1 hn,k.2.1,aJ k.2.2.1 hn,hm _ _ _ (by simp[AV.elos]) k.2.2⟩
 | pre g ver E t xs l=>exact ⟨aJ k.1 hn,k.2.1,aJ k.2.2.1 hn,hm _ _ _ (by simp[AV.elos]) k.2.2⟩
 | vw u g kk N l m=>exact ⟨aJ k.1 hn,aJ k.2.1 hn,k.2.2⟩
 | xv top u g kk N l m=>exact ⟨aJ k.1 hn,aJ k.2.1 hn,k.2.2⟩
 | capv g c=>exact ⟨aJ k.1 hn,k.2⟩
 | any g=>exact aJ k hn
 | und=>trivial
theorem IV {e:Ent} (hn:n<=m) (hm: ∀h ver c,(h,ver)∈e.2.2.elos e.2.1->Mem chs n h ver c-> ∀e∈chs',∀c',Says e h ver c'->c'=c) (k:okE P w0 J θ n chs e):okE P w0 J θ m chs' e:=by
 obtain ⟨g,ver,c⟩:=e
 cases c with
 | own t d=>exact ⟨aJ k.1 hn,aJ k.2.1 hn,trivial⟩
 | blk T cells=>exact ⟨aJ k.1 hn,aJ k.2.1 hn,fun x hx=>LV.ok_le hn (k.2.2 x hx)⟩
 | hole over t d u y f i kk off lv =>
  refine ⟨aJ k.1 hn,aJ k.2.1 hn,LV.ok_le hn k.2.2.1,k.2.2.2.1,k.2.2.2.2.1,fun l hl=>?_⟩
  have:=k.2.2.2.2.2 l hl
  exact ⟨aJ this.1 hn,hm _ _ _ (by subst hl;simp[Chk.elos]) this⟩
 | box T t d=>exact ⟨aJ k.1 hn,aJ k.2.1 hn,trivial⟩
 | map K E kk e m=>exact ⟨aJ k.1 hn,aJ k.2.1 hn,trivial⟩
 | clo f first capt=>exact ⟨aJ k.1 hn,aJ k.2.1 hn,fun y hy x hx=>LV.ok_le hn (k.2.2.1 y hy x hx),fun x hx=>LV.ok_le hn (k.2.2.2.1 x hx),k.2.2.2.2⟩
end
structure TR where
 i:Nat
 o:Oper
 b:List Nat
 s:Sg
 r:Res
 run:Bool
def j5 (n0:Nat) (x:TR):List Ent:=x.r.gives.map fun g=>(g.1,n0+x.i,g.2)
def zG (n0:Nat) (env:List (Nat×Nat×AV)):List TR->List (Nat×Nat×AV)
 | [] =>env
 | x::l=>LA x.o.dst (n0+x.i) x.r.av (zG n0 env l)
def gQ (n0:Nat) (chs:List Ent):List TR->List Ent
 | [] =>chs
 | x::l=>j5 n0 x++gQ n0 chs l
def sameKey (a b:Ent):Bool:=Nat.beq a.2.1 b.2.1&&Hdr.beq a.1 b.1
def Wm (e:Ent) (l:List TR):Bool:=l.any fun x=>x.r.ns.any fun e'=>sameKey e' e
def inB (n0:Nat) (b:List Nat) (v:Nat):Bool:=Nat.blt v n0 || uN (v - n0) b
def subS (s0:Sg) (l:List TR) (i:Nat) (b:List Nat):Sg:=
 ⟨(zG s0.nxt s0.env l).filter fun e=>inB s0.nxt b e.2.1,(gQ s0.nxt s0.chs l).filter fun e=>inB s0.nxt b e.2.1 && !Wm e l,s0.nxt+i⟩
def Qy (s0:Sg) (l:List TR):Sg:=subS s0 l l.length (List.range l.length)
def recAt (i:Nat):List TR->Option TR
 | [] =>none
 | x::l=>if Nat.beq x.i i then some x else recAt i l
def Xp (t:Nat) (l:List Nat):List Nat:=if uN t l then l else t::l
def Fc:List Nat->List Nat->List Nat
 | [],acc=>acc
 | t::l,acc=>Fc l (Xp t acc)
def bOf (l:List TR):List Nat->List Nat->List Nat
 | [],acc=>acc
 | j::js,acc=>bOf l js (Fc (match recAt j l with | some y=>y.b | none=>[]) (Xp j acc))
def splitB {Y:Type} (g:Bool) (av:AV) (k:AV->Option Y):Option Y:=match g with
 | false=>k av
 | true=>match av with
  | .one (.val (.bool b))=>if b then k (.one (.val (.bool true))) else k (.one (.val (.bool false)))
  | .one (.nb b)=>if b then k (.one (.val (.bool false))) else k (.one (.val (.bool true)))
  | _=>none
def Nj (ops:List Oper) (i:Nat):Bool:=match ops with
 | [] =>false
 | o::ops=>(match o.guard with | some (g,_)=>Nat.beq g i | none=>false) || Nj ops i
section
variable {Y:Type} (V:Env) (ops:List Oper) (s0:Sg) (k:List TR->Option Y)
def X4 (o:Oper) (i:Nat) (l:List TR) (b:List Nat) (s:Sg):Option Y:=
 bR (okO V.n s o) (step V s (fun r=>splitB (Nj ops i) r.av fun av=>k (⟨i,o,b,s,⟨r.rs,r.ns,r.rest,r.gives,av⟩,true⟩::l)) o)
def UB (o:Oper) (i:Nat) (l:List TR) (b:List Nat) (s:Sg):Option Y:=
 k (⟨i,o,b,s,⟨[],[],s.chs,[],.und⟩,false⟩::l)
def opD (o:Oper) (i:Nat) (l:List TR) (b:List Nat) (s:Sg):Option Y:=match o.guard with
 | none=>X4 V ops k o i l b s
 | some (g,want)=>match recAt g l with
  | some y=>match y.r.av with
   | .one (.val (.bool c))=>match c==want with
    | true=>X4 V ops k o i l b s
    | false=>UB k o i l b s
   | .und=>UB k o i l b s
   | _=>none
  | none=>none
def goD:List Oper->Nat->List TR->Option Y
 | [],_,l=>k l
 | o::os,i,l=>(fun b=>opD V ops (goD os (i+1)) o i l b (subS s0 l i b)) (bOf l (edgesOf o) [])
end
def GdOk (l:List TR) (x:TR):Prop:=match x.o.guard with
 | none=>x.run=true
 | some (g,want)=> ∃y∈l,y.i=g/\((∃c:Bool,y.r.av= .one (.val (.bool c))/\x.run=(c==want))\/(y.r.av= .und/\x.run=false))
structure RecOk (P:Program) (w0:World) (n:Nat) (s0:Sg) (ops:List Oper) (l:List TR) (x:TR):Prop where
 hi:x.i=l.length
 ho:ops[x.i]? =some x.o
 hb:x.b=bOf l (edgesOf x.o) []
 hs:x.s=subS s0 l x.i x.b
 good:x.run=true->Good P w0 x.s x.o x.r/\okO n x.s x.o=true
 skip:x.run=false->x.r=⟨[],[],x.s.chs,[],.und⟩
 gd:GdOk l x
def AllOk (P:Program) (w0:World) (n:Nat) (s0:Sg) (ops:List Oper):List TR->Prop
 | [] =>True
 | x::l=>RecOk P w0 n s0 ops l x/\AllOk P w0 n s0 ops l
section
variable {Y:Type} {V:Env} {P:Program} {w0:World} {ops:List Oper} {s0:Sg} {k:List TR->Option Y} {res:Y}
theorem yD {i:Nat} {y:TR} : ∀ {l:List TR},recAt i l=some y->y∈l/\y.i=i
 | x::l,h=>by
  unfold recAt at h
  split at h
  ·rename_i hx
   obtain rfl:=ae h
   exact ⟨by simp,au hx⟩
  ·obtain ⟨h1,h2⟩:=yD h
   exact ⟨by simp[h1],h2⟩
theorem sC {s:Sg} {o:Oper} {r:Res} {av:AV} (h:Good P w0 s o r) (hv: ∀θ,av.v θ=r.av.v θ) (hok: ∀(J:Hp) (θ:Th) n chs,av.ok P w0 J θ n chs):Good P w0 s o ⟨r.rs,r.ns,r.rest,r.gives,av⟩:=
 ⟨h.perm,h.says,fun J θ hf=>OpT.weak (h.op J θ hf) (fun v hv'=>⟨hok _ _ _ _,(hv _).trans hv'.2.1,hv'.2.2⟩) (fun v _=>rfl)⟩
theorem Nk {g:Bool} {s:Sg} {o:Oper} {r:Res} {f:AV->Option Y} (h:splitB g r.av f=some res) (hG:Good P w0 s o r): ∃av,f av=some res/\Good P w0 s o ⟨r.rs,r.ns,r.rest,r.gives,av⟩:=by
 unfold splitB at h
 split at h
 ·exact ⟨r.av,h,hG⟩
 ·split at h
  ·rename_i b hb
   cases b with
   | true=>exact ⟨_,h,sC hG (fun θ=>by rw[hb]) fun _ _ _ _=>Eq.refl true⟩
   | false=>exact ⟨_,h,sC hG (fun θ=>by rw[hb]) fun _ _ _ _=>Eq.refl true⟩
  ·rename_i b hb
   cases b with
   | true=>exact ⟨_,h,sC hG (fun θ=>by rw[hb];rfl) fun _ _ _ _=>Eq.refl true⟩
   | false=>exact ⟨_,h,sC hG (fun θ=>by rw[hb];rfl) fun _ _ _ _=>Eq.refl true⟩
  ·cases h
theorem Nl (hT:TTok P V.tt) (hF:FTok P V.ft): ∀ {os:List Oper} {i:Nat} {l:List TR},goD V ops s0 k os i l=some res->i=l.length->ops.drop i=os->AllOk P w0 V.n s0 ops l-> ∃l',k l'=some res/\AllOk P w0 V.n s0 ops l'/\l'.length=ops.length
 | [],i,l,h,hi,hd,ha=>⟨l,h,ha,by
  have h1:=List.drop_eq_nil_iff.1 hd
  have: ∀ {l:List TR},AllOk P w0 V.n s0 ops l->l.length<=ops.length:=by
   intro l
   induction l with
   | nil=>intro _;exact Nat.zero_le _
   | cons x l ih =>
    rintro ⟨hx,hl⟩
    have:=(List.getElem?_eq_some_iff.1 hx.ho).1
    rw[hx.hi] at this
    exact this
  have:=this ha
  omega⟩
 | o::os,i,l,h,hi,hd,ha=>by
  have ho:ops[i]? =some o:=by
   have:=congrArg (·[0]?) hd
   simpa using this
  have hd':ops.drop (i+1)=os:=by
   rw[<-List.drop_drop,hd];rfl
  have h:opD V ops (goD V ops s0 k os (i+1)) o i l (bOf l (edgesOf o) []) (subS s0 l i (bOf l (edgesOf o) []))=some res:=h
  have run:(GdOk l ⟨i,o,bOf l (edgesOf o) [],subS s0 l i (bOf l (edgesOf o) []),⟨[],[],[],[],.und⟩,true⟩)->X4 V ops (goD V ops s0 k os (i+1)) o i l (bOf l (edgesOf o) []) (subS s0 l i (bOf l (edgesOf o) []))=some res-> ∃l',k l'=some res/\AllOk P w0 V.n s0 ops l'/\l'.length=ops.length:=by
   intro hg h
   obtain ⟨hk,h⟩:=aj h
   obtain ⟨r,hr,hG⟩:=Na (w0:=w0) hT hF h
   obtain ⟨av,h,hG⟩:=Nk hr hG
   exact Nl hT hF h (by rw[hi];rfl) hd' ⟨⟨hi,ho,rfl,rfl,fun _=>⟨hG,hk⟩,fun e=>(by cases e),hg⟩,ha⟩
  have skp:(GdOk l ⟨i,o,bOf l (edgesOf o) [],subS s0 l i (bOf l (edgesOf o) []),⟨[],[],[],[],.und⟩,false⟩)->UB (goD V ops s0 k os (i+1)) o i l (bOf l (edgesOf o) []) (subS s0 l i (bOf l (edgesOf o) []))=some res-> ∃l',k l'=some res/\AllOk P w0 V.n s0 ops l'/\l'.length=ops.length:=by
   intro hg h
   exact Nl hT hF h (by rw[hi];rfl) hd' ⟨⟨hi,ho,rfl,rfl,fun e=>(by cases e),fun _=>rfl,hg⟩,ha⟩
  unfold opD at h
  split at h
  ·rename_i hg
   exact run (by unfold GdOk;simp only[hg]) h
  ·rename_i g want hg
   split at h
   ·rename_i y hy
    obtain ⟨hy1,hy2⟩:=yD hy
    split at h
    ·rename_i c hc
     split at h
     ·rename_i hcw
      exact run (by unfold GdOk;simp only[hg];exact ⟨y,hy1,hy2,.inl ⟨c,hc,hcw.symm⟩⟩) h
     ·rename_i hcw
      exact skp (by unfold GdOk;simp only[hg];exact ⟨y,hy1,hy2,.inl ⟨c,hc,hcw.symm⟩⟩) h
    ·rename_i hc
     exact skp (by unfold GdOk;simp only[hg];exact ⟨y,hy1,hy2,.inr ⟨hc,trivial⟩⟩) h
    ·cases h
   ·cases h
end
end R
namespace R
open Go.RowKit
open D
def zH (l:List (Nat×Nat×AV)) (t:Nat):Option Nat:=match l with
 | [] =>none
 | (u,k,_)::l=>if Nat.beq u t then some k else zH l t
def numOf (e:Ent):List Ent->Nat
 | [] =>0
 | x::l=>if sameKey x e then 0 else numOf e l+1
def R9 (n0 v:Nat):Option Nat:=if Nat.blt v n0 then none else some (v - n0)
def Fe (n0:Nat) (env:List (Nat×Nat×AV)):List Nat->List (Nat×Option Nat)
 | [] =>[]
 | t::l=>match zH env t with
  | some v=>(t,R9 n0 v)::Fe n0 env l
  | none=>Fe n0 env l
def opK (n0:Nat) (T:List Ent) (ops:Array Oper) (x:TR):OpK:=⟨x.r.rs.map (numOf · T),x.r.ns.map (numOf · T),(j5 n0 x).map (numOf · T),Fe n0 x.s.env (slotsOf ops x.o)⟩
def Nm (n0:Nat):List (Nat×Nat×AV)->List Nat->List (Nat×Option Nat)
 | [],_=>[]
 | e::l,seen=>match uN e.1 seen with
  | true=>Nm n0 l seen
  | false=>(e.1,R9 n0 e.2.1)::Nm n0 l (e.1::seen)
def oi (s0:Sg) (ops:List Oper) (l:List TR) (T:List Ent):Skel:=
 ⟨(l.map (opK s0.nxt T ops.toArray)).reverse,T.length,s0.chs.map (numOf · T),(l.map (·.b)).reverse,Nm s0.nxt (Qy s0 l).env [],(Qy s0 l).chs.map (numOf · T)⟩
def gV:List Ent->Bool
 | [] =>true
 | e::l=> !(l.any fun x=>sameKey x e)&&gV l
def lQ:List Ent->Bool
 | [] =>true
 | e::l=>Bd e.1 l&&lQ l
def UC (h:Hdr) (ver:Nat) (e:Ent):Bool:=Hdr.beq e.1 h&&(Nat.beq e.2.1 ver || match e.2.2 with
 | .hole over _ _ _ _ _ _ _ _ _=>Nat.beq over ver
 | _=>false)
def allowed (n0:Nat) (x:TR) (v:Nat):Bool:=Nat.blt v n0 || (Nat.beq (v - n0) x.i || uN (v - n0) x.b)
def Sa (n0:Nat) (x:TR):List (Hdr×Nat):=x.r.av.elos++x.r.gives.flatMap fun g=>g.2.elos (n0+x.i)
def Qz (x:TR):List Nat:=x.r.av.ids++x.r.gives.flatMap fun g=>B5 g.1 g.2
def zI (n0:Nat) (x:TR):Bool:=Ba (Qz x) (allowed n0 x)&&(Sa n0 x).all fun q=>(x.r.chs (n0+x.i)).any (UC q.1 q.2) || (Nat.beq q.2 (n0+x.i) && !(x.r.gives.any fun g=>Hdr.beq g.1 q.1))
def knS (s0:Sg) (t:Nat):Bool:=(look s0.env t).isSome
def Sb (n:Nat) (s0:Sg) (ops:List Oper) (l:List TR) (T:List Ent):Bool:=lQ s0.chs&&(gV T&&(l.all (zI s0.nxt)&&((oi s0 ops l T).ok n (knS s0) ops&&(oi s0 ops l T).okB (knS s0) ops)))
section
variable {Y:Type} (V:Env)
def zJ (s0:Sg):List Oper->List Hdr
 | [] =>[]
 | o::os=>B3 s0 o.op.operands.toList++zJ s0 os
def IW (ops:List Oper) (k:Sg->Option Y) (s0:Sg):Option Y:=goD V ops s0 (fun l=>bR (Sb V.n s0 ops l (gQ s0.nxt s0.chs l)) (k (Qy s0 l))) ops 0 []
def Sc (tr:Trs) (s0:Sg):List Oper->List (Bool×Hdr)
 | [] =>[]
 | o::os=>ldF tr s0 o++(YU tr s0 o++Sc tr s0 os)
def IX (tr:Trs) (ops:List Oper) (s:Sg):Sg:=match tr with
 | [] =>s
 | _=>PR tr (Sc tr s ops) s
def X5 (o:Oper):Bool:=match o.op with
 | .indexAddr _ _ _=>true
 | _=>false
def isApp (o:Oper):Bool:=match o.op with
 | .buildSlice _ _ _=>true
 | _=>false
def Xq (s:Sg):List Oper->List Hdr
 | [] =>[]
 | o::os=>match o.op with
  | .move x=>match opd s x with
   | some (.one (.own h))=>h::Xq s os
   | _=>Xq s os
  | _=>Xq s os
def Dj:List Hdr->Sg->Sg
 | [],s=>s
 | h::hs,s=>Dj hs (wv h s)
def vq (ops:List Oper) (s:Sg):Sg:=match ops.any X5 && !ops.any isApp with
 | true=>Dj (Xq s ops) s
 | false=>s
def QA (tr:Trs) (ops:List Oper) (s0:Sg):Sg:=match vq ops (qS s0) with
 | s=>IX tr ops (vn (zJ s ops) s)
def UD (ops:List Oper) (k:Sg->Option Y) (s:Sg):Option Y:=IW V ops k (QA V.tr ops s)
end
theorem wz {a b:Ent} :sameKey a b=true↔a.2.1=b.2.1/\a.1=b.1:=by
 unfold sameKey
 rw[ak,Vu]
 constructor
 ·rintro ⟨h1,h2⟩;exact ⟨h1,Hdr.beq_eq h2⟩
 ·rintro ⟨h1,h2⟩;exact ⟨h1,by rw[h2];exact CU _⟩
theorem xl {l:List Ent} :gV l=true-> ∀a∈l,∀b∈l,a.2.1=b.2.1->a.1=b.1->a=b:=by
 induction l with
 | nil=>intro _ a ha;cases ha
 | cons e l ih =>
  intro h a ha b hb
  unfold gV at h
  rw[ak,Bool.not_eq_true'] at h
  obtain ⟨h1,h2⟩:=h
  have key: ∀x∈l,¬(x.2.1=e.2.1/\x.1=e.1):=fun x hx hk=>by
   have:(l.any fun x=>sameKey x e)=true:=List.any_eq_true.2 ⟨x,hx,wz.2 hk⟩
   rw[h1] at this;cases this
  intro k1 k2
  rcases az ha with ha' | ha'
  ·rcases az hb with hb' | hb'
   ·rw[ha',hb']
   ·rw[ha'] at k1 k2;exact absurd ⟨k1.symm,k2.symm⟩ (key b hb')
  ·rcases az hb with hb' | hb'
   ·rw[hb'] at k1 k2;exact absurd ⟨k1,k2⟩ (key a ha')
   ·exact ih h2 a ha' b hb' k1 k2
theorem Ff {l:List Ent} :lQ l=true-> ∀a∈l,∀b∈l,a.1=b.1->a=b:=by
 induction l with
 | nil=>intro _ a ha;cases ha
 | cons e l ih =>
  intro h a ha b hb
  unfold lQ at h
  rw[ak] at h
  obtain ⟨h1,h2⟩:=h
  intro k
  rcases az ha with ha' | ha'
  ·rcases az hb with hb' | hb'
   ·rw[ha',hb']
   ·rw[ha'] at k;exact absurd k.symm (oc h1 hb')
  ·rcases az hb with hb' | hb'
   ·rw[hb'] at k;exact absurd k (oc h1 ha')
   ·exact ih h2 a ha' b hb' k
theorem sD {e:Ent} : ∀ {T:List Ent},gV T=true->e∈T->T[numOf e T]? =some e
 | x::T,hd,he=>by
  unfold numOf
  split
  ·rename_i hk
   obtain ⟨k1,k2⟩:=wz.1 hk
   exact congrArg some (xl hd x (by simp) e he k1 k2)
  ·rename_i hk
   have hd':=hd
   unfold gV at hd'
   rw[ak] at hd'
   rcases az he with rfl | he
   ·exact absurd (wz.2 ⟨rfl,rfl⟩) hk
   ·exact sD hd'.2 he
theorem QB {h:Hdr} {ver:Nat} {e:Ent} (k:UC h ver e=true): ∃c,Says e h ver c:=by
 unfold UC at k
 rw[ak,Bool.or_eq_true] at k
 obtain ⟨h1,h2⟩:=k
 have h1:=Hdr.beq_eq h1
 obtain ⟨g,v,c⟩:=e
 rcases h2 with h2 | h2
 ·exact ⟨c,h1,.inl ⟨au h2,rfl⟩⟩
 ·cases c with
  | hole over t d u y f i kk off lv=>exact ⟨.own t d,h1,.inr ⟨au h2,rfl⟩⟩
  | _=>cases h2
section
variable {P:Program} {w0:World} {n:Nat} {s0:Sg} {ops:List Oper} {l:List TR}
theorem AllOk.lt:AllOk P w0 n s0 ops l-> ∀y∈l,y.i<l.length:=by
 induction l with
 | nil=>intro _ y hy;cases hy
 | cons w l ih =>
  rintro ⟨e1,e2⟩ y hy
  rcases az hy with rfl | hy
  ·rw[e1.hi,al];omega
  ·have:=ih e2 y hy
   rw[al];omega
theorem AllOk.uniq:AllOk P w0 n s0 ops l-> ∀x∈l,∀y∈l,x.i=y.i->x=y:=by
 induction l with
 | nil=>intro _ y hy;cases hy
 | cons w l ih =>
  rintro ⟨e1,e2⟩ x hx y hy h
  have hw:=e1.hi
  rcases az hx with hx | hx
  ·rcases az hy with hy | hy
   ·rw[hx,hy]
   ·have:=e2.lt y hy
    rw[hx] at h;omega
  ·rcases az hy with hy | hy
   ·have:=e2.lt x hx
    rw[hy] at h;omega
   ·exact ih e2 x hx y hy h
theorem AllOk.get {x:TR} :AllOk P w0 n s0 ops l->x∈l-> ∃l1,RecOk P w0 n s0 ops l1 x/\AllOk P w0 n s0 ops l1/\(∀y∈l1,y∈l)/\ ∀y∈l,y.i<x.i->y∈l1:=by
 induction l with
 | nil=>intro _ hx;cases hx
 | cons z l ih =>
  rintro ⟨h1,h2⟩ hx
  rcases az hx with hx | hx
  ·subst hx
   exact ⟨l,h1,h2,fun y hy=>by simp[hy],fun y hy hlt=>by
    rcases az hy with hy | hy
    ·rw[hy] at hlt;exact absurd hlt (Nat.lt_irrefl _)
    ·exact hy⟩
  ·obtain ⟨l1,k1,k2,k3,k4⟩:=ih h2 hx
   refine ⟨l1,k1,k2,fun y hy=>by simp[k3 y hy],fun y hy hlt=>?_⟩
   rcases az hy with hy | hy
   ·exfalso
    have h3:=h2.lt x hx
    have h4:=h1.hi
    rw[hy] at hlt
    omega
   ·exact k4 y hy hlt
theorem AllOk.at {α:Type} (f:TR->α):AllOk P w0 n s0 ops l-> ∀i,i<l.length-> ∃x∈l,x.i=i/\(l.map f).reverse[i]? =some (f x):=by
 induction l with
 | nil=>intro _ i hi;cases hi
 | cons w l ih =>
  rintro ⟨e1,e2⟩ i hi
  rw[List.map_cons,List.reverse_cons]
  by_cases h:i<l.length
  ·obtain ⟨x,hx,h1,h2⟩:=ih e2 i h
   exact ⟨x,by simp[hx],h1,by rw[List.getElem?_append_left (by simpa using h)];exact h2⟩
  ·have h3:i=l.length:=by rw[al] at hi;omega
   subst h3
   refine ⟨w,by simp,e1.hi,?_⟩
   rw[List.getElem?_append_right (by simp)];simp
theorem AllOk.opAt (ha:AllOk P w0 n s0 ops l) {x:TR} (hx:x∈l) (T:List Ent):(oi s0 ops l T).op x.i=opK s0.nxt T ops.toArray x/\(oi s0 ops l T).before x.i=x.b:=by
 have hlt:=ha.lt x hx
 obtain ⟨y,hy,h1,h2⟩:=ha.at (opK s0.nxt T ops.toArray) x.i hlt
 obtain ⟨z,hz,h3,h4⟩:=ha.at (·.b) x.i hlt
 obtain rfl:=ha.uniq y hy x hx h1
 obtain rfl:=ha.uniq z hz y hx h3
 constructor
 ·show (l.map (opK s0.nxt T ops.toArray)).reverse.getD z.i _=_
  rw[List.getD_eq_getElem?_getD,h2];rfl
 ·show (l.map (·.b)).reverse.getD z.i [] =_
  rw[List.getD_eq_getElem?_getD,h4];rfl
theorem j6 {n0:Nat} {chs:List Ent} {e:Ent} : ∀ {l:List TR},e∈gQ n0 chs l↔e∈chs\/ ∃x∈l,e∈j5 n0 x
 | [] =>by simp[gQ]
 | y::l=>by
  unfold gQ
  rw[List.mem_append,j6 (l:=l)]
  constructor
  ·rintro (h | h | ⟨x,hx,h⟩)
   ·exact .inr ⟨y,by simp,h⟩
   ·exact .inl h
   ·exact .inr ⟨x,by simp[hx],h⟩
  ·rintro (h | ⟨x,hx,h⟩)
   ·exact .inr (.inl h)
   ·rcases az hx with rfl | hx
    ·exact .inl h
    ·exact .inr (.inr ⟨x,hx,h⟩)
theorem iV {n0:Nat} {x:TR} {e:Ent} (h:e∈j5 n0 x):e.2.1=n0+x.i/\(e.1,e.2.2)∈x.r.gives:=by
 obtain ⟨g,hg,rfl⟩:=List.mem_map.1 h
 exact ⟨rfl,hg⟩
theorem ua {n0:Nat} {env:List (Nat×Nat×AV)} {e:Nat×Nat×AV} : ∀ {l:List TR},e∈zG n0 env l->e∈env\/ ∃x∈l,x.o.dst=some e.1/\e.2.1=n0+x.i/\e.2.2=x.r.av
 | [],h=>.inl h
 | y::l,h=>by
  unfold zG LA at h
  split at h
  ·rename_i d hd
   rcases az h with rfl | h
   ·exact .inr ⟨y,by simp,hd,rfl,rfl⟩
   ·exact (ua h).imp id fun ⟨x,hx,k⟩=>⟨x,by simp[hx],k⟩
  ·exact (ua h).imp id fun ⟨x,hx,k⟩=>⟨x,by simp[hx],k⟩
theorem Nn {n0:Nat} {b:List Nat} {v:Nat} :inB n0 b v=true↔v<n0\/v - n0∈b:=by unfold inB;rw[Bool.or_eq_true,Vv,ng]
theorem wA {i:Nat} {b:List Nat} {e:Ent} (h:e∈(subS s0 l i b).chs):e∈gQ s0.nxt s0.chs l/\(e.2.1<s0.nxt\/e.2.1 - s0.nxt∈b):=by
 obtain ⟨h1,h2⟩:=List.mem_filter.1 h
 rw[ak] at h2
 exact ⟨h1,Nn.1 h2.1⟩
theorem Dk {i:Nat} {b:List Nat} {e:Nat×Nat×AV} (h:e∈(subS s0 l i b).env):e∈zG s0.nxt s0.env l/\(e.2.1<s0.nxt\/e.2.1 - s0.nxt∈b):=by
 obtain ⟨h1,h2⟩:=List.mem_filter.1 h
 exact ⟨h1,Nn.1 h2⟩
def qV (θ:Th) (n0:Nat) (vs:Nat->Value):Th:=fun id=>if id<n0 then θ id else vs (id - n0)
theorem nh {θ:Th} {n0:Nat} {vs:Nat->Value} :Same n0 θ (qV θ n0 vs):=fun i hi=>if_pos hi
theorem QC {θ:Th} {n0 i:Nat} {vs:Nat->Value} {v:Value} :qV θ n0 (upd vs i v)=upd (qV θ n0 vs) (n0+i) v:=by
 funext id
 show (if id<n0 then θ id else if id - n0=i then v else vs (id - n0))=if id=n0+i then v else if id<n0 then θ id else vs (id - n0)
 by_cases h:id<n0
 ·rw[if_pos h,if_neg (show¬id=n0+i by omega),if_pos h]
 ·rw[if_neg h]
  by_cases h2:id=n0+i
  ·rw[if_pos h2,if_pos (show id - n0=i by omega)]
  ·rw[if_neg h2,if_neg h,if_neg (show¬id - n0=i by omega)]
def Vx (P:Program) (w0:World) (J:Hp) (θ:Th) (n0:Nat) (x:TR) (v:Value):Prop:=
 x.r.av.ok P w0 J θ (n0+x.i+1) (x.r.chs (n0+x.i))/\x.r.av.v θ=v/\ ∀g∈x.r.gives,okE P w0 J θ (n0+x.i+1) (x.r.chs (n0+x.i)) (g.1,n0+x.i,g.2)
end
section
variable {P:Program} {w0:World} {n:Nat} {s0:Sg} {ops:List Oper} {l:List TR} {J:Hp} {θ:Th} {vs:Nat->Value}
def K9 (s0:Sg) (l:List TR) (h:Hdr) (ver:Nat) (c:Chk):Prop:=(∃e0∈s0.chs,Says e0 h ver c)\/ ∃x∈l,(h,ver,c)∈j5 s0.nxt x
theorem G8 {e:Ent} {h:Hdr} {ver:Nat} {c:Chk} {chs:List Ent} {m:Nat} (k:okE P w0 J θ m chs e) (hs:Says e h ver c):ver<m:=by
 obtain ⟨g,v,x⟩:=e
 obtain ⟨-,hs⟩:=hs
 rcases hs with ⟨h1,-⟩ | hs
 ·rw[<-h1];exact k.2.1
 ·cases x with
  | hole over t d u y f i kk off lv =>
   rw[<-hs.1]
   exact Nat.lt_trans k.2.2.2.1 k.2.1
  | _=>exact hs.elim
theorem UE (hB:lQ s0.chs=true) (hK:gV (gQ s0.nxt s0.chs l)=true) (hf:Fine P w0 J θ s0) {h:Hdr} {ver:Nat} {c c':Chk} (h1:K9 s0 l h ver c) (h2:K9 s0 l h ver c'):c=c':=by
 have base: ∀e1∈s0.chs,∀e2∈s0.chs,∀c c',Says e1 h ver c->Says e2 h ver c'->c=c':=by
  intro e1 he1 e2 he2 c c' k1 k2
  obtain rfl:=Ff hB e1 he1 e2 he2 (k1.1.trans k2.1.symm)
  have hok:=hf.chs e1 he1
  obtain ⟨g,v,x⟩:=e1
  rcases k1.2 with ⟨a1,a2⟩ | a
  ·rcases k2.2 with ⟨b1,b2⟩ | b
   ·rw[a2,b2]
   ·cases x with
    | hole over t d u y f i kk off lv =>
     have:=hok.2.2.2.1
     have e1:v=ver:=a1
     have e2:over=ver:=b.1
     exfalso
     have:over<v:=this
     omega
    | _=>exact b.elim
  ·rcases k2.2 with ⟨b1,b2⟩ | b
   ·cases x with
    | hole over t d u y f i kk off lv =>
     have:=hok.2.2.2.1
     have e1:v=ver:=b1
     have e2:over=ver:=a.1
     exfalso
     have:over<v:=this
     omega
    | _=>exact a.elim
   ·cases x with
    | hole over t d u y f i kk off lv=>rw[a.2,b.2]
    | _=>exact a.elim
 rcases h1 with ⟨e1,he1,k1⟩ | ⟨x,hx,k1⟩
 ·rcases h2 with ⟨e2,he2,k2⟩ | ⟨y,hy,k2⟩
  ·exact base e1 he1 e2 he2 c c' k1 k2
  ·have:=G8 (hf.chs e1 he1) k1
   have:=(iV k2).1
   exfalso;simp only at this;omega
 ·rcases h2 with ⟨e2,he2,k2⟩ | ⟨y,hy,k2⟩
  ·have:=G8 (hf.chs e2 he2) k2
   have:=(iV k1).1
   exfalso;simp only at this;omega
  ·have:=xl hK _ (j6.2 (.inr ⟨x,hx,k1⟩)) _ (j6.2 (.inr ⟨y,hy,k2⟩)) rfl rfl
   exact congrArg (fun e=>e.2.2) this
theorem IY (hB:lQ s0.chs=true) (hK:gV (gQ s0.nxt s0.chs l)=true) (hf:Fine P w0 J θ s0) (ha:AllOk P w0 n s0 ops l) (hc: ∀x∈l,zI s0.nxt x=true)
  (L1:List TR) (hL: ∀y∈L1,y∈l) (b:List Nat) (i:Nat) (hbi: ∀j∈b,j<i)
  (hfact: ∀y∈l,y.i∈b->Vx P w0 J (qV θ s0.nxt vs) s0.nxt y (vs y.i))
  (horig: ∀y∈l,y.i∈b-> ∀e∈j5 s0.nxt y,∀h ver c,Says e h ver c->K9 s0 l h ver c)
  (hback: ∀y∈l,y.i∈b-> ∀e∈y.r.chs (s0.nxt+y.i),∀h ver c,Says e h ver c->K9 s0 l h ver c)
  (hnd:(zG s0.nxt s0.env L1).Pairwise fun a b=>a.2.1≠b.2.1):Fine P w0 J (qV θ s0.nxt vs) (subS s0 L1 i b):=by
 have own: ∀e∈(subS s0 L1 i b).chs,∀h ver c,Says e h ver c->K9 s0 l h ver c:=by
  intro e he h ver c hs
  obtain ⟨h1,h2⟩:=wA he
  rcases j6.1 h1 with h1 | ⟨y,hy,h1⟩
  ·exact .inl ⟨e,h1,hs⟩
  ·have hv:=(iV h1).1
   rcases h2 with h2 | h2
   ·omega
   ·exact horig y (hL y hy) (by rw[hv,Nat.add_sub_cancel_left] at h2;exact h2) e h1 h ver c hs
 have mem0: ∀h ver c,Mem s0.chs s0.nxt h ver c-> ∀e∈(subS s0 L1 i b).chs,∀c',Says e h ver c'->c'=c:=by
  intro h ver c hm e he c' hs
  rcases own e he h ver c' hs with ⟨e0,he0,k⟩ | ⟨y,hy,k⟩
  ·exact hm.2 e0 he0 c' k
  ·have:=(iV k).1
   have:=hm.1
   exfalso;simp only at *;omega
 have memj: ∀y∈l,y.i∈b-> ∀h ver,(h,ver)∈Sa s0.nxt y-> ∀c,Mem (y.r.chs (s0.nxt+y.i)) (s0.nxt+y.i+1) h ver c-> ∀e∈(subS s0 L1 i b).chs,∀c',Says e h ver c'->c'=c:=by
  intro y hy hyb h ver hel c hm e he c' hs
  have hch:=hc y hy
  unfold zI at hch
  rw[ak] at hch
  have:=(List.all_eq_true.1 hch.2) (h,ver) hel
  rcases Bool.or_eq_true_iff.1 this with this | this
  rotate_left
  ·rw[ak,Bool.not_eq_true'] at this
   have hver:ver=s0.nxt+y.i:=au this.1
   rcases own e he h ver c' hs with ⟨e0,he0,k⟩ | ⟨z,hz,k⟩
   ·have:=G8 (hf.chs e0 he0) k
    omega
   ·obtain ⟨k1,k2⟩:=iV k
    have k1:ver=s0.nxt+z.i:=k1
    obtain rfl:=AllOk.uniq ha z hz y hy (by omega)
    have:(z.r.gives.any fun g=>Hdr.beq g.1 h)=true:=List.any_eq_true.2 ⟨_,k2,CU h⟩
    simp_all
  obtain ⟨e1,he1,hk⟩:=List.any_eq_true.1 this
  obtain ⟨c1,hs1⟩:=QB hk
  have hc1:=hm.2 e1 he1 c1 hs1
  subst hc1
  exact UE hB hK hf (own e he h ver c' hs) (hback y hy hyb e1 he1 h ver c1 hs1)
 refine ⟨fun e he=>?_,fun e he=>?_,List.Pairwise.filter _ hnd,fun e he=>?_,hf.lay⟩
 ·obtain ⟨h1,h2⟩:=Dk he
  rcases ua h1 with h1 | ⟨y,hy,k1,k2,k3⟩
  ·have:=hf.env e h1
   refine AV.ok_move (n:=s0.nxt) (Nat.le_add_right _ _) (fun h ver c _ hm=>mem0 h ver c hm) ?_
   exact AV.ok_same nh (aE _) Newer.rfl this Hp.le.rfl
  ·rcases h2 with h2 | h2
   ·omega
   ·have hyb:y.i∈b:=by rw[k2,Nat.add_sub_cancel_left] at h2;exact h2
    have hr:=hfact y (hL y hy) hyb
    have:=hbi _ hyb
    rw[k3]
    refine AV.ok_move (n:=s0.nxt+y.i+1) (by show s0.nxt+y.i+1<=s0.nxt+i;omega) (fun h ver c hel hm=>memj y (hL y hy) hyb h ver (aU _ hel) c hm) hr.1
 ·obtain ⟨h1,h2⟩:=Dk he
  rcases ua h1 with h1 | ⟨y,hy,k1,k2,k3⟩
  ·exact aJ (hf.ver e h1) (Nat.le_add_right _ _)
  ·rcases h2 with h2 | h2
   ·omega
   ·have:=hbi _ h2
    show e.2.1<s0.nxt+i
    omega
 ·obtain ⟨h1,h2⟩:=wA he
  rcases j6.1 h1 with h1 | ⟨y,hy,h1⟩
  ·refine IV (n:=s0.nxt) (Nat.le_add_right _ _) (fun h ver c _ hm=>mem0 h ver c hm) ?_
   exact fh nh (aE _) Newer.rfl (hf.chs e h1) Hp.le.rfl
  ·obtain ⟨hv,hg⟩:=iV h1
   rcases h2 with h2 | h2
   ·omega
   ·have hyb:y.i∈b:=by rw[hv,Nat.add_sub_cancel_left] at h2;exact h2
    have hr:=hfact y (hL y hy) hyb
    have:=hbi _ hyb
    have hk:=hr.2.2 _ hg
    have he2:e=(e.1,s0.nxt+y.i,e.2.2):=by rw[<-hv]
    rw[he2]
    refine IV (n:=s0.nxt+y.i+1) (by show s0.nxt+y.i+1<=s0.nxt+i;omega) (fun h ver c hel hm=>?_) hk
    exact memj y (hL y hy) hyb h ver (aX _ (List.mem_flatMap.2 ⟨_,hg,hel⟩)) c hm
end
end R
namespace R
open Go.RowKit
open D
theorem No {t j:Nat} {l:List Nat} :j∈Xp t l↔j=t\/j∈l:=by
 unfold Xp
 split
 ·rename_i h
  have:=ng.1 h
  constructor
  ·exact fun h=>.inr h
  ·rintro (rfl | h)
   ·exact this
   ·exact h
 ·exact List.mem_cons
theorem Fg {j:Nat} : ∀ {l acc:List Nat},j∈Fc l acc↔j∈l\/j∈acc
 | [],acc=>by simp[Fc]
 | t::l,acc=>by
  unfold Fc
  rw[Fg (l:=l),No,List.mem_cons]
  constructor
  ·rintro (h | h | h) <;> simp[h]
  ·rintro ((h | h) | h) <;> simp[h]
def bAt (l:List TR) (k:Nat):List Nat:=match recAt k l with
 | some y=>y.b
 | none=>[]
theorem Sd {l:List TR} {j:Nat} : ∀ {js acc:List Nat},j∈bOf l js acc↔j∈acc\/ ∃k∈js,j=k\/j∈bAt l k
 | [],acc=>by simp[bOf]
 | k::js,acc=>by
  unfold bOf
  rw[Sd (js:=js),Fg,No]
  show (j∈bAt l k\/j=k\/j∈acc)\/_↔_
  constructor
  ·rintro ((h | h | h) | ⟨k',hk,h⟩)
   ·exact .inr ⟨k,by simp,.inr h⟩
   ·exact .inr ⟨k,by simp,.inl h⟩
   ·exact .inl h
   ·exact .inr ⟨k',by simp[hk],h⟩
  ·rintro (h | ⟨k',hk,h⟩)
   ·exact .inl (.inr (.inr h))
   ·rcases az hk with hk | hk
    ·subst hk
     rcases h with h | h
     ·exact .inl (.inr (.inl h))
     ·exact .inl (.inl h)
    ·exact .inr ⟨k',hk,h⟩
theorem B6 {y:TR} : ∀ {l:List TR},y∈l-> ∃z,recAt y.i l=some z
 | x::l,h=>by
  unfold recAt
  split
  ·exact ⟨_,rfl⟩
  ·rename_i hx
   rcases az h with h | h
   ·rw[h] at hx;exact absurd (Nat.beq_refl _) hx
   ·exact B6 h
section
variable {P:Program} {w0:World} {n:Nat} {s0:Sg} {ops:List Oper} {l:List TR} {J:Hp} {θ:Th} {vs:Nat->Value}
theorem AllOk.closed (ha:AllOk P w0 n s0 ops l) (hlt: ∀x∈l,∀j∈x.b,j<x.i): ∀x∈l,∀y∈l,y.i∈x.b-> ∀k∈y.b,k∈x.b:=by
 have main: ∀m,∀x∈l,x.i=m-> ∀y∈l,y.i∈x.b-> ∀k∈y.b,k∈x.b:=by
  intro m
  induction m using Nat.strongRecOn with
  | _ m ih =>
   intro x hx hxm y hy hyb k hk
   obtain ⟨l1,h1,h2,h3,h4⟩:=ha.get hx
   have hyl:=hlt x hx _ hyb
   have hy1:=h4 y hy hyl
   rw[h1.hb,Sd] at hyb⊢
   rcases hyb with hyb | ⟨q,hq,hyb | hyb⟩
   ·cases hyb
   ·refine .inr ⟨q,hq,.inr ?_⟩
    subst hyb
    obtain ⟨z,hz⟩:=B6 hy1
    unfold bAt
    rw[hz]
    obtain ⟨hz1,hz2⟩:=yD hz
    obtain rfl:=ha.uniq z (h3 z hz1) y hy hz2
    exact hk
   ·refine .inr ⟨q,hq,.inr ?_⟩
    unfold bAt at hyb⊢
    split at hyb
    ·rename_i z hz
     obtain ⟨hz1,hz2⟩:=yD hz
     have hzl:=h2.lt z hz1
     rw[<-h1.hi] at hzl
     exact ih z.i (by omega) z (h3 z hz1) rfl y hy hyb k hk
    ·cases hyb
 exact fun x hx=>main x.i x hx rfl
theorem Se (hf:Fine P w0 J θ s0):AllOk P w0 n s0 ops l->(zG s0.nxt s0.env l).Pairwise fun a b=>a.2.1≠b.2.1:=by
 induction l with
 | nil=>intro _;exact hf.nd
 | cons x l ih =>
  rintro ⟨h1,h2⟩
  refine nd_go x.o.dst (ih h2) fun e he=>?_
  rcases ua he with h | ⟨y,hy,k1,k2,k3⟩
  ·have:=hf.ver e h;omega
  ·have:=h2.lt y hy
   have:=h1.hi
   omega
where nd_go {env:List (Nat×Nat×AV)} {k:Nat} {av:AV} (d:Option Nat) (h:env.Pairwise fun a b=>a.2.1≠b.2.1) (hv: ∀e∈env,e.2.1<k):(LA d k av env).Pairwise fun a b=>a.2.1≠b.2.1:=Eo h hv
theorem words (hB:lQ s0.chs=true) (hK:gV (gQ s0.nxt s0.chs l)=true) (hf:Fine P w0 J θ s0) (ha:AllOk P w0 n s0 ops l) (hc: ∀x∈l,zI s0.nxt x=true) (hlt: ∀x∈l,∀j∈x.b,j<x.i)
  (B:List Nat) (hcl: ∀y∈l,y.i∈B-> ∀k∈y.b,k∈B) (hfact: ∀y∈l,y.i∈B->Vx P w0 J (qV θ s0.nxt vs) s0.nxt y (vs y.i)) :
  ∀x∈l,(∀k∈x.b,k∈B)->Fine P w0 J (qV θ s0.nxt vs) x.s/\(∀e∈j5 s0.nxt x,∀h ver c,Says e h ver c->K9 s0 l h ver c)/\ ∀e∈x.r.chs (s0.nxt+x.i),∀h ver c,Says e h ver c->K9 s0 l h ver c:=by
 have main: ∀m,∀x∈l,x.i=m->(∀k∈x.b,k∈B)->Fine P w0 J (qV θ s0.nxt vs) x.s/\(∀e∈j5 s0.nxt x,∀h ver c,Says e h ver c->K9 s0 l h ver c)/\ ∀e∈x.r.chs (s0.nxt+x.i),∀h ver c,Says e h ver c->K9 s0 l h ver c:=by
  intro m
  induction m using Nat.strongRecOn with
  | _ m ih =>
   intro x hx hxm hxB
   obtain ⟨l1,h1,h2,h3,h4⟩:=ha.get hx
   have IH: ∀y∈l,y.i∈x.b->_:=fun y hy hyb=>ih y.i (by have:=hlt x hx _ hyb;omega) y hy rfl (hcl y hy (hxB _ hyb))
   have hF:Fine P w0 J (qV θ s0.nxt vs) x.s:=by
    rw[h1.hs]
    exact IY hB hK hf ha hc l1 h3 x.b x.i (hlt x hx) (fun y hy hyb=>hfact y hy (hxB _ hyb)) (fun y hy hyb=>(IH y hy hyb).2.1) (fun y hy hyb=>(IH y hy hyb).2.2) (Se hf h2)
   have hsub: ∀e∈x.s.chs,∀h ver c,Says e h ver c->K9 s0 l h ver c:=by
    intro e he h ver c hs
    rw[h1.hs] at he
    obtain ⟨k1,k2⟩:=wA he
    rcases j6.1 k1 with k1 | ⟨y,hy,k1⟩
    ·exact .inl ⟨e,k1,hs⟩
    ·have hv:=(iV k1).1
     rcases k2 with k2 | k2
     ·omega
     ·rw[hv,Nat.add_sub_cancel_left] at k2
      exact (IH y (h3 y hy) k2).2.1 e k1 h ver c hs
   have hgv: ∀e∈j5 s0.nxt x,∀h ver c,Says e h ver c->K9 s0 l h ver c:=by
    intro e he h ver c hs
    cases hr:x.run with
    | true =>
     obtain ⟨g1,g2⟩:=h1.good hr
     obtain ⟨hv,hg⟩:=iV he
     obtain ⟨k1,k2⟩:=hs
     rcases k2 with ⟨k2,k3⟩ | k2
     ·refine .inr ⟨x,hx,?_⟩
      have:e=(h,ver,c):=by rw[k3,<-k1,<-k2]
      rw[<-this];exact he
     ·obtain ⟨e0,he0,k⟩:=g1.says J _ hF _ hg ver c k2
      simp only at k
      rw[k1] at k
      exact hsub e0 he0 h ver c k
    | false =>
     have:=h1.skip hr
     unfold j5 at he
     rw[this] at he
     cases he
   refine ⟨hF,hgv,fun e he h ver c hs=>?_⟩
   unfold Res.chs at he
   rcases aD he with he | he
   ·exact hgv e he h ver c hs
   ·refine hsub e ?_ h ver c hs
    cases hr:x.run with
    | true =>
     obtain ⟨g1,g2⟩:=h1.good hr
     exact g1.perm.mem_iff.2 (by rcases aD he with he | he <;> simp[he])
    | false =>
     rw[h1.skip hr] at he
     simpa using he
 exact fun x hx hxB=>main x.i x hx rfl hxB
theorem sE {t:Nat} {av:AV} : ∀ {env:List (Nat×Nat×AV)},look env t=some av-> ∃v,zH env t=some v/\(t,v,av)∈env
 | (u,k,x)::l,h=>by
  unfold look at h
  unfold zH
  split at h
  ·rename_i hu
   obtain rfl:=ae h
   rw[if_pos hu,au hu]
   exact ⟨k,rfl,by simp⟩
  ·rename_i hu
   rw[if_neg hu]
   obtain ⟨v,h1,h2⟩:=sE h
   exact ⟨v,h1,by simp[h2]⟩
theorem Np {t v:Nat} {av:AV} {f:Nat×Nat×AV->Bool} (hf: ∀e∈s0.env,f e=true):look ((zG s0.nxt s0.env l).filter f) t=some av->zH ((zG s0.nxt s0.env l).filter f) t=some v->v<s0.nxt->look s0.env t=some av:=by
 induction l with
 | nil =>
  intro h1 h2 h3
  rw[show (zG s0.nxt s0.env []).filter f=s0.env from List.filter_eq_self.2 hf] at h1
  exact h1
 | cons x l ih =>
  intro h1 h2 h3
  unfold zG LA at h1 h2
  split at h1
  ·rename_i d hd
   rw[hd] at h2
   simp only at h2
   rw[List.filter_cons] at h1 h2
   split at h1
   ·rename_i hk
    rw[if_pos hk] at h2
    unfold look at h1
    unfold zH at h2
    split at h1
    ·rename_i hu
     rw[if_pos hu] at h2
     have:=ae h2
     omega
    ·rename_i hu
     rw[if_neg hu] at h2
     exact ih h1 h2 h3
   ·rename_i hk
    rw[if_neg hk] at h2
    exact ih h1 h2 h3
  ·rename_i hd
   rw[hd] at h2
   exact ih h1 h2 h3
theorem Wn (hf:Fine P w0 J θ s0) {b:List Nat} {i:Nat} {L1:List TR} (hL: ∀y∈L1,y∈l) (hfact: ∀y∈l,y.i∈b->Vx P w0 J (qV θ s0.nxt vs) s0.nxt y (vs y.i)) {t v:Nat} {av:AV}
  (h1:look (subS s0 L1 i b).env t=some av) (h2:zH (subS s0 L1 i b).env t=some v):(match R9 s0.nxt v with | some j=>vs j | none=>((envL θ s0).lookup t).getD undef)=av.v (qV θ s0.nxt vs):=by
 obtain ⟨v',h3,h4⟩:=sE h1
 obtain rfl:=ae (h2.symm.trans h3)
 unfold R9
 by_cases hv:v<s0.nxt
 ·rw[if_pos (Vv.2 hv)]
  have hb:=Np (fun e he=>Nn.2 (.inl (hf.ver e he))) h1 h2 hv
  obtain ⟨e,he,rfl⟩:=so hb
  rw[AV.v_same (nh (vs:=vs)) (hf.env e he)]
  simp only
  rw[show (envL θ s0).lookup t=_ from gu hb];rfl
 ·rw[if_neg (fun h=>hv (Vv.1 h))]
  obtain ⟨h5,h6⟩:=Dk h4
  rcases ua h5 with h5 | ⟨y,hy,k1,k2,k3⟩
  ·exact absurd (hf.ver _ h5) hv
  ·rcases h6 with h6 | h6
   ·exact absurd h6 hv
   ·have k2:v=s0.nxt+y.i:=k2
    have k3:av=y.r.av:=k3
    have h6:v - s0.nxt∈b:=h6
    rw[k2,Nat.add_sub_cancel_left] at h6
    rw[k2,Nat.add_sub_cancel_left,k3]
    exact (hfact y (hL y hy) h6).2.1.symm
end
end R
namespace R
open Go.RowKit
open D
def QD (P:Program) (w0:World) (J:Hp) (θ:Th) (n0:Nat) (l:List TR) (T:List Ent):Sm where
 fact i vs:= ∀x∈l,x.i=i->Vx P w0 J (qV θ n0 vs) n0 x (vs i)
 chunk k vs:=match T[k]? with
  | some e=>toCh P (qV θ n0 vs) e
  | none=>Ch.fr (fun _=>none) []
theorem G9 {n0 t v:Nat} {env:List (Nat×Nat×AV)} : ∀ {ts:List Nat},t∈ts->zH env t=some v->Skel.srcOf t (Fe n0 env ts)=some (R9 n0 v)
 | u::ts,h,hv=>by
  unfold Fe
  by_cases hu:u=t
  ·subst hu
   rw[hv]
   simp only
   unfold Skel.srcOf
   rw[if_pos (Nat.beq_refl u)]
  ·have ht:t∈ts:=(az h).resolve_left fun e=>hu e.symm
   cases hw:zH env u with
   | none=>exact G9 ht hv
   | some w =>
    simp only
    unfold Skel.srcOf
    rw[if_neg fun e=>hu (au e)]
    exact G9 ht hv
theorem fin_ok {n0 t v:Nat} {f:Option Nat->Value} : ∀ {env:List (Nat×Nat×AV)} {seen:List Nat},t∉seen->zH env t=some v->((Nm n0 env seen).map fun q=>(q.1,f q.2)).lookup t=some (f (R9 n0 v))
 | (u,k,x)::l,seen,hs,hv=>by
  unfold Nm
  unfold zH at hv
  split
  ·rename_i hin
   have hin:=ng.1 hin
   have hne:u≠t:=fun e=>hs (e ▸ hin)
   rw[if_neg fun e=>hne (au e)] at hv
   exact fin_ok hs hv
  ·rename_i hin
   rw[List.map_cons,List.lookup_cons]
   by_cases hu:u=t
   ·subst hu
    rw[if_pos (Nat.beq_refl u)] at hv
    obtain rfl:=ae hv
    simp
   ·rw[if_neg fun e=>hu (au e)] at hv
    have:(t==u)=false:=by simpa using fun e=>hu e.symm
    rw[this]
    refine fin_ok (fun h=>?_) hv
    rcases az h with h | h
    ·exact hu h.symm
    ·exact hs h
section
variable {V:Env} {P:Program} {I:Hp} {w0 w:World} {F:Ch} {J:Hp} {θ:Th} {s0:Sg} {ops:List Oper} {l:List TR} {a:Act}
theorem IZ {x:TR} {i:Nat} (h:i∈x.r.av.ids):i∈Qz x:=aU _ h
theorem I0 {x:TR} {g:Hdr×Chk} {i:Nat} (hg:g∈x.r.gives) (h:i∈B5 g.1 g.2):i∈Qz x:=aX _ (List.mem_flatMap.2 ⟨g,hg,h⟩)
theorem Wo (hf:Fine P w0 J θ s0) {n:Nat} (ha:AllOk P w0 n s0 ops l) (hlen:l.length=ops.length) (hK:gV (gQ s0.nxt s0.chs l)=true) (hc: ∀x∈l,zI s0.nxt x=true) :
  Loc (oi s0 ops l (gQ s0.nxt s0.chs l)) (QD P w0 J θ s0.nxt l (gQ s0.nxt s0.chs l)) ops.length:=by
 have agree: ∀x∈l,∀vs vs':Nat->Value,(∀j,j=x.i\/j∈x.b->vs' j=vs j)-> ∀i∈Qz x,qV θ s0.nxt vs' i=qV θ s0.nxt vs i:=by
  intro x hx vs vs' hv i hi
  have:=hc x hx
  unfold zI at this
  rw[ak,rp] at this
  have h1:=this.1 i hi
  unfold allowed at h1
  rw[Bool.or_eq_true,Bool.or_eq_true,Vv,Vu,ng] at h1
  unfold qV
  by_cases hlt:i<s0.nxt
  ·rw[if_pos hlt,if_pos hlt]
  ·rw[if_neg hlt,if_neg hlt]
   exact hv _ (h1.resolve_left hlt)
 refine ⟨fun i hi vs vs' hv h x hx hxi=>?_,fun k hk vs vs'=>?_,fun i hi k hk vs vs' hv=>?_⟩
 ·subst hxi
  rw[(ha.opAt hx _).2] at hv
  have ag:=agree x hx vs vs' hv
  obtain ⟨h1,h2,h3⟩:=h x hx rfl
  refine ⟨AV.ok_loc (fun i hi=>ag i (IZ hi)) h1,?_,fun g hg=>UA (fun i hi=>ag i (I0 hg hi)) (h3 g hg)⟩
  rw[AV.v_loc fun i hi=>ag i (IZ hi),h2,hv _ (.inl rfl)]
 ·obtain ⟨e,he,rfl⟩:=List.mem_map.1 hk
  have hT:=sD hK (j6.2 (.inl he))
  show (match _ with | some e=>toCh P (qV θ s0.nxt vs') e | none=>_)=match _ with | some e=>toCh P (qV θ s0.nxt vs) e | none=>_
  rw[hT]
  simp only
  rw[mX nh (hf.chs e he),mX nh (hf.chs e he)]
 ·obtain ⟨x,hx,hxi,-⟩:=ha.at (fun x=>x) i (by rw[hlen];exact hi)
  subst hxi
  rw[(ha.opAt hx _).2] at hv
  rw[(ha.opAt hx _).1] at hk
  obtain ⟨e,he,rfl⟩:=List.mem_map.1 hk
  have hT:=sD hK (j6.2 (.inr ⟨x,hx,he⟩))
  show (match _ with | some e=>toCh P (qV θ s0.nxt vs') e | none=>_)=match _ with | some e=>toCh P (qV θ s0.nxt vs) e | none=>_
  rw[hT]
  simp only
  exact Qx fun i hi=>agree x hx vs vs' hv i (I0 (iV he).2 hi)
theorem UF (hf:Fine P w0 J θ s0) {n:Nat} (ha:AllOk P w0 n s0 ops l) (hlen:l.length=ops.length) (hB:lQ s0.chs=true) (hK:gV (gQ s0.nxt s0.chs l)=true) (hc: ∀x∈l,zI s0.nxt x=true)
  (hok:(oi s0 ops l (gQ s0.nxt s0.chs l)).ok n (knS s0) ops=true) (hkn: ∀t,knS s0 t=true->((envL θ s0).lookup t).isSome=true) (hlt: ∀x∈l,∀j∈x.b,j<x.i) :
  ∀i o,ops[i]? =some o->(oi s0 ops l (gQ s0.nxt s0.chs l)).goal (QD P w0 J θ s0.nxt l (gQ s0.nxt s0.chs l)) P J w0 (envL θ s0) i o:=by
 intro i o ho vs hfacts
 obtain ⟨x,hx,hxi,-⟩:=ha.at (fun x=>x) i (by rw[hlen];exact (List.getElem?_eq_some_iff.1 ho).1)
 subst hxi
 obtain ⟨l1,h1,h2,h3,h4⟩:=ha.get hx
 obtain rfl:x.o=o:=ae (h1.ho.symm.trans ho)
 obtain ⟨e1,e2⟩:=ha.opAt hx (gQ s0.nxt s0.chs l)
 have hG:=Skel.good_of_ok hkn hok ho
 rw[e2] at hfacts
 have hfact: ∀y∈l,y.i∈x.b->Vx P w0 J (qV θ s0.nxt vs) s0.nxt y (vs y.i):=fun y hy hyb=>hfacts y.i hyb y hy rfl
 have hFine:=(words hB hK hf ha hc hlt x.b (fun y hy hyb k hk=>ha.closed hlt x hx y hy hyb k hk) hfact x hx fun k hk=>hk).1
 have hnx:x.s.nxt=s0.nxt+x.i:=by rw[h1.hs];rfl
 have hw:JA x.o vs=some x.run:=by
  have hgd:=h1.gd
  unfold GdOk at hgd
  unfold JA
  cases hgo:x.o.guard with
  | none=>rw[hgo] at hgd;simp only at hgd⊢;rw[hgd]
  | some gw =>
   obtain ⟨g,want⟩:=gw
   rw[hgo] at hgd
   simp only at hgd⊢
   obtain ⟨y,hy,hyg,hc'⟩:=hgd
   obtain ⟨t,k1,k2⟩:=hG.guard g want hgo
   have hgb:g∈x.b:=by
    have ht:t∈slotsOf ops.toArray x.o:=by
     unfold slotsOf Oper.looksAt
     refine aX _ ?_
     rw[hgo]
     simp only
     rw[k1];simp
    rcases hG.slots t ht with ⟨q1,-,-⟩ | ⟨j,q1,-,q3,-⟩
    ·rw[k2] at q1;cases q1
    ·rw[k2] at q1
     obtain rfl:g=j:=by simpa using q1
     rwa [e2] at q3
   subst hyg
   have hv:=(hfact y (h3 y hy) hgb).2.1
   rcases hc' with ⟨c,hc',hr⟩ | ⟨hc',hr⟩
   ·rw[hc'] at hv
    rw[<-hv,hr];rfl
   ·rw[hc'] at hv
    rw[<-hv,hr];rfl
 rw[hw]
 have hthe: ∀v,qV θ s0.nxt (upd vs x.i v)=upd (qV θ s0.nxt vs) (s0.nxt+x.i) v:=fun v=>QC
 have hch: ∀vs':Nat->Value,∀e∈gQ s0.nxt s0.chs l,(QD P w0 J θ s0.nxt l (gQ s0.nxt s0.chs l)).chunk (numOf e (gQ s0.nxt s0.chs l)) vs'=toCh P (qV θ s0.nxt vs') e:=by
  intro vs' e he
  show (match _ with | some e=>toCh P (qV θ s0.nxt vs') e | none=>_)=_
  rw[sD hK he]
 cases hr:x.run with
 | false =>
  have hs:=h1.skip hr
  refine ⟨fun y hy hyi=>?_,by rw[e1];show (x.r.ns.map _)= [];rw[hs];rfl,by rw[e1];show (j5 _ x).map _= [];unfold j5;rw[hs];rfl⟩
  obtain rfl:=ha.uniq y hy x hx hyi
  refine ⟨?_,?_,fun g hg=>?_⟩
  ·rw[hs];trivial
  ·rw[hs,fV];rfl
  ·rw[hs] at hg;cases hg
 | true =>
  obtain ⟨hGd,hk⟩:=h1.good hr
  have base:=hGd.op J _ hFine
  have hin: ∀e,e∈x.r.rs++x.r.ns->e∈gQ s0.nxt s0.chs l/\e∈x.s.chs:=by
   intro e he
   have he2:e∈x.s.chs:=hGd.perm.mem_iff.2 (aU _ he)
   refine ⟨?_,he2⟩
   rw[h1.hs] at he2
   rcases j6.1 (wA he2).1 with h | ⟨y,hy,h⟩
   ·exact j6.2 (.inl h)
   ·exact j6.2 (.inr ⟨y,h3 y hy,h⟩)
  have hev: ∀u∈x.o.op.operands,(oi s0 ops l (gQ s0.nxt s0.chs l)).ev (envL θ s0) x.i vs u=evL (envL (qV θ s0.nxt vs) x.s) u:=by
   intro u hu
   cases u with
   | tmp t =>
    unfold okO at hk
    rw[ak,ak] at hk
    have hx1:=List.all_eq_true.1 hk.1.1 (.tmp t) (by simpa using hu)
    simp only[Bool.or_false] at hx1
    obtain ⟨av,hav⟩:=Option.isSome_iff_exists.1 hx1
    have hav:look x.s.env t=some av:=hav
    rw[aF (x:=.tmp t) hav]
    obtain ⟨v,hv,hm⟩:=sE hav
    have ht:t∈slotsOf ops.toArray x.o:=by
     unfold slotsOf Oper.looksAt
     exact aU _ (List.mem_filterMap.2 ⟨.tmp t,by simpa using hu,rfl⟩)
    have hsrc:Skel.srcOf t ((oi s0 ops l (gQ s0.nxt s0.chs l)).op x.i).src=some (R9 s0.nxt v):=by
     rw[e1];exact G9 ht hv
    have hval:=Wn (L1:=l1) (b:=x.b) (i:=x.i) hf h3 hfact (t:=t) (v:=v) (av:=av) (by rw[<-h1.hs];exact hav) (by rw[<-h1.hs];exact hv)
    rw[<-hval]
    show (match Skel.srcOf t _ with | some (some j)=>vs j | _=>_)=_
    rw[hsrc]
    cases R9 s0.nxt v <;> rfl
   | _=>rfl
  have hpre:((((oi s0 ops l (gQ s0.nxt s0.chs l)).op x.i).reads++((oi s0 ops l (gQ s0.nxt s0.chs l)).op x.i).needs).map ((QD P w0 J θ s0.nxt l (gQ s0.nxt s0.chs l)).chunk · vs))=(x.r.rs++x.r.ns).map (toCh P (qV θ s0.nxt vs)):=by
   rw[e1]
   show ((x.r.rs.map _)++(x.r.ns.map _)).map _=_
   rw[<-aM,List.map_map]
   exact List.map_congr_left fun e he=>hch vs e (hin e he).1
  intro wd C hs
  have hs':=hs
  rw[hpre] at hs'
  have hb:=base wd C hs'
  have hsel:noSelect x.o=true:=hG.sel
  rw[<-pK hsel hev] at hb
  refine hb.imp fun v w' hv=>⟨fun y hy hyi=>?_,?_⟩
  ·obtain rfl:=ha.uniq y hy x hx hyi
   rw[hthe,fV]
   obtain ⟨q1,q2,q3⟩:=hv.1
   rw[hnx] at q1 q2 q3
   exact ⟨q1,q2,q3⟩
  ·have hst:=hv.2
   rw[hnx] at hst
   have hgv:((((oi s0 ops l (gQ s0.nxt s0.chs l)).op x.i).reads++((oi s0 ops l (gQ s0.nxt s0.chs l)).op x.i).gives).map ((QD P w0 J θ s0.nxt l (gQ s0.nxt s0.chs l)).chunk · (upd vs x.i v)))=x.r.rs.map (toCh P (qV θ s0.nxt vs))++x.r.gives.map fun g=>toCh P (upd (qV θ s0.nxt vs) (s0.nxt+x.i) v) (g.1,s0.nxt+x.i,g.2):=by
    rw[e1]
    show ((x.r.rs.map _)++((j5 s0.nxt x).map _)).map _=_
    rw[aM,List.map_map,List.map_map]
    congr 1
    ·refine List.map_congr_left fun e he=>?_
     show (QD P w0 J θ s0.nxt l (gQ s0.nxt s0.chs l)).chunk (numOf e _) (upd vs x.i v)=_
     obtain ⟨m1,m2⟩:=hin e (aU _ he)
     rw[hch _ e m1,hthe]
     have:=hFine.chs e m2
     rw[hnx] at this
     exact mX Same.upd this
    ·unfold j5
     rw[List.map_map]
     refine List.map_congr_left fun g hg=>?_
     show (QD P w0 J θ s0.nxt l (gQ s0.nxt s0.chs l)).chunk (numOf (g.1,s0.nxt+x.i,g.2) _) (upd vs x.i v)=_
     rw[hch _ _ (j6.2 (.inr ⟨x,hx,List.mem_map.2 ⟨g,hg,rfl⟩⟩)),hthe]
   exact Eq.mp (congrArg (fun cs=>St J w0 w' (cs++C)) hgv.symm) hst
theorem Nq {Y:Type} {id:Nat} {k:Sg->Option Y} {res:Y} {Q:Exit->Act->World->Prop} (hT:TTok P V.tt) (hF:FTok P V.ft) (hm:P.follows .mixedOrders=true) (h:IW V ops k s0=some res) (hS0:Sim P I w0 F V.n J θ s0 a w)
  (K: ∀s' θ' a' w',k s'=some res->Sim P I w0 F V.n J θ' s' a' w'->Fr s0 θ s' θ'->Q .normal a' w'):(Code.region id ops.toArray true).wp P Q a w:=by
 unfold IW at h
 obtain ⟨l,h,ha,hlen⟩:=Nl (w0:=w0) hT hF h rfl rfl trivial
 obtain ⟨hpl,h⟩:=aj h
 unfold Sb at hpl
 simp only[ak,List.all_eq_true] at hpl
 obtain ⟨hB,hK,hc,hok,hokB⟩:=hpl
 have hf:=hS0.fine
 have hkn: ∀t,knS s0 t=true->((envL θ s0).lookup t).isSome=true:=by
  intro t ht
  obtain ⟨av,hav⟩:=Option.isSome_iff_exists.1 ht
  rw[show (envL θ s0).lookup t=_ from gu hav];rfl
 have hlt: ∀x∈l,∀j∈x.b,j<x.i:=by
  intro x hx j hj
  obtain ⟨l1,h1,-⟩:=ha.get hx
  have hG:=Skel.good_of_ok hkn hok h1.ho
  have:=hG.bef j (by rw[(ha.opAt hx _).2];exact hj)
  exact this.1
 refine Qw (C:=[F]) (oi s0 ops l (gQ s0.nxt s0.chs l)) (QD P w0 J θ s0.nxt l (gQ s0.nxt s0.chs l)) hkn (Wo hf ha hlen hK hc) hm hS0.agr hS0.st ?_ hok hokB (UF hf ha hlen hB hK hc hok hkn hlt) ?_
 ·refine (List.Perm.of_eq ?_)
  congr 1
  show _=(s0.chs.map _).map _
  rw[List.map_map]
  refine List.map_congr_left fun e he=>?_
  show _=match _ with | some e=>toCh P (qV θ s0.nxt fun _=>undef) e | none=>_
  rw[sD hK (j6.2 (.inl he))]
  exact (mX nh (hf.chs e he)).symm
 ·intro vs a' w' hfacts hA hst
  have hfact: ∀y∈l,Vx P w0 J (qV θ s0.nxt vs) s0.nxt y (vs y.i):=fun y hy=>hfacts y.i (by rw[<-hlen];exact ha.lt y hy) y hy rfl
  have hall:=words hB hK hf ha hc hlt (List.range l.length) (fun y hy _ k hk=>List.mem_range.2 (Nat.lt_trans (hlt y hy k hk) (ha.lt y hy))) (fun y hy _=>hfact y hy)
  have hall': ∀x∈l,_:=fun x hx=>hall x hx fun k hk=>List.mem_range.2 (Nat.lt_trans (hlt x hx k hk) (ha.lt x hx))
  have hFine:Fine P w0 J (qV θ s0.nxt vs) (Qy s0 l):=IY hB hK hf ha hc l (fun y hy=>hy) (List.range l.length) l.length (fun j hj=>List.mem_range.1 hj) (fun y hy _=>hfact y hy) (fun y hy _=>(hall' y hy).2.1) (fun y hy _=>(hall' y hy).2.2) (Se hf ha)
  refine K (Qy s0 l) (qV θ s0.nxt vs) a' w' h ⟨hS0.le,hA.sub fun t v hv=>?_,?_,hFine⟩ (Fr.rfl.trans ⟨Nat.le_add_right _ _,nh,fun e he hv=>?_,fun e he h' ver c hs=>?_⟩)
  ·
   cases hl:look (Qy s0 l).env t with
   | none =>
    exfalso
    have: ∀ {env:List (Nat×Nat×AV)} {θ:Th},look env t=none->(env.map fun e=>(e.1,e.2.2.v θ)).lookup t=none:=by
     intro env θ
     induction env with
     | nil=>intro _;rfl
     | cons e env ih =>
      intro hh
      unfold look at hh
      split at hh
      ·cases hh
      ·rename_i hu
       rw[List.map_cons,List.lookup_cons]
       have hne:(t==e.1)=false:=by
        simp only[beq_eq_false_iff_ne];intro e';subst e';exact hu (Nat.beq_refl _)
       rw[show (t==(e.1,AV.v θ e.2.2).1)=false from hne]
       exact ih hh
    rw[show (envL (qV θ s0.nxt vs) (Qy s0 l)).lookup t=none from this hl] at hv
    cases hv
   | some av =>
    have hv2:=gu (θ:=qV θ s0.nxt vs) hl
    obtain rfl:=ae (hv2.symm.trans hv)
    obtain ⟨ver,hver,-⟩:=sE hl
    have hval:=Wn (L1:=l) (b:=List.range l.length) (i:=l.length) hf (fun y hy=>hy) (fun y hy _=>hfact y hy) (t:=t) (v:=ver) (av:=av) hl hver
    have:=fin_ok (n0:=s0.nxt) (seen:=[]) (f:=fun s=>match s with | some j=>vs j | none=>((envL θ s0).lookup t).getD undef) (by simp) hver
    have key: ∀M:List (Nat×Option Nat),(M.map fun q=>(q.1,match q.2 with | some j=>vs j | none=>((envL θ s0).lookup q.1).getD undef)).lookup t=(M.map fun q=>(q.1,(fun s=>match s with | some j=>vs j | none=>((envL θ s0).lookup t).getD undef) q.2)).lookup t:=by
     intro M
     induction M with
     | nil=>rfl
     | cons q M ih =>
      rw[List.map_cons,List.map_cons,List.lookup_cons,List.lookup_cons]
      by_cases e:t=q.1
      ·subst e;simp
      ·rw[show (t==q.1)=false from by simpa using e];exact ih
    exact (key _).trans (this.trans (congrArg some hval))
  ·have e:((Qy s0 l).chs.map (numOf · (gQ s0.nxt s0.chs l))).map ((QD P w0 J θ s0.nxt l (gQ s0.nxt s0.chs l)).chunk · vs)=(Qy s0 l).chs.map (toCh P (qV θ s0.nxt vs)):=by
    rw[List.map_map]
    refine List.map_congr_left fun e he=>?_
    show (match _ with | some e=>toCh P (qV θ s0.nxt vs) e | none=>_)=_
    rw[sD hK (wA he).1]
   rw[<-e];exact hst
  ·obtain ⟨h5,h6⟩:=Dk he
   rcases ua h5 with h5 | ⟨y,hy,k1,k2,k3⟩
   ·exact h5
   ·omega
  ·obtain ⟨h5,h6⟩:=wA he
   have horig:K9 s0 l h' ver c:=by
    rcases j6.1 h5 with h5 | ⟨y,hy,h5⟩
    ·exact .inl ⟨e,h5,hs⟩
    ·exact (hall' y hy).2.1 e h5 h' ver c hs
   rcases horig with ⟨e0,he0,hk⟩ | ⟨y,hy,hk⟩
   ·exact .inr ⟨e0,he0,hk⟩
   ·have:=(iV hk).1
    exact .inl (by simp only at this;omega)
theorem Kk {hs:List Hdr} : ∀ {s:Sg} {J:Hp},Sim P I w0 F V.n J θ s a w-> ∃J',J.le J'/\Sim P I w0 F V.n J' θ (Dj hs s) a w/\Fr s θ (Dj hs s) θ:=by
 induction hs with
 | nil=>exact fun hS=>⟨_,Hp.le.rfl,hS,Fr.rfl⟩
 | cons h hs ih =>
  intro s J hS
  have h1: ∃J',J.le J'/\Sim P I w0 F V.n J' θ (wv h s) a w/\Fr s θ (wv h s) θ:=by
   unfold wv
   split
   ·exact EY ‹_› hS
   ·exact ⟨J,Hp.le.rfl,hS,Fr.rfl⟩
  obtain ⟨J1,hJ1,S1,F1⟩:=h1
  obtain ⟨J2,hJ2,S2,F2⟩:=ih S1
  exact ⟨J2,hJ1.trans hJ2,S2,F1.trans F2⟩
theorem Nr {s:Sg} (hS:Sim P I w0 F V.n J θ s a w): ∃J',J.le J'/\Sim P I w0 F V.n J' θ (vq ops s) a w/\Fr s θ (vq ops s) θ:=by
 unfold vq
 split
 ·exact Kk hS
 ·exact ⟨J,Hp.le.rfl,hS,Fr.rfl⟩
theorem QE {tr:Trs} {s:Sg} (hS:Sim P I w0 F V.n J θ s a w): ∃J' θ',J.le J'/\Sim P I w0 F V.n J' θ' (QA tr ops s) a w/\Fr s θ (QA tr ops s) θ':=by
 obtain ⟨θ1,S0,F0⟩:=yx hS
 obtain ⟨J1,hJ1,S1,F1⟩:=Nr (ops:=ops) S0
 obtain ⟨S2,F2⟩:=sy (hs:=zJ (vq ops (qS s)) ops) S1
 have F2:=(F0.trans F1).trans F2
 show∃J' θ',J.le J'/\Sim P I w0 F V.n J' θ' (IX tr ops (vn (zJ (vq ops (qS s)) ops) (vq ops (qS s)))) a w/\Fr s θ (IX tr ops (vn (zJ (vq ops (qS s)) ops) (vq ops (qS s)))) θ'
 unfold IX
 split
 ·exact ⟨J1,θ1,hJ1,S2,F2⟩
 ·obtain ⟨J',θ',h1,h2,h3⟩:=tZ S2
  exact ⟨J',θ',hJ1.trans h1,h2,F2.trans h3⟩
theorem QF {Y:Type} {id:Nat} {k:Sg->Option Y} {res:Y} {Q:Exit->Act->World->Prop} (hT:TTok P V.tt) (hF:FTok P V.ft) (hm:P.follows .mixedOrders=true) {s:Sg} (h:UD V ops k s=some res) (hS:Sim P I w0 F V.n J θ s a w)
  (K: ∀s' J' θ' a' w',k s'=some res->Sim P I w0 F V.n J' θ' s' a' w'->J.le J'->Fr s θ s' θ'->Q .normal a' w'):(Code.region id ops.toArray true).wp P Q a w:=by
 obtain ⟨J1,θ1,hJ,S1,F1⟩:=QE (tr:=V.tr) (ops:=ops) hS
 exact Nq hT hF hm (show IW V ops k (QA V.tr ops s)=some res from h) S1 fun s' θ' a' w' hk hS' hFr=>K s' J1 θ' a' w' hk hS' hJ (F1.trans hFr)
end
end R
namespace R
open Go.RowKit
open D
inductive Ann
 | no
 | two (a b:Ann)
 | loop (sh:List It) (a:Ann)
 | join (sh:List It) (a b:Ann)
 | joinX (sh:List It) (a b:Ann)
 | at (sh:List It) (a:Ann)
 | atX (sh:List It) (a:Ann)
def Ann.t (a:Ann):Ann:=.two .no a
def Ann.l:Ann->Ann
 | .two a _=>a
 | _=>.no
def Ann.r:Ann->Ann
 | .two _ b=>b
 | _=>.no
def Fh:Code->List Nat
 | .region _ ops _=>ops.toList.filterMap (·.dst)
 | .seq a b=>Fh a++Fh b
 | .cond _ a b=>Fh a++Fh b
 | .block _ a=>Fh a
 | .loop a=>Fh a
 | .scope a=>Fh a
 | _=>[]
def Ns:List It->List Nat
 | [] =>[]
 | .slot t _::is=>t::Ns is
 | _::is=>Ns is
def Bh (c:Code) (is:List It):List Nat:=Fh c++Ns is
def Wp {Y:Type} (i:Nat) (kb:Sg->Option Y) (kx:Nat->Sg->Option Y):Nat->Sg->Option Y:=fun j s=>if Nat.beq j i then kb s else kx j s
def Wq (V:Env) {R Y:Type} (c:Code) (n:Ann) (kr:R->Option Y) (kx:Nat->Sg->Option Y) (kn:Sg->Option Y) (s:Sg) (run:(Z:Type)->Ann->(R->Option Z)->(Nat->Sg->Option Z)->(Sg->Option Z)->Sg->Option Z):Option Y:=match n with
 | .at sh n=>(zD (Bh c sh) sh s).bind fun q=>Option.bind (run (R5 (qU q.its)) n (fun _=>none) (fun _ _=>none) (fun s'=>(q.of s').bind fun d=>some (ofN _ d)) s) fun d=>kn (q.at (toN _ d))
 | .atX sh n=>(zD (Bh c sh) sh s).bind fun q=>l7 (run (Y ⊕ R5 (qU q.its)) n (fun r=>(kr r).bind fun t=>some (.inl t)) (fun i s'=>(kx i s').bind fun t=>some (.inl t)) (fun s'=>(q.of s').bind fun d=>some (.inr (ofN _ d))) s) fun d=>kn (q.at (toN _ d))
 | n=>run Y n kr kx kn s
noncomputable def j7 (V:Env) {R:Type} (rt:Sg->Option R):(c:Code)-> {Y:Type} ->Ann->(R->Option Y)->(Nat->Sg->Option Y)->(Sg->Option Y)->Sg->Option Y
 | .skip,_,_,kr,kx,kn,s=>kn s
 | .ret,_,_,kr,kx,kn,s=>(rt s).bind kr
 | .region id ops dr,_,n,kr,kx,kn,s=>Wq V (.region id ops dr) n kr kx kn s fun Z n kr kx kn s=>match dr with
  | false=>EZ V ops.toList (fun s=>kn (R3 s)) ops.toList s
  | true=>UD V ops.toList (fun s=>kn (R3 s)) s
 | .seq a b,Y,n,kr,kx,kn,s=>match n with
  | .join sh n1 n2=>(zD (Bh a sh) sh s).bind fun q=>Option.bind (j7 V rt a n1 (Y:=R5 (qU q.its)) (fun _=>none) (fun _ _=>none) (fun s'=>(q.of s').bind fun d=>some (ofN _ d)) s) fun d=>j7 V rt b n2 kr kx kn (q.at (toN _ d))
  | .joinX sh n1 n2=>(zD (Bh a sh) sh s).bind fun q=>l7 (j7 V rt a n1 (Y:=Y ⊕ R5 (qU q.its)) (fun r=>(kr r).bind fun t=>some (.inl t)) (fun i s'=>(kx i s').bind fun t=>some (.inl t)) (fun s'=>(q.of s').bind fun d=>some (.inr (ofN _ d))) s) fun d=>j7 V rt b n2 kr kx kn (q.at (toN _ d))
  | n=>j7 V rt a n.l kr kx (fun s'=>j7 V rt b n.r kr kx kn s') s
 | .cond c a b,_,n,kr,kx,kn,s=>Wq V (.cond c a b) n kr kx kn s fun Z n kr kx kn s=>(opd s c).bind fun v=>onB v (j7 V rt a n.l kr kx kn s) (j7 V rt b n.r kr kx kn s)
 | .block i (.loop c),_,n,kr,kx,kn,s=>Wq V (.block i (.loop c)) n kr kx kn s fun Z n kr kx kn s=>match n with
  | .loop sh n=>(zD (Bh c sh) sh s).bind fun q=>(q.of s).bind fun d0 =>
    aP (ay (fun d=>j7 V rt c n (Y:=Out R (R5 (qU q.its))) (fun r=>some (.ret r)) (Wp i (fun s'=>(q.of s').bind fun d=>some (.brk (ofN _ d))) fun _ _=>none) (fun s'=>(q.of s').bind fun d=>some (.nxt (ofN _ d))) (q.at (toN _ d))) aW (ofN _ d0)) kr (fun d=>kn (q.at (toN _ d)))
  | _=>none
 | .block i c,_,n,kr,kx,kn,s=>Wq V (.block i c) n kr kx kn s fun Z n kr kx kn s=>j7 V rt c n kr (Wp i kn kx) kn s
 | .exit i,_,_,kr,kx,kn,s=>kx i s
 | _,_,_,_,_,_,_=>none
section
variable {V:Env} {P:Program} {I:Hp} {w0:World} {F:Ch} {R:Type} {rt:Sg->Option R}
def IOk (V : Env) (P : Program) (I : Hp) (w0 : World) (F : Ch) {R : Type} (rt : Sg -> Option R) (c : Code) : Prop := ∀ {Y : Type} (n : Ann) {kr : R -> Option Y} {kx : Nat -> Sg -> Option Y} {kn : Sg -> Option Y} {s : Sg} {y : Y} {Q : Exit -> Act -> World -> Prop} {J : Hp} {θ : Th} {a : Act} {w : World},
    j7 V rt c n kr kx kn s = some y -> Sim P I w0 F V.n J θ s a w ->
    (∀ J' θ' s' a' w', kn s' = some y -> Sim P I w0 F V.n J' θ' s' a' w' -> J.le J' -> Fr s θ s' θ' -> Q .normal a' w') ->
    (∀ i J' θ' s' a' w', kx i s' = some y -> Sim P I w0 F V.n J' θ' s' a' w' -> J.le J' -> Fr s θ s' θ' -> Q (.exit i) a' w') ->
    (∀ r J' θ' s' a' w', rt s' = some r -> kr r = some y -> Sim P I w0 F V.n J' θ' s' a' w' -> J.le J' -> Fr s θ s' θ' -> Q .ret a' w') -> c.wp P Q a w
def ROk (V : Env) (P : Program) (I : Hp) (w0 : World) (F : Ch) {R : Type} (rt : Sg -> Option R) (c : Code) (run : (Z : Type) -> Ann -> (R -> Option Z) -> (Nat -> Sg -> Option Z) -> (Sg -> Option Z) -> Sg -> Option Z) : Prop := ∀ {Y : Type} (n : Ann) {kr : R -> Option Y} {kx : Nat -> Sg -> Option Y} {kn : Sg -> Option Y} {s : Sg} {y : Y} {Q : Exit -> Act -> World -> Prop} {J : Hp} {θ : Th} {a : Act} {w : World},
    run Y n kr kx kn s = some y -> Sim P I w0 F V.n J θ s a w ->
    (∀ J' θ' s' a' w', kn s' = some y -> Sim P I w0 F V.n J' θ' s' a' w' -> J.le J' -> Fr s θ s' θ' -> Q .normal a' w') ->
    (∀ i J' θ' s' a' w', kx i s' = some y -> Sim P I w0 F V.n J' θ' s' a' w' -> J.le J' -> Fr s θ s' θ' -> Q (.exit i) a' w') ->
    (∀ r J' θ' s' a' w', rt s' = some r -> kr r = some y -> Sim P I w0 F V.n J' θ' s' a' w' -> J.le J' -> Fr s θ s' θ' -> Q .ret a' w') -> c.wp P Q a w
theorem Dl {c:Code} {run:(Z:Type)->Ann->(R->Option Z)->(Nat->Sg->Option Z)->(Sg->Option Z)->Sg->Option Z} (hr:ROk V P I w0 F rt c run) {Y:Type} (n:Ann) {kr:R->Option Y} {kx:Nat->Sg->Option Y} {kn:Sg->Option Y} {s:Sg} {y:Y} {Q:Exit->Act->World->Prop} {J:Hp} {θ:Th} {a:Act} {w:World}
  (h:Wq V c n kr kx kn s run=some y) (hS:Sim P I w0 F V.n J θ s a w)
  (HN: ∀J' θ' s' a' w',kn s'=some y->Sim P I w0 F V.n J' θ' s' a' w'->J.le J'->Fr s θ s' θ'->Q .normal a' w')
  (HX: ∀i J' θ' s' a' w',kx i s'=some y->Sim P I w0 F V.n J' θ' s' a' w'->J.le J'->Fr s θ s' θ'->Q (.exit i) a' w')
  (HR: ∀r J' θ' s' a' w',rt s'=some r->kr r=some y->Sim P I w0 F V.n J' θ' s' a' w'->J.le J'->Fr s θ s' θ'->Q .ret a' w'):c.wp P Q a w:=by
 have plain: ∀n,run Y n kr kx kn s=some y->c.wp P Q a w:=fun n h=>hr n h hS HN HX HR
 cases n with
 | «at» sh n =>
  obtain ⟨q,hq,h⟩:=bind_some (show (zD (Bh c sh) sh s).bind _=some y from h)
  obtain ⟨d,h1,h2⟩:=bind_some h
  have hC:=vp hq hS.fine
  refine hr n h1 hS (fun J' θ' s' a' w' hk hS' hJ hFr=>?_) (fun i J' θ' s' a' w' hk hS' hJ hFr=>by cases hk) (fun r J' θ' s' a' w' q1 q2 hS' hJ hFr=>by cases q2)
  obtain ⟨d',hd,hk⟩:=bind_some hk
  obtain rfl:=ae hk
  obtain ⟨θ2,S2,F2⟩:=cut_ok hC hS' hFr hJ hd
  rw[oL] at h2
  exact HN J' θ2 _ a' w' h2 S2 hJ F2
 | atX sh n =>
  obtain ⟨q,hq,h⟩:=bind_some (show (zD (Bh c sh) sh s).bind _=some y from h)
  obtain ⟨o,h1,h2⟩:=BL h
  have hC:=vp hq hS.fine
  refine hr n h1 hS (fun J' θ' s' a' w' hk hS' hJ hFr=>?_) (fun i J' θ' s' a' w' hk hS' hJ hFr=>?_) (fun r J' θ' s' a' w' q1 q2 hS' hJ hFr=>?_)
  ·obtain ⟨d',hd,hk⟩:=bind_some hk
   obtain rfl:=ae hk
   obtain ⟨θ2,S2,F2⟩:=cut_ok hC hS' hFr hJ hd
   rcases h2 with ⟨d,e,h2⟩ | h2
   ·obtain rfl:=Sum.inr.inj e
    rw[oL] at h2
    exact HN J' θ2 _ a' w' h2 S2 hJ F2
   ·cases h2
  ·obtain ⟨t,ht,hk⟩:=bind_some hk
   obtain rfl:=ae hk
   rcases h2 with ⟨d,e,h2⟩ | h2
   ·cases e
   ·obtain rfl:=Sum.inl.inj h2
    exact HX i J' θ' s' a' w' ht hS' hJ hFr
  ·obtain ⟨t,ht,hk⟩:=bind_some q2
   obtain rfl:=ae hk
   rcases h2 with ⟨d,e,h2⟩ | h2
   ·cases e
   ·obtain rfl:=Sum.inl.inj h2
    exact HR r J' θ' s' a' w' q1 ht hS' hJ hFr
 | no=>exact plain _ h
 | two _ _=>exact plain _ h
 | loop _ _=>exact plain _ h
 | join _ _ _=>exact plain _ h
 | joinX _ _ _=>exact plain _ h
theorem zK (hT:TTok P V.tt) (hF:FTok P V.ft) (hm:P.follows .mixedOrders=true): ∀c:Code,IOk V P I w0 F rt c/\ ∀c',c= .loop c'->IOk V P I w0 F rt c':=by
 intro c
 induction c with
 | skip =>
  refine ⟨?_,fun c' e=>(by cases e)⟩
  intro Y n kr kx kn s y Q J θ a w h hS HN HX HR
  exact wp_skip (HN J θ s a w h hS Hp.le.rfl Fr.rfl)
 | ret =>
  refine ⟨?_,fun c' e=>(by cases e)⟩
  intro Y n kr kx kn s y Q J θ a w h hS HN HX HR
  obtain ⟨r,h1,h2⟩:=bind_some (show (rt s).bind kr=some y from h)
  exact wp_ret (HR r J θ s a w h1 h2 hS Hp.le.rfl Fr.rfl)
 | exit i =>
  refine ⟨?_,fun c' e=>(by cases e)⟩
  intro Y n kr kx kn s y Q J θ a w h hS HN HX HR
  exact wp_exit (HX i J θ s a w h hS Hp.le.rfl Fr.rfl)
 | region id ops dr =>
  refine ⟨?_,fun c' e=>(by cases e)⟩
  intro Y n kr kx kn s y Q J θ a w h hS HN HX HR
  refine Dl (fun {Y} n {kr kx kn s y Q J θ a w} h hS HN HX HR=>?_) n h hS HN HX HR
  cases dr with
  | true =>
   have h:UD V ops.toList (fun s=>kn (R3 s)) s=some y:=h
   have:=QF (id:=id) hT hF hm h hS fun s' J' θ' a' w' hk hS' hJ hFr=>by
    obtain ⟨θ2,S2,F2⟩:=M6 hS'
    exact HN J' θ2 (R3 s') a' w' hk S2 hJ (hFr.trans F2)
   rwa [Array.toArray_toList] at this
  | false =>
   have h:EZ V ops.toList (fun s=>kn (R3 s)) ops.toList s=some y:=h
   exact wp_region_lit (l:=ops.toList) (E4 hT hF h hS fun s' J' θ' a' w' hk hS' hJ hFr=>by
    obtain ⟨θ2,S2,F2⟩:=M6 hS'
    exact HN J' θ2 (R3 s') a' w' hk S2 hJ (hFr.trans F2))
 | cond c x y ihx ihy =>
  refine ⟨?_,fun c' e=>(by cases e)⟩
  intro Y n kr kx kn s r Q J θ a w h hS HN HX HR
  refine Dl (fun {Y} n {kr kx kn s r Q J θ a w} h hS HN HX HR=>?_) n h hS HN HX HR
  obtain ⟨v,hv',h⟩:=bind_some (show (opd s c).bind _=some r from h)
  obtain ⟨b,hb,h⟩:=RI h
  have hk:Ld (envL θ s) c=true:=by
   cases c with
   | tmp t =>
    have:=gu (θ:=θ) (show look s.env t=some v from hv')
    show ((envL θ s).lookup t).isSome=true
    rw[show (envL θ s).lookup t=_ from this];rfl
   | _=>rfl
  have hev:evL (envL θ s) c= .bool b:=(aF hv').trans (hb θ)
  cases b with
  | true=>exact O5 hS.agr hk hev rfl (ihx.1 n.l h hS HN HX HR)
  | false=>exact Lk hS.agr hk hev rfl (ihy.1 n.r h hS HN HX HR)
 | seq x z ihx ihz =>
  refine ⟨?_,fun c' e=>(by cases e)⟩
  intro Y n kr kx kn s y Q J θ a w h hS HN HX HR
  have plain:j7 V rt x n.l kr kx (fun s'=>j7 V rt z n.r kr kx kn s') s=some y->(Code.seq x z).wp P Q a w:=fun h =>
   wp_seq (ihx.1 n.l h hS (fun J' θ' s' a' w' hk hS' hJ hFr=>ihz.1 n.r hk hS' (fun J2 θ2 s2 a2 w2 k2 S2 L2 F2=>HN J2 θ2 s2 a2 w2 k2 S2 (hJ.trans L2) (hFr.trans F2)) (fun i J2 θ2 s2 a2 w2 k2 S2 L2 F2=>HX i J2 θ2 s2 a2 w2 k2 S2 (hJ.trans L2) (hFr.trans F2)) (fun r J2 θ2 s2 a2 w2 q1 q2 S2 L2 F2=>HR r J2 θ2 s2 a2 w2 q1 q2 S2 (hJ.trans L2) (hFr.trans F2)))
    (fun i J' θ' s' a' w' hk hS' hJ hFr=>Ta (HX i J' θ' s' a' w' hk hS' hJ hFr)) (fun r J' θ' s' a' w' q1 q2 hS' hJ hFr=>Tb (HR r J' θ' s' a' w' q1 q2 hS' hJ hFr)))
  cases n with
  | join sh n1 n2 =>
   obtain ⟨q,hq,h⟩:=bind_some (show (zD (Bh x sh) sh s).bind _=some y from h)
   obtain ⟨d,h1,h2⟩:=bind_some h
   have hC:=vp hq hS.fine
   refine wp_seq (ihx.1 n1 h1 hS (fun J' θ' s' a' w' hk hS' hJ hFr=>?_) (fun i J' θ' s' a' w' hk hS' hJ hFr=>by cases hk) (fun r J' θ' s' a' w' q1 q2 hS' hJ hFr=>by cases q2))
   obtain ⟨d',hd,hk⟩:=bind_some hk
   obtain rfl:=ae hk
   obtain ⟨θ2,S2,F2⟩:=cut_ok hC hS' hFr hJ hd
   rw[oL] at h2
   exact ihz.1 n2 h2 S2 (fun J3 θ3 s3 a3 w3 k3 S3 L3 F3=>HN J3 θ3 s3 a3 w3 k3 S3 (hJ.trans L3) (F2.trans F3)) (fun i J3 θ3 s3 a3 w3 k3 S3 L3 F3=>HX i J3 θ3 s3 a3 w3 k3 S3 (hJ.trans L3) (F2.trans F3)) (fun r J3 θ3 s3 a3 w3 q1 q2 S3 L3 F3=>HR r J3 θ3 s3 a3 w3 q1 q2 S3 (hJ.trans L3) (F2.trans F3))
  | joinX sh n1 n2 =>
   obtain ⟨q,hq,h⟩:=bind_some (show (zD (Bh x sh) sh s).bind _=some y from h)
   obtain ⟨o,h1,h2⟩:=BL h
   have hC:=vp hq hS.fine
   refine wp_seq (ihx.1 n1 h1 hS (fun J' θ' s' a' w' hk hS' hJ hFr=>?_) (fun i J' θ' s' a' w' hk hS' hJ hFr=>?_) (fun r J' θ' s' a' w' q1 q2 hS' hJ hFr=>?_))
   ·obtain ⟨d',hd,hk⟩:=bind_some hk
    obtain rfl:=ae hk
    obtain ⟨θ2,S2,F2⟩:=cut_ok hC hS' hFr hJ hd
    rcases h2 with ⟨d,e,h2⟩ | h2
    ·obtain rfl:=Sum.inr.inj e
     rw[oL] at h2
     exact ihz.1 n2 h2 S2 (fun J3 θ3 s3 a3 w3 k3 S3 L3 F3=>HN J3 θ3 s3 a3 w3 k3 S3 (hJ.trans L3) (F2.trans F3)) (fun i J3 θ3 s3 a3 w3 k3 S3 L3 F3=>HX i J3 θ3 s3 a3 w3 k3 S3 (hJ.trans L3) (F2.trans F3)) (fun r J3 θ3 s3 a3 w3 q1 q2 S3 L3 F3=>HR r J3 θ3 s3 a3 w3 q1 q2 S3 (hJ.trans L3) (F2.trans F3))
    ·cases h2
   ·obtain ⟨t,ht,hk⟩:=bind_some hk
    obtain rfl:=ae hk
    rcases h2 with ⟨d,e,h2⟩ | h2
    ·cases e
    ·obtain rfl:=Sum.inl.inj h2
     exact Ta (HX i J' θ' s' a' w' ht hS' hJ hFr)
   ·obtain ⟨t,ht,hk⟩:=bind_some q2
    obtain rfl:=ae hk
    rcases h2 with ⟨d,e,h2⟩ | h2
    ·cases e
    ·obtain rfl:=Sum.inl.inj h2
     exact Tb (HR r J' θ' s' a' w' q1 ht hS' hJ hFr)
  | no=>exact plain h
  | two _ _=>exact plain h
  | loop _ _=>exact plain h
  | «at» _ _=>exact plain h
  | atX _ _=>exact plain h
 | block i x ih =>
  refine ⟨?_,fun c' e=>(by cases e)⟩
  intro Y n kr kx kn s y Q J θ a w h hS HN HX HR
  have plain:ROk V P I w0 F rt (.block i x) (fun Z n kr kx kn s=>j7 V rt x n kr (Wp i kn kx) kn s):=fun {Y} n {kr kx kn s y Q J θ a w} h hS HN HX HR =>
   wp_block (ih.1 n h hS (fun J' θ' s' a' w' hk hS' hJ hFr=>Zb (HN J' θ' s' a' w' hk hS' hJ hFr))
    (fun j J' θ' s' a' w' hk hS' hJ hFr=>by
     unfold Wp at hk
     split at hk
     ·rename_i hj
      have:j=i:=au hj
      subst this
      exact VH (HN J' θ' s' a' w' hk hS' hJ hFr)
     ·rename_i hj
      exact VI (fun e=>hj (by rw[e];exact Nat.beq_refl i)) (HX j J' θ' s' a' w' hk hS' hJ hFr))
    (fun r J' θ' s' a' w' q1 q2 hS' hJ hFr=>YG (HR r J' θ' s' a' w' q1 q2 hS' hJ hFr)))
  cases x with
  | loop x =>
   clear plain
   refine Dl (fun {Y} n {kr kx kn s y Q J θ a w} h hS HN HX HR=>?_) n h hS HN HX HR
   cases n with
   | loop sh n =>
    obtain ⟨q,hq,h⟩:=bind_some (show (zD (Bh x sh) sh s).bind _=some y from h)
    obtain ⟨d0,hd0,h⟩:=bind_some h
    obtain ⟨o,ho,hc⟩:=JD h
    have hC:=vp hq hS.fine
    have hx:IOk V P I w0 F rt x:=ih.2 x rfl
    refine wp_block (O6 (fun d a w=> ∃J' θ',J.le J'/\Sim P I w0 F V.n J' θ' (q.at (toN _ d)) a w/\Fr s θ (q.at (toN _ d)) θ') ho ?_ ?_)
    ·obtain ⟨θ1,S1,F1⟩:=cut_ok hC hS Fr.rfl Hp.le.rfl hd0
     exact ⟨J,θ1,Hp.le.rfl,by rw[oL];exact S1,by rw[oL];exact F1⟩
    ·rintro d o' hf hlast a w ⟨J1,θ1,L1,S1,F1⟩
     refine hx n hf S1 (fun J' θ' s' a' w' hk hS' hJ hFr=>?_) (fun j J' θ' s' a' w' hk hS' hJ hFr=>?_) (fun r J' θ' s' a' w' q1 q2 hS' hJ hFr=>?_)
     ·obtain ⟨d',hd,hk⟩:=bind_some hk
      obtain rfl:=ae hk
      obtain ⟨θ2,S2,F2⟩:=cut_ok hC hS' (F1.trans hFr) (L1.trans hJ) hd
      exact nrm ⟨_,rfl,J',θ2,L1.trans hJ,by rw[oL];exact S2,by rw[oL];exact F2⟩
     ·unfold Wp at hk
      split at hk
      ·rename_i hj
       have:j=i:=au hj
       subst this
       obtain ⟨d',hd,hk⟩:=bind_some hk
       obtain rfl:=ae hk
       have ho2:=hlast (by simp)
       obtain ⟨θ2,S2,F2⟩:=cut_ok hC hS' (F1.trans hFr) (L1.trans hJ) hd
       rcases hc with ⟨d2,e,hc⟩ | ⟨r,e,hc⟩
       ·obtain rfl:=Out.brk.inj (ho2.trans e)
        rw[oL] at hc
        exact Ta (VH (HN J' θ2 _ a' w' hc S2 (L1.trans hJ) F2))
       ·cases ho2.trans e
      ·cases hk
     ·obtain rfl:=ae q2
      have ho2:=hlast (by simp)
      rcases hc with ⟨d2,e,hc⟩ | ⟨r',e,hc⟩
      ·cases ho2.trans e
      ·obtain rfl:=Out.ret.inj (ho2.trans e)
       exact Tb (YG (HR r J' θ' s' a' w' q1 hc hS' (L1.trans hJ) (F1.trans hFr)))
   | _=>cases h
  | _=>exact Dl plain n h hS HN HX HR
 | loop x ih =>
  refine ⟨?_,fun c' e=>?_⟩
  ·intro Y n kr kx kn s y Q J θ a w h hS HN HX HR
   cases h
  ·cases e
   exact ih.1
 | _ =>
  refine ⟨?_,fun c' e=>(by cases e)⟩
  intro Y n kr kx kn s y Q J θ a w h hS HN HX HR
  cases h
end
end R
end Go.Proofs.YtodbpnpbhpeepaaGreatDoor
