/- FnMessages: for every input the law returns true and changes nothing that was there. Part 9 of 9. -/
import Derived.Test.YtncnbjfngmhfaaaGreatDoorAC7
import Derived.Test.YtncnbjfngmhfaaaGreatDoorAKFnMessages
set_option synthInstance.maxSize 20000
set_option synthInstance.maxHeartbeats 2000000
set_option linter.unusedVariables false
set_option linter.unusedSimpArgs false
set_option linter.unnecessarySimpa false
set_option linter.unusedSectionVars false
set_option maxRecDepth 1000000
namespace Go.Proofs.YtncnbjfngmhfaaaGreatDoor
open Go.IntKind (i64)
namespace D
open Go.RowKit
def mkB (l:List UInt8):ByteArray:=⟨l.toArray⟩
theorem XK (a b:List UInt8):mkB a++mkB b=mkB (a++b):=ByteArray.ext (by simp[mkB])
theorem Lb (a:List UInt8):(mkB a).size=a.length:=by simp[mkB,ByteArray.size]
theorem Lc (a:List UInt8):(mkB a).data.toList=a:=by simp[mkB]
theorem Jo (a b:List UInt8) (h:a.length+b.length<=9223372036854775807):sv (mkB a) (mkB b)=some (mkB (a++b)):=by
 unfold sv chk;rw[Lb,Lb,if_pos h,aa,XK]
theorem acm: ∀d:Fin 10,IntKind.u8.wrap (i64.wrap (48+(d.val:Int)))=48+(d.val:Int):=by decide
theorem acn {d:Nat} (h:d<10):yV [IntKind.u8.wrap (i64.wrap (48+(d:Int)))] =mkB [UInt8.ofNat (48+d)]:=by
 rw[acm ⟨d,h⟩];show ByteArray.empty.push (UInt8.ofNat (48+(d:Int)).toNat)=_;rw[show (48+(d:Int)).toNat=48+d by omega];rfl
theorem aco (m:Int):(if decide ((Int.tmod m 10)<0) then (some (i64.wrap (-(Int.tmod m 10)))) else (some (Int.tmod m 10)):Option Int)=some ((m.natAbs % 10:Nat):Int):=by
 by_cases h:m<0
 ·obtain ⟨k,rfl⟩: ∃k:Nat,m= -(k:Int):=⟨m.natAbs,by omega⟩;have e:Int.tmod (-(k:Int)) 10= -((k % 10:Nat):Int):=by rw[Int.neg_tmod];rfl
  rw[e,Int.natAbs_neg,Int.natAbs_natCast];by_cases a:k % 10=0
  ·rw[a];rfl
  ·rw[if_pos (decide_eq_true (by omega)),Int.neg_neg,bA (by omega) (by omega)]
 ·obtain ⟨k,rfl⟩: ∃k:Nat,m=(k:Int):=⟨m.natAbs,by omega⟩;have e:Int.tmod (k:Int) 10=((k % 10:Nat):Int):=rfl;rw[e,if_neg (by simp;omega),Int.natAbs_natCast]
theorem ab3 {m:Int} (h:I64 m):FD m 10=m.tdiv 10/\(m.tdiv 10).natAbs=m.natAbs / 10:=by
 have k:(m.tdiv 10).natAbs=m.natAbs / 10:=Int.natAbs_tdiv m 10;unfold I64 at h;refine ⟨?_,k⟩;unfold FD;exact bA (by omega) (by omega)
theorem XL {m:Int} {out:List UInt8} (a:m≠0) (h:I64 m) (b:out.length<=1000):eO (m,mkB out)=some (.nxt (m.tdiv 10,mkB (UInt8.ofNat (48+m.natAbs % 10)::out))):=by
 unfold eO;simp only[];rw[if_pos (by simpa using a),aco,aa,acn (Nat.mod_lt _ (by omega)),Jo _ _ (by simp;omega),aa,(ab3 h).1];rfl
theorem Z4 (u:Nat):1<=Lib.nDigits u:=by
 by_cases h:u<10
 ·rw[Lib.nDigits_small h];omega
 ·rw[Lib.nDigits_big h];omega
theorem QD: ∀(k:Nat) (m:Int) (out:List UInt8),m≠0->I64 m->Lib.nDigits m.natAbs<=k->out.length+Lib.nDigits m.natAbs<=100->aq eO (k+1) (m,mkB out)=some (.brk (0,mkB (Lib.decDigits m.natAbs++out)))
 | 0,m,out,_,_,h,_=>by have:=Z4 m.natAbs;omega
 | k+1,m,out,h0,hm,h,hl=>by
  rw[aq,XL h0 hm (by omega)];show aq eO (k+1) (m.tdiv 10,_)=_;have a:=(ab3 hm).2;by_cases b:m.natAbs<10
  ·have c:m.tdiv 10=0:=by
    have:(m.tdiv 10).natAbs=0:=by rw[a];omega
    omega
   rw[c,aq]
   have:eO (0,mkB (UInt8.ofNat (48+m.natAbs % 10)::out))=some (.brk (0,mkB (UInt8.ofNat (48+m.natAbs % 10)::out))):=rfl
   rw[this,Lib.decDigits_one b,Nat.mod_eq_of_lt b];rfl
  ·have c:m.tdiv 10≠0:=by
    intro e;rw[e] at a
    have:m.natAbs / 10=0:=by simpa using a.symm
    omega
   have f:=Lib.nDigits_big b;have d:I64 (m.tdiv 10):=by unfold I64 at hm⊢;omega
   rw[QD k _ _ c d (by rw[a];omega) (by rw[a,aH];omega),a]
   have:Lib.decDigits m.natAbs=Lib.decDigits (m.natAbs / 10)++ [UInt8.ofNat (48+m.natAbs % 10)]:=by rw[Lib.decDigits,dif_neg b]
   rw[this,aC];rfl
theorem zy {n:Int} (h:I64 n):(Lib.itoa n).length<=21:=Lib.itoa_length_le n h.1 h.2
theorem abw {n:Int} (h:I64 n):Lib.nDigits n.natAbs<=21:=by
 have:=zy h
 unfold Lib.itoa at this;split at this
 ·rw[aH,Lib.decDigits_length] at this;omega
 ·rw[Lib.decDigits_length] at this;rw[show n.natAbs=n.toNat by omega];exact this
theorem xE {n:Int} (h:I64 n):eX n=some (mkB (Lib.itoa n)):=by
 unfold eX;by_cases b:n=0
 ·subst b;rw[if_pos (by rfl:((0:Int)==0)=true)]
  have:Lib.itoa 0= [48]:=by unfold Lib.itoa;rw[if_neg (by decide)];exact Lib.decDigits_one (by decide)
  rw[this];rfl
 rw[if_neg (by simpa using b)];have d:=abw h;have f:=gx 100 (by omega);obtain ⟨k,e⟩: ∃k,aT=k+1:=⟨aT - 1,by omega⟩;have c:aq eO aT (n,(⟨#[]⟩:ByteArray))=some (.brk (0,mkB (Lib.decDigits n.natAbs++ []))):=by
  rw[e];exact QD k n [] b h (by omega) (by simp;omega)
 rw[ah c,List.append_nil];have g:(Lib.decDigits n.natAbs).length<=21:=by rw[Lib.decDigits_length];exact d
 unfold Lib.itoa;by_cases a:n<0
 ·rw[if_pos (decide_eq_true a),if_pos a];show (sv (mkB [45]) _).bind _=_;rw[Jo _ _ (by simp;omega)];rfl
 ·rw[if_neg (by simpa using a),if_neg a,show n.natAbs=n.toNat by omega]
theorem Fw {n:Int} (h:I64 n):iy n=some (mkB (Lib.itoa n)):=by
 unfold iy nL R.SK chk;rw[if_pos (show -9223372036854775808<=n/\n<=9223372036854775807 from h)];rfl
theorem QE (xs:List (List UInt8)) (y sep:List UInt8):Lib.join (xs++ [y]) sep=if xs= [] then y else Lib.join xs sep++sep++y:=by
 cases xs with
 | nil=>rw[if_pos rfl];exact Lib.join_one _ _
 | cons x r =>
  rw[if_neg (by simp),List.cons_append,Lib.join_cons,Lib.join_cons];simp[Lib.joinTail,aC]
def ptx (p:Pr):List UInt8:=Lib.itoa p.1++Lib.itoa p.2
def ltx (l:List Pr):List UInt8:=Lib.join (l.map ptx) [32]
def Pok (l:List Pr):Prop:= ∀p,p∈l->I64 p.1/\I64 p.2
theorem QF {p:Pr} (h:I64 p.1/\I64 p.2):(ptx p).length<=42:=by
 have b:=zy h.1;have a:=zy h.2;unfold ptx;rw[az];omega
theorem U5: ∀(r:List Pr),Pok r->(Lib.joinTail [32] (r.map ptx)).length<=43*r.length
 | [],_=>by simp[Lib.joinTail]
 | p::r,h=>by
  have c:=U5 r fun q a=>h q (bY _ a);have b:=QF (h p (by simp));have e:Lib.joinTail [32] ((p::r).map ptx)=([32] ++ptx p)++Lib.joinTail [32] (r.map ptx):=by simp[Lib.joinTail]
  rw[e,az,az,aH];simp only[aH,aJ];omega
theorem QG {l:List Pr} (h:Pok l):(ltx l).length<=43*l.length:=by
 cases l with
 | nil=>simp[ltx,Lib.join_nil]
 | cons p r =>
  have c:=U5 r fun q a=>h q (bY _ a);have b:=QF (h p (by simp));unfold ltx;rw[List.map_cons,Lib.join_cons,az,aH];omega
theorem Pok.take {l:List Pr} (h:Pok l) (i:Nat):Pok (l.take i):=fun p hp=>h p (List.mem_of_mem_take hp)
theorem TO {l:List Pr} {i:Nat} (hi:i<l.length):ltx (l.take (i+1))=if i=0 then ptx l[i] else ltx (l.take i)++ [32] ++ptx l[i]:=by
 unfold ltx;rw[List.take_succ_eq_append_getElem hi,aW,List.map_cons,List.map_nil,QE];by_cases h:i=0
 ·subst h;rw[if_pos (by simp),if_pos rfl]
 ·rw[if_neg (by
   intro e
   have:=congrArg List.length e
   rw[List.length_map,aB,aJ] at this;omega),if_neg h]
theorem XM {l:List Pr} (hp:Pok l) (h:l.length<=1048576):aq (gb l) aT ((⟨#[]⟩:ByteArray),0)=some (.brk (mkB (ltx l),(l.length:Int))):=by
 have:=aO (f:=gb l) (fun i=>(mkB (ltx (l.take i)),(i:Int))) l.length (fun i b=>by
  unfold gb;simp only[];have a:=hp l[i] (List.getElem_mem b);have d:=QG (hp.take i);rw[aB] at d;have g:=zy a.1;have j:=zy a.2;rw[cH b,if_pos rfl,aI b,TO b];by_cases c:i=0
  ·subst c;rw[if_pos rfl,if_neg (by simp)];simp only[aa];rw[xE a.1,xE a.2,aa];rw[show ltx (l.take 0)= [] from rfl,Jo _ _ (by simp;omega),aa,aa,List.nil_append,Jo _ _ (by omega),aa,af (by omega)]
   rfl
  ·rw[if_neg c,if_pos (decide_eq_true (by omega))];have e:sv (mkB (ltx (l.take i))) (⟨#[32]⟩)=some (mkB (ltx (l.take i)++ [32])):=Jo _ [32] (by simp;omega);rw[e];simp only[aa];rw[xE a.1,xE a.2];simp only[aa];rw[Jo _ _ (by simp;omega)];simp only[aa];rw[Jo _ _ (by simp;omega)];simp only[aa];rw[af (by omega)];unfold ptx;simp only[aC]) (by
  unfold gb;rw[cj];rfl) (gx _ (by omega))
 rw[List.take_length] at this;exact this
theorem XN {l:List Pr} (hp:Pok l) (e:l.length<=1048576):aq (ga l) aT (([] :List ByteArray),0)=some (.brk (l.map (fun p=>mkB (ptx p)),(l.length:Int))):=by
 have:=aO (f:=ga l) (fun i=>((l.take i).map (fun p=>mkB (ptx p)),(i:Int))) l.length (fun i a=>by
  unfold ga;simp only[];have b:=hp l[i] (List.getElem_mem a);have c:=zy b.1;have d:=zy b.2;rw[cH a,if_pos rfl,aI a];simp only[aa];rw[Fw b.1,Fw b.2];simp only[aa];rw[Jo _ _ (by omega)];simp only[aa];rw[ay (by rw[List.length_map,aB];simp only[aH,aJ];omega)];simp only[aa];rw[af (by omega),List.take_succ_eq_append_getElem a,aW]
  rfl) (by
  unfold ga;rw[cj];rfl) (gx _ (by omega))
 rw[List.take_length] at this;exact this
theorem DX {l:List Pr} (hp:Pok l) (c:l.length<=1048576): ∃t:List UInt8,jB l=some (mkB t)/\jA l=some (mkB t)/\t.length<=100000000:=by
 unfold jB jA;obtain ⟨b,d⟩:=Jl l (by omega);rw[xD,d];simp only[aa];cases b
 ·exact ⟨[],rfl,rfl,by simp⟩
 ·rw[if_pos rfl,if_pos rfl];by_cases a:((l.length:Int)==0)=true
  ·rw[if_pos a,if_pos a];exact ⟨[110,111,110,101],rfl,rfl,by simp⟩
  ·rw[if_neg a,if_neg a,ah (XM hp c),ah (XN hp c)];have f:=QG hp;refine ⟨ltx l,rfl,?_,by omega⟩;show (kI (l.map fun p=>mkB (ptx p)) (mkB [32])).bind _=_;unfold kI R.SJ chk;have e:(l.map fun p=>mkB (ptx p)).map (·.data.toList)=l.map ptx:=by
    rw[List.map_map];exact List.map_congr_left fun p _=>Lc _
   rw[e,Lc,List.length_map,if_pos ⟨by omega,by show (ltx l).length<=_;omega⟩];rfl
theorem QH {d:PsT×PsT} (g:Pok d.1) (p2:Pok d.2) (h1:d.1.length<=1048576) (e:d.2.length<=1048576): ∃t:List UInt8,lX d=some (mkB t)/\lW d=some (mkB t)/\t.length<=300000000:=by
 unfold lX lW;simp only[jX];obtain ⟨b,n,k⟩:=zu h1 e;rw[n,k];simp only[aa];cases b
 ·exact ⟨[],rfl,rfl,by simp⟩
 ·obtain ⟨a,m,l,q⟩:=DX g h1;obtain ⟨c,h,i,p⟩:=DX p2 e;have j:sv (⟨#[43]⟩) (mkB a)=some (mkB ([43] ++a)):=Jo [43] _ (by simp;omega);have o:sv (mkB ([43] ++a)) (⟨#[32,45]⟩)=some (mkB ([43] ++a++ [32,45])):=Jo _ [32,45] (by simp;omega);have f:sv (mkB ([43] ++a++ [32,45])) (mkB c)=some (mkB ([43] ++a++ [32,45] ++c)):=Jo _ _ (by simp;omega);simp only[if_true,m,h,l,i,aa,j,o,f];exact ⟨_,rfl,rfl,by simp;omega⟩
theorem TP {m:MsT} (j:Data.lim m) (h1:m.2.2.1.length<=1048576) (h:m.2.2.2.length<=1048576): ∃t:ByteArray,gU m=some t/\gT m=some t:=by
 obtain ⟨hv,-,hd1,a⟩:=j;have hv:I64 m.1:=hv;obtain ⟨t,b,e,k⟩:=QH (d:=m.2.2) (fun p hp=>hd1.2 p hp) (fun p hp=>a.2 p hp) h1 h;unfold gU gT;simp only[jX];rw[b,e,xE hv,Fw hv];simp only[aa];have l:=zy hv;have f:sv (mkB (Lib.itoa m.1)) (⟨#[32,114,101,115,101,116,32]⟩)=some (mkB (Lib.itoa m.1++ [32,114,101,115,101,116,32])):=Jo _ [32,114,101,115,101,116,32] (by simp;omega);have g:sv (mkB (Lib.itoa m.1)) (⟨#[32]⟩)=some (mkB (Lib.itoa m.1++ [32])):=Jo _ [32] (by simp;omega);have c:sv (mkB (Lib.itoa m.1++ [32,114,101,115,101,116,32])) (mkB t)=some (mkB (Lib.itoa m.1++ [32,114,101,115,101,116,32] ++t)):=Jo _ _ (by simp;omega);have i:sv (mkB (Lib.itoa m.1++ [32])) (mkB t)=some (mkB (Lib.itoa m.1++ [32] ++t)):=Jo _ _ (by simp;omega);rw[f,g];simp only[aa];rw[c,i];simp only[aa];split
 ·exact ⟨_,rfl,rfl⟩
 ·split
  ·exact ⟨_,rfl,rfl⟩
  ·exact ⟨_,rfl,rfl⟩
theorem abx (x y:List (Int×Int)) (e:x.length<=1048576*4):ku x y=some (decide (x=y))/\ko x y=some (decide (x=y)):=by
 have d:ku x y=some (decide (x=y)):=by
  unfold ku;exact eqL (f:=jT x y) x y (by omega) (fun i h a=>by
   simp only[jT,cH h,if_true,aI h,aI a,aa,af (show i<9223372036854775807 by omega),ZN];by_cases c:x[i] =y[i] <;> simp[c]) (by simp only[jT,cj];rfl)
 have b:dn x y=some (decide (x=y)):=by
  unfold dn;exact eqL (f:=cO x y) x y (by omega) (fun i h a=>by
   simp only[cO,cH h,if_true,aI h,aI a,aa,af (show i<9223372036854775807 by omega),ZN];by_cases c:x[i] =y[i] <;> simp[c]) (by simp only[cO,cj];rfl)
 exact ⟨d,by unfold ko;rw[b];rfl⟩
section
variable {h:su} (hh:Data.sm h) {r:pB} (hr:Data.sm r) {id:Int} (hc: ∀g:GrT,Data.sm g-> ∃(l:List (Int×Int)) (b:Bool),a7 g=some b/\aS r g id=some (l,b)/\eQ r g id=some (l,b)/\l.length<=150)
 {ms:List Cn} (hm:Data.sm ms)
include hh hr hc hm
end
theorem XO {xs:List Int} (a:xs.length<=1048576): ∃r:su×pB×zN,fV xs=some r/\Data.sm r.1/\Data.sm r.2.1:=by
 unfold fV;obtain ⟨c,g,f⟩:=abr a;rw[g];simp only[aa];obtain ⟨j,b,e,d,i⟩:=XJ (h:=c.2) a f;rw[b];exact ⟨_,rfl,e,d⟩
theorem eqM {m:Cn} (h1:m.2.2.1.length<=150) (c:m.2.2.2.length<=150):gS m m=some true:=by
 have a:=(abx m.2.2.1 m.2.2.1 (by omega)).2;have b:=(abx m.2.2.2 m.2.2.2 (by omega)).2;unfold gS pc;simp only[beq_self_eq_true,if_true];rw[a];simp only[aa,decide_true,if_true];rw[b];simp
theorem Fx (xs:List Int) (hx:Data.lim xs):nh xs=some true:=by
 unfold nh IK;simp only[aa];by_cases c:(xs.length:Int)>1048576
 ·rw[if_pos (by simpa using c)]
 rw[if_neg (by simpa using c)];have F:xs.length<=1048576:=by omega
 obtain ⟨⟨h,r,s⟩,e1,e,d⟩:=XO F;have e:Data.sm h:=e;have d:Data.sm r:=d;rw[e1];simp only[aa];obtain ⟨a,t,n,y,-,-⟩:=ML e d s;obtain ⟨g,q,b,C,v,a3,-⟩:=Co e d s.2.1 s.2.2;obtain ⟨A,t',X,G,O,U,L,Z,r5,r6,W⟩:=Qq e d s (l:=yJ h r s.2.1 s.2.2) (by omega) (fun _=>rfl);rw[n] at O;obtain ⟨rfl,rfl⟩:a=A/\t=t':=by simpa using O
 obtain ⟨x,B,Q,y3,y4,y5⟩:=TE e d s (l:=yJ h r s.2.1 s.2.2) (by omega) (fun _=>rfl);rw[U] at Q;obtain rfl:=ae Q;have n:dR (h.1,h.2) (r.1,r.2) (s.1,s.2.1,s.2.2)=_:=n;have y:gO (h.1,h.2) (r.1,r.2) (s.1,s.2.1,s.2.2)=_:=y;have C:b8 (h.1,h.2) s.2.2=_:=C;have v:aS (r.1,r.2) (g.1,g.2) s.2.1=_:=v;have B:jC (h.1,h.2) (r.1,r.2) (s.1,s.2.1,s.2.2)=_:=B;rw[y,n];simp only[aa];rw[if_neg (by simp),if_pos (by simp)];rw[C];simp only[aa];rw[v];simp only[aa];obtain ⟨z,ez,z1,m⟩:=eW (f:=jU (a,t) (a,t)) (fun i z=>z.2=(i:Int)/\Cs (yJ h r s.2.1 s.2.2) (a.take i)=some z.1) a.length (fun i z o D=>by
  obtain ⟨l,k⟩:=z;obtain ⟨j,h2⟩:=D;have j:k=(i:Int):=j;subst j;obtain ⟨Y,u,N,k2,S⟩:=XA L o;rw[h2] at N;obtain rfl:l=Y:=ae N;have K:=Z _ (List.getElem_mem o);have p:=K.1.1;have E:=K.1.2;obtain ⟨T,I,H⟩:=TP K.lim (by omega) (by omega);have hE:gS (a[i].1,a[i].2.1,a[i].2.2.1,a[i].2.2.2) (a[i].1,a[i].2.1,a[i].2.2.1,a[i].2.2.2)=some true:=eqM p E;have I:gU (a[i].1,a[i].2.1,a[i].2.2.1,a[i].2.2.2)=_:=I;have H:gT (a[i].1,a[i].2.1,a[i].2.2.1,a[i].2.2.2)=_:=H;have J:aV l (a[i].1,a[i].2.1,a[i].2.2.1,a[i].2.2.2)=_:=k2;unfold jU;simp only;rw[cH o,if_pos rfl,aI o];simp only[aa];rw[hE];simp only[aa,if_true];rw[I,H];simp only[aa];rw[if_neg (by simp),J];simp only[aa,if_true];exact ⟨_,rfl,af (by omega),S⟩) (fun z D=>by
  obtain ⟨l,k⟩:=z;have j:k=(a.length:Int):=D.1;subst j;unfold jU;simp only;rw[cj];rfl) (s:=(yJ h r s.2.1 s.2.2,0)) ⟨rfl,rfl⟩ (kz (by omega))
 rw[List.take_length,L] at m;have m:X=z.1:=ae m;rw[ah ez,B];simp only[aa];cases G:x.2.2 with
 | false =>
  obtain ⟨rfl,rfl⟩:=r6 G;rw[y4 G];simp
 | true =>
  obtain ⟨q1,R,P,w⟩:=W G;obtain ⟨V,p2⟩:=y5 G;have w:aR (h.1,h.2)=_:=w;have m1:=y3.1;have m2:=y3.2;have J:aV (yJ h r s.2.1 s.2.2) (x.1.1,x.1.2.1,x.1.2.2.1,x.1.2.2.2)=_:=p2;obtain ⟨-,-,-,-,-,w1,-⟩:=Co e d s.2.1 (oA h);have M:=(abx (yJ h r s.2.1 (oA h)) z.1 (by omega)).1;rw[<-m,P,decide_eq_true rfl] at M;rw[if_neg (by simp[q1]),if_pos rfl,J];simp only[aa,if_true];rw[<-m,P,M];simp only[aa,if_true];rw[w];simp only[aa];rw[V,R];simp
end D
open Go.ChangeShapes Go.WideShapes Go.ChangeAt Go.RowKit
namespace D
theorem op5:Opens Tryz.prog 5 rU8:=SS Tryz.underlying5
theorem acp:Opens Tryz.prog 22 (aw 5 rU8):=IZ Tryz.underlying22 (by kernel_rfl) (by decide) op5
theorem aby {W:World} {base:Nat} {z:Value} {H:Type} {enc:TypeId×Value->H} {d:DataW H} {p:List MemPlace} (hv:Value.okWide Tryz.prog W .any base 22 z) (h:DataW.Trod enc Tryz.prog W 0 (fun _=>true) true 22 z d p) :
  ∃(x:List Int) (v0:Value),z=v0/\Data.lim x/\(aw 5 rU8).rd (hp W) [v0] x:=by
 obtain ⟨fuel,b⟩:=h;obtain ⟨a,l,c,rfl⟩:=okWide_slice Tryz.underlying22 hv;obtain ⟨x,f,e⟩:=acp.out enc W _ _ _ b;exact ⟨x,_,rfl,e,f⟩
end D
open D (Data)
theorem Fy {W:World} (h:laidMetH Tryz.prog Rows.fnMessagesRow.laid W):D.LayW Tryz.prog W:=by
 rw[MakeChecks.laidMetH_plain _ _ _ (by kernel_rfl)] at h;obtain ⟨e,⟨_,_,_,_,_,_,_,_,_,_,⟨_,_,_,_,_,_,_,_,_,_,⟨g,t,d,fuel,p,q,c,b,hv,a,_,_⟩,_⟩,_⟩,_,_⟩:=h;obtain rfl:=ae ((show Tryz.prog.globalNamed "internal/strconv.uint64pow10" =some 0 by kernel_rfl).symm.trans c);obtain rfl:=ae ((show (Tryz.prog.globals[0]?).map (·.type)=some 236 by kernel_rfl).symm.trans b);refine ⟨?_⟩;unfold Lib.TabIs;rw[hv,<-Lib.cells_of_tab (k:=.u64) (zs:=Lib.pow10Tab) Tryz.underlying236 Tryz.underlying209 (by kernel_rfl) (by kernel_rfl) a]
theorem C2 (os:Os) (args:Array Value):laidMetH Tryz.prog Rows.fnMessagesRow.laid ((World.doorLaid Tryz.prog 400 os).forCall (fun _ _=>0) ⟨#[],args,[]⟩).memory:=
 laidMetH_of_parts3 (fuel:=8) (laidMet_of_run' 8 (by kernel_rfl) (by kernel_rfl)) (by kernel_rfl) (by kernel_rfl)
theorem C3 (W:World) (B:laidMetH Tryz.prog Rows.fnMessagesRow.laid W) (args:Array Value) (H:Type) (enc:TypeId×Value->H) (base:Nat) (ds o:List (DataW H)) (before:List MemPlace)
  (a: ∀(j:Nat) t v,Tryz.f3.params[j]? =some t->args[j]? =some v->Value.okWide Tryz.prog W .any base t v)
  (k:DataW.Whole enc Tryz.prog Tryz.f3.params.toList Rows.fnMessagesSpec.vars false W args.toList ds o before) :
  Calls Tryz.prog 3 args W fun e g=> ∃v,e= .returned v/\Rows.fnMessagesSpec.post enc Tryz.prog Tryz.f3 false true false false W args v g:=by
 have d:=k;obtain ⟨p,q,l,w,rfl,u,A⟩:=k;rw[Tryz.params3] at l a;obtain ⟨i,E,G,C,J,K,c,rfl,rfl,r,x⟩:=trodAll_cons l;obtain ⟨rfl,rfl,rfl⟩:=trodAll_nil x;obtain rfl:args= #[i]:=by cases args;simp_all
 obtain ⟨rfl,rfl⟩:=trodVars_none w;obtain ⟨m,h,rfl,F,b⟩:=D.aby (a 0 _ _ rfl rfl) r;have z:=D.CY m true (D.Fx m F) (I:=D.hp W) (w0:=W) i b (D.Lay.of (Fy B)) W [] (D.St.init W);refine z.mono fun e g ⟨v,y,hv,n⟩=>?_;subst y;subst hv;exact ⟨_,rfl,Tg (f:=Tryz.f3) (s:=Rows.fnMessagesSpec) 4 Tryz.underlying4 rfl (by kernel_rfl) rfl d rfl rfl rfl (D.St.below n)⟩
set_option maxRecDepth 100000 in
theorem yK (os:Os) (started:os.Started) (H:Type) (enc:TypeId×Value->H) :
  ReturnsInHanded {} Tryz.checked os 3 .any (fun w args=>(Rows.fnMessagesSpec.pre enc Tryz.prog Tryz.f3 [] false w args/\laidMetH Tryz.prog Rows.fnMessagesRow.laid w)/\sizedMet enc Tryz.prog Tryz.f3 (OpenSpec.ofChange Rows.fnMessagesSpec) false w args) (Rows.fnMessagesSpec.post enc Tryz.prog Tryz.f3 false true false false):=by
 refine returnsInHanded_of_change_and (C:=Tryz.checked) (X:=fun w _=>laidMetH Tryz.prog Rows.fnMessagesRow.laid w) (fun _ _ _ e h=>h.of_heap e) own started (by kernel_rfl) Tryz.func3
  (ChangeSpec.witness_shaped (enc:=enc) (C:=Tryz.checked) (os:=os) (X:=fun w _=>laidMetH Tryz.prog Rows.fnMessagesRow.laid w) false (World.doorLaid Tryz.prog 400 os) #[.slice none 0 0] 8 rfl (World.shaped_of_RefB (by kernel_rfl) (by kernel_rfl)) (by kernel_rfl) (by kernel_rfl) (by kernel_rfl) (C2 os _)) ?_
 intro W base args f c before a d _ _ b _;exact C3 W b args H enc base f c before a d
theorem zO:Rows.FnMessagesSaid:=
 OpenClaim.holds_of_wide 3 Tryz.f3 rfl rfl rfl rfl rfl rfl rfl ⟨rfl,rfl,rfl,rfl,rfl⟩ rfl rfl rfl rfl rfl (by kernel_rfl) Tryz.func3 closedLFnMessages
  (of_decide_eq_true (by kernel_rfl)) (by unfold Func.isWrapper;first | (rw[if_pos (by decide +kernel)];kernel_rfl) | (rw[if_neg (by decide +kernel)];exact ⟨rfl,rfl⟩))
  (fun b started H a _=>yK b started H a)
theorem cardLFnMessages:Rows.FnMessagesCardSaid:=
 Claim7.holds_tied_plain_at .later [] [.data,.data,.data] true (true,"0535d8d3f6f717256ad0ce517e162f6332e0d8c76a7eb7ac48152b59d4920289") false
  zO (fun _ h=>by cases h) (by kernel_rfl) (fun _ h=>by cases h) fnMessages_row_tie rfl ⟨rfl,rfl⟩ kf4FnMessages rfl
  (fun f d g b=>by
   obtain rfl:f=3:=ae (kf1FnMessages.symm.trans g) |>.symm;obtain rfl:d=Tryz.f3:=(ae (Tryz.func3.symm.trans b)).symm;exact ⟨kf2FnMessages,fun j t c=>by
    rw[Tryz.params3] at c;have e:t ∈ [22]:=by simpa using Array.mem_of_getElem? c
    have a:([22].all fun u=> !Tryz.prog.wantsStandIn u)=true:=by kernel_rfl
    exact (show Tryz.prog.wantsStandIn t=false by simpa using List.all_eq_true.1 a t e)⟩)
  kf3FnMessages
end Go.Proofs.YtncnbjfngmhfaaaGreatDoor
