/- FnCompaction: for every input the law returns true and changes nothing that was there. Part 8 of 9. -/
import Derived.Test.YtphjdcoponilmaaGreatDoorCC6
set_option synthInstance.maxSize 20000
set_option synthInstance.maxHeartbeats 2000000
set_option linter.unusedVariables false
set_option linter.unusedSimpArgs false
set_option linter.unnecessarySimpa false
set_option linter.unusedSectionVars false
set_option maxRecDepth 1000000
namespace Go.Proofs.YtphjdcoponilmaaGreatDoor
open Go.IntKind (i64)
namespace D
open Go.RowKit
section
variable {xs:List Int} {i h:Int}
theorem Z5 (t:xs.length<=1048576) {p:List Int×Int×Int} (hp:p.1=xs) (q:jE xs i) {n:Int} (u:0<=n/\n<=5): ∃s:Int×Int×Int×List Int×List Yq1,ah (eO p) aR (n,i,h,([] :List Int),([] :List Yq1))=some (.brk s)/\(s.2.2.2.1.length=n.toNat/\ ∀v∈s.2.2.2.1,0<=v/\v<=2)/\s.2.2.2.2= [] /\jE xs s.2.1:=by
 obtain ⟨s,e,o,d,l,g⟩:=fb (f:=eO p) (fun j s=>s.1=n - (j:Int)/\(s.2.2.2.1.length=j/\ ∀v∈s.2.2.2.1,0<=v/\v<=2)/\s.2.2.2.2= [] /\jE xs s.2.1) n.toNat (fun j s w c=>by
  obtain ⟨o,⟨d,m⟩,l,g⟩:=c;unfold eO;rw[o,hp,if_pos (by simp;omega)];obtain ⟨r,e,x,k⟩:=bN (h:=s.2.2.1) t g (n:=3) (by omega);rw[e];simp only[aa];rw[al (by simp only[aw,aD];omega)];simp only[aa];refine ⟨_,rfl,?_,⟨by simp[d],fun v hv=>?_⟩,l,k⟩
  ·show i64.wrap (n - (j:Int) - 1)=n - ((j+1:Nat):Int);rw[bd (by omega) (by omega)];omega
  ·rcases aI hv with hv | hv
   ·exact m v hv
   ·rw[aq hv];omega) (fun s c=>by
  unfold eO;rw[c.1,if_neg (by simp;omega)];obtain ⟨a,b⟩:=s;obtain rfl:a=_:=c.1
  rfl) (s:=(n,i,h,([] :List Int),([] :List Yq1))) ⟨by show n=n - 0;omega,⟨rfl,fun v hv=>by cases hv⟩,rfl,q⟩ (mB (by omega))
 exact ⟨s,e,d,l,g⟩
def EdD (n:Nat) (w:Int) (l:List Yq1):Prop:=(∀e∈l,(1<=e.1/\e.1<=w)/\(0<=e.2.1/\e.2.1<(n:Int))/\(0<=e.2.2.1/\e.2.2.1<(n:Int))/\0<=e.2.2.2/\e.2.2.2<=2)/\l.Pairwise fun a b=>a.1<b.1
theorem EdD.snoc {n:Nat} {w:Int} {l:List Yq1 } (H:EdD n w l) {e:Int×Int×Int×Int} (k:0<=w) (m:w<e.1) (h1:0<=e.2.1/\e.2.1<(n:Int)) (f:0<=e.2.2.1/\e.2.2.1<(n:Int)) (g:0<=e.2.2.2/\e.2.2.2<=2):EdD n e.1 (l++ [e]):=by
 refine ⟨fun u c=>?_,?_⟩
 ·rcases aI c with c | c
  ·have:=H.1 u c
   exact ⟨by omega,this.2⟩
  ·rw[aq c];exact ⟨by omega,h1,f,g⟩
 ·rw[List.pairwise_append];refine ⟨H.2,List.pairwise_singleton _ _,fun a d b j=>?_⟩;rw[aq j]
  have:=(H.1 a d).1
  omega
theorem Ng (o:xs.length<=1048576) (Z:jE xs i): ∃r:GrT×Int×Int,kA (xs,i,h)=some r/\(Data.sm r.1/\Xz r.1)/\jE xs r.2.1:=by
 unfold kA;simp only;obtain ⟨w,N,K,R⟩:=fc (h:=h) o Z (l:=[2,3,4,4,5]) (by simp);rw[N];simp only[aa];have K:2<=w.1/\w.1<=5:=by simp at K;omega
 obtain ⟨s,e,⟨h1,hv⟩,J,h3⟩:=Z5 (p:=(xs,i,h)) (h:=w.2.2) o rfl R (n:=w.1) (by omega);rw[af e];obtain ⟨m,H,t,A⟩:=fc (h:=s.2.2.1) o h3 (l:=[4,8,11]) (by simp);rw[H];simp only[aa];have t:4<=m.1/\m.1<=11:=by simp at t;omega
 obtain ⟨g,E,h11,C⟩:=bN (h:=m.2.2) o A (n:=m.1) (by omega);rw[E];simp only[aa];obtain ⟨q,eq,q1,G,q3,q4,F,q6⟩:=fb (f:=ij (xs,i,h)) (fun j z=>z.2.1=g.1 - (j:Int)/\z.2.2.2.2.1=s.2.2.2.1/\z.2.2.2.2.2.length=j/\(0<=z.1/\z.1<=3*(j:Int))/\EdD s.2.2.2.1.length z.1 z.2.2.2.2.2/\jE xs z.2.2.1) g.1.toNat (fun j z x y=>by
  obtain ⟨z1,Y,V,z5,z6,z4⟩:=y;unfold ij;rw[z1,Y,if_pos (by simp;omega)];obtain ⟨a,X,ha,Q⟩:=bN (h:=z.2.2.2.1) o z4 (n:=3) (by omega);rw[X];simp only[aa];obtain ⟨b,W,M,T⟩:=bN (h:=a.2.2) o Q (n:=(s.2.2.2.1.length:Int)) (by omega);rw[W];simp only[aa];obtain ⟨c,L,D,P⟩:=bN (h:=b.2.2) o T (n:=(s.2.2.2.1.length:Int)) (by omega);rw[L];simp only[aa];obtain ⟨d,ed,I,U⟩:=fc (h:=c.2.2) o P (l:=[0,0,1,2]) (by simp);rw[ed];simp only[aa];have I:0<=d.1/\d.1<=2:=by simp at I;omega
  rw[al (by simp only[aw,aD];omega)];simp only[aa];have S:i64.wrap (i64.wrap (z.1+1)+a.1)=z.1+1+a.1:=by
   rw[bd (n:=z.1+1) (by omega) (by omega),bd (by omega) (by omega)]
  rw[S];refine ⟨_,rfl,?_,rfl,by simp[V],?_,?_,U⟩
  ·show i64.wrap (g.1 - (j:Int) - 1)=g.1 - ((j+1:Nat):Int);rw[bd (by omega) (by omega)];omega
  ·show 0<=z.1+1+a.1/\z.1+1+a.1<=3*((j+1:Nat):Int);omega
  ·exact EdD.snoc (e:=(z.1+1+a.1,b.1,c.1,d.1)) z6 z5.1 (by show z.1<z.1+1+a.1;omega) M D I) (fun z y=>by
  unfold ij;rw[y.1,if_neg (by simp;omega)];obtain ⟨a,b,c⟩:=z;obtain rfl:b=_:=y.1
  rfl) (s:=(0,g.1,g.2.1,g.2.2,s.2.2.2.1,s.2.2.2.2)) ⟨by show g.1=g.1 - 0;omega,rfl,by rw[J];rfl,⟨Int.le_refl _,by show (0:Int)<=3*0;omega⟩,by rw[J];exact ⟨fun e O=>(by cases O),List.Pairwise.nil⟩,C⟩ (mB (by omega))
 rw[af eq];have k:q.2.2.2.2.1.length=w.1.toNat:=by rw[G,h1]
 refine ⟨_,rfl,⟨⟨⟨?_,fun _ _=>trivial⟩,?_,fun _ _=>⟨trivial,trivial,trivial,trivial⟩⟩,⟨?_,?_,?_,?_,?_,?_⟩,?_⟩,q6⟩
 ·show q.2.2.2.2.1.length<=_;rw[k];omega
 ·show q.2.2.2.2.2.length<=_;omega
 ·show 1<=q.2.2.2.2.1.length;rw[k];omega
 ·show q.2.2.2.2.1.length<=5;rw[k];omega
 ·show q.2.2.2.2.2.length<=12;omega
 ·show∀v∈q.2.2.2.2.1,_
  rw[G];exact hv
 ·intro u B
  have:=(F.1 u B).2
  show (0<=u.2.1/\u.2.1<(q.2.2.2.2.1.length:Int))/\(0<=u.2.2.1/\u.2.2.1<(q.2.2.2.2.1.length:Int))/\0<=u.2.2.2/\u.2.2.2<=2;rw[G];exact this
 ·intro j x;have x:j+1<q.2.2.2.2.2.length:=x
  have:=List.pairwise_iff_getElem.1 F.2 j (j+1) (by omega) x (by omega)
  show (nth q.2.2.2.2.2 (j:Int)).1<(nth q.2.2.2.2.2 ((j+1:Nat):Int)).1;rw[bJ (by omega),bJ x];exact this
 ·intro u B
  have:=(F.1 u B).1
  omega
end
theorem zB (m:Nat):BitVec.ofInt 64 (m:Int)=BitVec.ofNat 64 m:=by simp
theorem Sl {m n:Nat} (a:m<2 ^ 62) (b:n<2 ^ 62):sd (m:Int) (n:Int)=((m &&& n:Nat):Int):=by
 unfold sd;rw[zB,zB,BitVec.toNat_and,BitVec.toNat_ofNat,BitVec.toNat_ofNat,Nat.mod_eq_of_lt (by omega),Nat.mod_eq_of_lt (by omega)]
 have:m &&& n<=m:=Nat.and_le_left
 exact bd (by omega) (by omega)
theorem Nh {m n:Nat} (a:m<2 ^ 62) (b:n<2 ^ 62):orI (m:Int) (n:Int)=((m ||| n:Nat):Int):=by
 unfold orI;rw[zB,zB,BitVec.toNat_or,BitVec.toNat_ofNat,BitVec.toNat_ofNat,Nat.mod_eq_of_lt (by omega),Nat.mod_eq_of_lt (by omega)]
 have:m ||| n<2 ^ 62:=Nat.or_lt_two_pow a b
 exact bd (by omega) (by omega)
theorem Hx {m i:Nat} (hi:i<64):pA (m:Int) (i:Int)=((m >>> i:Nat):Int):=by
 unfold pA;rw[show min (i:Int).toNat 64=i from by simp;omega,Nat.shiftRight_eq_div_pow,Int.fdiv_eq_ediv_of_nonneg _ (by exact_mod_cast Nat.zero_le _)];simp
theorem AP {i:Nat} (hi:i<62):yj 1 (i:Int)=((2 ^ i:Nat):Int):=by
 unfold yj;rw[show min (i:Int).toNat 64=i from by simp;omega,Int.one_mul]
 have:2 ^ i<2 ^ 62:=Nat.pow_lt_pow_right (by decide) hi
 rw[show ((2:Int) ^ i)=((2 ^ i:Nat):Int) from by simp];generalize 2 ^ i=z at this;exact bd (by omega) (by omega)
theorem D2 {m i:Nat} (a:m<2 ^ 62) (hi:i<64):((sd (pA (m:Int) (i:Int)) 1)==1)=m.testBit i:=by
 have b:m >>> i<2 ^ 62:=Nat.lt_of_le_of_lt (by rw[Nat.shiftRight_eq_div_pow];exact Nat.div_le_self _ _) a;rw[Hx hi,show (1:Int)=((1:Nat):Int) from rfl,Sl b (by decide),Nat.testBit,Nat.and_comm];have e:m >>> i &&& 1=m >>> i % 2:=Nat.and_one_is_mod _;rw[Nat.and_comm 1,e];rcases Nat.mod_two_eq_zero_or_one (m >>> i) with h | h <;> rw[h] <;> rfl
theorem V0 {m i:Nat} (a:m<2 ^ 62) (hi:i<64):((sd (pA (m:Int) (i:Int)) 1)==0)= !m.testBit i:=by
 have b:m >>> i<2 ^ 62:=Nat.lt_of_le_of_lt (by rw[Nat.shiftRight_eq_div_pow];exact Nat.div_le_self _ _) a;rw[Hx hi,show (1:Int)=((1:Nat):Int) from rfl,Sl b (by decide),Nat.testBit,Nat.and_comm];have e:m >>> i &&& 1=m >>> i % 2:=Nat.and_one_is_mod _;rw[Nat.and_comm 1,e];rcases Nat.mod_two_eq_zero_or_one (m >>> i) with h | h <;> rw[h] <;> rfl
def gY (m k:Nat):List Int:=((List.range k).filter fun i=>m.testBit i).map fun (i:Nat)=>(i:Int)
theorem mP (m k:Nat):gY m (k+1)=if m.testBit k then gY m k++ [(k:Int)] else gY m k:=by
 unfold gY;rw[List.range_succ,List.filter_append,aX];by_cases h:m.testBit k=true
 ·simp[h]
 ·simp[h]
theorem wu {m k l:Nat} (h:m<2 ^ k) (a:k<=l):gY m l=gY m k:=by
 induction a with
 | refl=>rfl
 | step a ih =>
  rw[mP,Nat.testBit_lt_two_pow (aG h (Nat.pow_le_pow_right (by decide) a)),ih];rfl
theorem vE {m k:Nat} {x:Int} :x∈gY m k↔ ∃i:Nat,i<k/\m.testBit i=true/\x=(i:Int):=by
 unfold gY;simp only[List.mem_map,List.mem_filter,List.mem_range];constructor
 ·rintro ⟨i,⟨a,b⟩,rfl⟩;exact ⟨i,a,b,rfl⟩
 ·rintro ⟨i,a,b,rfl⟩;exact ⟨i,⟨a,b⟩,rfl⟩
theorem o8 (m k:Nat):(gY m k).length<=k:=by
 unfold gY;rw[List.length_map];exact Nat.le_trans (List.length_filter_le _ _) (by simp)
theorem FX {m:Nat} : ∀ {k:Nat},(∀i,i<k->m.testBit i=false)->gY m k= []
 | 0,_=>rfl
 | k+1,h=>by rw[mP,h k (by omega),FX fun i a=>h i (by omega)];rfl
theorem Jy {s k:Nat} (h:s<k):gY (2 ^ s) k= [(s:Int)]:=by
 rw[wu (k:=s+1) (Nat.pow_lt_pow_right (by decide) (by omega)) h,mP,Nat.testBit_two_pow,FX fun i a=>by rw[Nat.testBit_two_pow];simp;omega];simp
theorem xn (m i j:Nat):(m ||| 2 ^ i).testBit j=(m.testBit j || decide (i=j)):=by
 rw[Nat.testBit_or,Nat.testBit_two_pow]
theorem zC {m i k:Nat} (h:m<2 ^ k) (hi:i<k):m ||| 2 ^ i<2 ^ k:=Nat.or_lt_two_pow h (Nat.pow_lt_pow_right (by decide) hi)
theorem V1 {m i:Nat} (h:m >>> i=0):m<2 ^ i:=by
 rw[Nat.shiftRight_eq_div_pow] at h;exact (Nat.div_eq_zero_iff_lt (Nat.two_pow_pos i)).1 h
theorem mQ {p:Prop} [Decidable p] (h:p):chk p=some ():=by unfold chk;rw[if_pos h]
def afi {R S T:Type} (φ:S->T):Out R S->Out R T
 | .ret r=>.ret r
 | .nxt s=>.nxt (φ s)
 | .brk s=>.brk (φ s)
theorem Jz {R S T:Type} {f:S->Option (Out R S)} {f':T->Option (Out R T)} (φ:S->T) (Inv:S->Prop)
  (h: ∀s,Inv s->f' (φ s)=(f s).map (afi φ)) (hi: ∀s s',Inv s->f s=some (.nxt s')->Inv s'): ∀n s,Inv s->ah f' n (φ s)=(ah f n s).map (afi φ)
 | 0,_,_=>rfl
 | n+1,s,hs=>by
  have e:=h s hs;unfold ah;rw[e];cases a:f s with
  | none=>rfl
  | some o =>
   cases o with
   | ret r=>rfl
   | brk s'=>rfl
   | nxt s'=>exact Jz φ Inv h hi n s' (hi s s' hs a)
theorem p62 {n:Nat} (h:n<=30):2 ^ n<=2 ^ 62:=Nat.pow_le_pow_right (by decide) (by omega)
theorem vF {M:Nat} (g:M<2 ^ 30):kO (M:Int)=some (gY M 30):=by
 have a:M<2 ^ 62:=aG g (p62 (by decide));obtain ⟨o,e,n⟩:=bW (f:=rM (M:Int)) (fun i s=>s=(gY M i,(i:Int))) (fun o=> ∃k,o= .brk (gY M 30,k)) 30 (s:=([],0)) (by
  rintro i s l rfl;unfold rM;have m:chk ((0:Int)<=(i:Int))=some ():=by unfold chk;rw[if_pos (by omega)]
  simp only[m,aa];by_cases c:M >>> i=0
  ·refine .inr ⟨.brk (gY M i,(i:Int)),?_,(fun p e=>by cases e),(i:Int),by rw[wu (V1 c) l]⟩;rw[Hx (by omega),c];rfl
  ·have d:i<30:=by
    rcases Nat.lt_or_ge i 30 with h | h
    ·exact h
    ·exfalso;apply c
     rw[Nat.shiftRight_eq_div_pow];exact Nat.div_eq_of_lt (aG g (Nat.pow_le_pow_right (by decide) h))
   refine .inl ⟨d,(gY M (i+1),((i+1:Nat):Int)),?_,rfl⟩;have j:((pA (M:Int) (i:Int)) !=0)=true:=by
    rw[Hx (by omega)];simp only[bne_iff_ne,ne_eq];omega
   rw[if_pos j,D2 a (by omega),mP,ae (by omega)];by_cases b:M.testBit i=true
   ·rw[if_pos b,if_pos b,al (by have:=o8 M i;simp;omega)];rfl
   ·rw[if_neg b,if_neg b];rfl) rfl (by unfold aR;omega)
 obtain ⟨k,rfl⟩:=n;unfold kO;exact af e
def ClI (n:Nat) (i:Nat) (st:Int×Int):Prop:=(-1<=st.2/\st.2<n)/\ ∃(M:Nat) (L:List Int),st.1=(M:Int)/\M<2 ^ n/\L.length=i/\L.Nodup/\(∀x∈L,0<=x/\x<n)/\ ∀j:Nat,M.testBit j=true↔(j:Int)∈L
theorem acD {n:Nat} {L:List Int} (h:L.Nodup) (k: ∀x∈L,0<=x/\x<n):L.length<=n:=by
 have:=h.length_le_of_subset (l₂:=(List.range n).map fun i:Nat=>(i:Int)) (fun x a=>by
  obtain ⟨b,c⟩:=k x a;exact List.mem_map.2 ⟨x.toNat,List.mem_range.2 (by omega),by omega⟩)
 simpa using this
section
variable {a:AutT} {n:Nat} (V:VA a n) (hn:n<=12)
include V hn
theorem Z6 {v:Int} (hv:0<=v/\v<=2) {i:Nat} {e:Int×Int} (h:ClI n i (e.2,e.1)) :
  (i<n/\ ∃st',eC a v e=some (.nxt st')/\ClI n (i+1) (st'.2,st'.1))\/eC a v e=some (.brk e):=by
 obtain ⟨⟨A,t⟩,M,L,z,o,D,q,r,l⟩:=h;obtain ⟨s,m⟩:=e;obtain rfl:m=(M:Int):=z;have f:M<2 ^ 62:=aG o (p62 (by omega));unfold eC;simp only at A t⊢;by_cases c:s≥0
 ·obtain ⟨k,rfl⟩: ∃k:Nat,s=(k:Int):=⟨s.toNat,by omega⟩;have B:k<n:=by omega
  have w:chk ((0:Int)<=(k:Int))=some ():=by unfold chk;rw[if_pos (by omega)]
  simp only[w,aa];rw[if_pos (by simp),V0 f (by omega)];by_cases b:M.testBit k=true
  ·right;rw[if_neg (by simp[b])]
  ·left;have p:(k:Int)∉L:=fun C=>b ((l k).2 C);have g:=acD (n:=n) (L:=(k:Int)::L) (List.nodup_cons.2 ⟨p,q⟩) (fun x d=>by
    rcases aB d with rfl | d
    ·omega
    ·exact r x d)
   simp only[aw] at g;obtain ⟨u,rfl⟩: ∃u:Nat,v=(u:Int):=⟨v.toNat,by omega⟩;have E:u<=2:=by omega
   have y:i64.wrap (6+(u:Int))=((6+u:Nat):Int):=by rw[bd (by omega) (by omega)];omega
   refine ⟨by omega,(mv a (k:Int) (6+u),((M ||| 2 ^ k:Nat):Int)),?_,?_,M ||| 2 ^ k,(k:Int)::L,rfl,zC o B,by simp[D],List.nodup_cons.2 ⟨p,q⟩,?_,?_⟩
   ·rw[if_pos (by simp[b]),y,V.get (s:=(k:Int)) (by omega) (by omega)];simp only[aa];rw[V.get2 (s:=(k:Int)) (k:=6+u) (by omega) (by omega) (by omega),AP (by omega),Nh f (Nat.pow_lt_pow_right (by decide) (by omega))];rfl
   ·exact V.mv (by omega) (by omega) (by omega)
   ·intro x d;rcases aB d with rfl | d
    ·omega
    ·exact r x d
   ·intro j;rw[xn,Bool.or_eq_true,l j,List.mem_cons,decide_eq_true_eq];constructor
    ·rintro (h | h)
     ·exact .inr h
     ·left;omega
    ·rintro (h | h)
     ·right;omega
     ·exact .inl h
 ·right;rw[if_neg (by simpa using c)]
theorem JA {s v:Int} (hs:0<=s/\s<n) (hv:0<=v/\v<=2): ∃C:Nat,dx a s v=some (C:Int)/\C<2 ^ n:=by
 have l:ClI n 0 (0,s):=⟨⟨by simp only;omega,hs.2⟩,0,[],rfl,Nat.two_pow_pos n,rfl,List.nodup_nil,by simp,by simp⟩;obtain ⟨o,e,C,b,rfl,k⟩:=bW (f:=eC a v) (fun i c=>ClI n i (c.2,c.1)) (fun o=> ∃(C:Nat) (b:Int),o= .brk (b,(C:Int))/\C<2 ^ n) n (s:=(s,0)) (fun i c p h=>by
  rcases Z6 V hn hv h with d | d
  ·exact .inl d
  ·obtain ⟨_,M,L,j,g,_⟩:=h;obtain ⟨b,m⟩:=c;obtain rfl:m=(M:Int):=j;exact .inr ⟨_,d,(fun b e=>by cases e),M,b,rfl,g⟩) l (by unfold aR;omega)
 exact ⟨C,by unfold dx;exact af e,k⟩
end
def cS (a:AutT) (s v:Int):Nat:=((dx a s v).getD 0).toNat
section
variable {a:AutT} {n:Nat} (V:VA a n) (hn:n<=12)
include V hn
theorem Sn {s v:Int} (hs:0<=s/\s<n) (hv:0<=v/\v<=2):dx a s v=some (cS a s v:Int)/\cS a s v<2 ^ n:=by
 obtain ⟨C,e,h⟩:=JA V hn hs hv;unfold cS;rw[e];exact ⟨rfl,by simpa using h⟩
theorem D3 {s v:Int} (hs:0<=s/\s<n) (hv:0<=v/\v<=2):dx a s v=some (cS a s v:Int):=(Sn V hn hs hv).1
theorem V2 {s v:Int} (hs:0<=s/\s<n) (hv:0<=v/\v<=2):cS a s v<2 ^ n:=(Sn V hn hs hv).2
theorem JB {s v:Int} (hs:0<=s/\s<n) (hv:0<=v/\v<=2):mx a s v=some (cS a s v:Int)/\cS a s v<2 ^ n:=by
 refine ⟨?_,V2 V hn hs hv⟩;have e:=D3 V hn hs hv;have k:=Jz (f:=lS a v) (f':=eC a v) (fun h=>(h.2,h.1)) (fun h=> -1<=h.2/\h.2<n) (by
  rintro ⟨m,s⟩ ⟨j,d⟩;unfold eC lS;simp only at j d⊢;by_cases c:0<=s
  ·simp only[decide_eq_true (show s≥0 from c),if_true,mQ c,aa];have i:i64.wrap (6+v)=(((6+v).toNat:Nat):Int):=by rw[bd (by omega) (by omega)];omega
   have g:=MY V (s:=s) (k:=(6+v).toNat) c d (by omega);have g:cm (a.1,a.2.1,a.2.2) s (((6+v).toNat:Nat):Int)=_:=g;rw[i,g,V.get c d];simp only[aa];rw[V.get2 c d (by omega)];simp only[aa];split <;> rfl
  ·simp only[decide_eq_false (show¬s≥0 from c),Bool.false_eq_true,if_false];rfl) (by
  rintro ⟨m,s⟩ ⟨q,l⟩ ⟨j,d⟩ b;unfold lS at b;simp only at j d b⊢;by_cases c:0<=s
  ·simp only[decide_eq_true (show s≥0 from c),if_true,mQ c,aa] at b;have i:i64.wrap (6+v)=(((6+v).toNat:Nat):Int):=by rw[bd (by omega) (by omega)];omega
   have g:=MY V (s:=s) (k:=(6+v).toNat) c d (by omega);have g:cm (a.1,a.2.1,a.2.2) s (((6+v).toNat:Nat):Int)=_:=g;rw[i,g] at b;simp only[aa] at b;split at b
   ·cases b;exact V.mv c d (by omega)
   ·cases b
  ·simp only[decide_eq_false (show¬s≥0 from c),Bool.false_eq_true,if_false] at b;cases b) aR (0,s) ⟨by simp only;omega,hs.2⟩
 unfold dx at e;unfold mx;simp only at k;rw[k] at e;cases p:ah (lS a v) aR (0,s) with
 | none=>rw[p] at e;cases e
 | some o =>
  rw[p] at e;cases o with
  | ret r=>exact e
  | brk l=>exact e
  | nxt l=>cases e
end
def afS (a:AutT) (k:Nat) (C:Nat):Nat->Nat
 | 0=>0
 | q+1=>if C.testBit q=true/\0<=mv a (q:Int) k then afS a k C q ||| 2 ^ (mv a (q:Int) k).toNat else afS a k C q
def afL (a:AutT) (k:Nat) (l:List Int):Nat:=l.foldl (fun m t=>if 0<=mv a t k then m ||| 2 ^ (mv a t k).toNat else m) 0
theorem Lo (a:AutT) (k C:Nat): ∀q,afL a k (gY C q)=afS a k C q
 | 0=>rfl
 | q+1=>by
  rw[mP,afS];by_cases b:C.testBit q=true
  ·rw[if_pos b];unfold afL;rw[List.foldl_append]
   have:=Lo a k C q
   unfold afL at this;rw[this];simp[b]
  ·rw[if_neg b,if_neg (fun h=>b h.1)];exact Lo a k C q
section
variable {a:AutT} {n:Nat} (V:VA a n) (hn:n<=12)
include V
theorem So {k C:Nat} (b:k<9): ∀q,q<=n->afS a k C q<2 ^ n
 | 0,_=>Nat.two_pow_pos n
 | q+1,hq=>by
  rw[afS]
  have:=So (C:=C) b q (by omega)
  split
  ·rename_i c
   have:=(V.mv (s:=(q:Int)) (by omega) (by omega) b).2
   exact zC (by assumption) (by omega)
  ·exact this
theorem XA {k:Nat} (d:k<9) {l:List Int} (h: ∀x∈l,0<=x/\x<n):afL a k l<2 ^ n:=by
 unfold afL;have key: ∀(l:List Int) (m:Nat),(∀x∈l,0<=x/\x<n)->m<2 ^ n->l.foldl (fun m t=>if 0<=mv a t k then m ||| 2 ^ (mv a t k).toNat else m) m<2 ^ n:=by
  intro l;induction l with
  | nil=>intro m _ h;exact h
  | cons x l ih =>
   intro m b c;rw[List.foldl_cons];refine ih _ (fun y e=>b y (by simp[e])) ?_;split
   ·have:=(V.mv (b x (by simp)).1 (b x (by simp)).2 d).2
    exact zC c (by omega)
   ·exact c
 exact key l 0 h (Nat.two_pow_pos n)
include hn
theorem zD {C:Nat} (d:C<2 ^ n): ∀x∈gY C 30,0<=x/\x<(n:Int):=by
 intro x c;obtain ⟨i,e,b,rfl⟩:=vE.1 c;refine ⟨by omega,?_⟩;rcases Nat.lt_or_ge i n with h | h
 ·omega
 ·rw[Nat.testBit_lt_two_pow (aG d (Nat.pow_le_pow_right (by decide) h))] at b;cases b
theorem OU {k:Nat} (u:k<6) {l:List Int} (h: ∀x∈l,0<=x/\x<n) (g:l.length<=30):ah (oU a (k:Int) l) aR (0,0)=some (.brk ((afL a k l:Int),(l.length:Int))):=by
 have:=aQ (f:=oU a (k:Int) l) (fun i=>((afL a k (l.take i):Int),(i:Int))) l.length (fun i j=>by
  unfold oU;simp only;have b:=h _ (bG (xs:=l) (i:=(i:Int)) (by omega) (by omega));rw[if_pos (by simp;omega),ai (by omega) (by omega)];simp only[aa];have e:=MY V (s:=nth l (i:Int)) (k:=k) b.1 b.2 (by omega);have e:cm (a.1,a.2.1,a.2.2) (nth l (i:Int)) (k:Int)=_:=e;rw[e,ae (by omega)];simp only[aa];have p:l.take (i+1)=l.take i++ [nth l (i:Int)]:=by rw[List.take_add_one,bJ j];simp[j]
  have q:afL a k (l.take (i+1))=if 0<=mv a (nth l (i:Int)) k then afL a k (l.take i) ||| 2 ^ (mv a (nth l (i:Int)) k).toNat else afL a k (l.take i):=by
   rw[p];unfold afL;rw[List.foldl_append];rfl
  have d:=XA V (k:=k) (by omega) (l:=l.take i) (fun x b=>h x (List.mem_of_mem_take b));have o:=(V.mv (s:=nth l (i:Int)) (k:=k) b.1 b.2 (by omega)).2;rw[q];by_cases c:0<=mv a (nth l (i:Int)) k
  ·rw[if_pos (by simpa using c),if_pos c];obtain ⟨t,r⟩: ∃t:Nat,mv a (nth l (i:Int)) k=(t:Int):=⟨_,(Int.toNat_of_nonneg c).symm⟩;have m:chk ((0:Int)<=mv a (nth l (i:Int)) k)=some ():=by unfold chk;rw[if_pos c]
   rw[m,r,AP (by omega),Nh (aG d (p62 (by omega))) (Nat.pow_lt_pow_right (by decide) (by omega))];rfl
  ·rw[if_neg (by simpa using c),if_neg c];rfl) (by unfold oU;simp) (mB (by omega))
 simpa [afL] using this
theorem acE {s v:Int} {k:Nat} (hs:0<=s/\s<n) (hv:0<=v/\v<=2) (g:k<6):uO a (yj 1 s) v (k:Int)=some (afL a k (gY (cS a s v) 30):Int):=by
 obtain ⟨t,rfl⟩: ∃t:Nat,s=(t:Int):=⟨s.toNat,by omega⟩;obtain ⟨b,d⟩:=JB V hn hs hv;have h:cS a (t:Int) v<2 ^ 30:=aG d (Nat.pow_le_pow_right (by decide) (by omega));unfold uO;rw[AP (by omega),vF (Nat.pow_lt_pow_right (by decide) (by omega)),Jy (by omega)];simp only[aa];have e:kP a v (k:Int) [(t:Int)] (0,0)=some (.nxt ((afL a k (gY (cS a (t:Int) v) 30):Int),1)):=by
  unfold kP;simp only;rw[if_pos (by simp),show aO [(t:Int)] 0=some (t:Int) from rfl];simp only[aa];have b:mx (a.1,a.2.1,a.2.2) (t:Int) v=_:=b;rw[b];simp only[aa];rw[vF h];simp only[aa];rw[OU V hn g (zD V hn d) (o8 _ _)]
  rfl
 have c: ∀m:Int,kP a v (k:Int) [(t:Int)] (m,1)=some (.brk (m,1)):=fun m=>by
  unfold kP;rw[if_neg (by simp)]
 have:=aQ (f:=kP a v (k:Int) [(t:Int)]) (fun i=>if i=0 then (0,0) else ((afL a k (gY (cS a (t:Int) v) 30):Int),1)) 1 (fun i j=>by
  obtain rfl:i=0:=by omega
  exact e) (c _) (by unfold aR;omega)
 have this:ah (kP a v (k:Int) [(t:Int)]) aR (0,0)=some (.brk ((afL a k (gY (cS a (t:Int) v) 30):Int),1)):=this;rw[this];rfl
end
def rm {α:Type} (N:Nat) (F:Nat->α):List α:=(List.range N).map F
section
variable {α:Type} {N:Nat} {F G:Nat->α}
theorem D4:(rm N F).length=N:=by simp[rm]
theorem pT (h: ∀z,z<N->F z=G z):rm N F=rm N G:=by
 unfold rm;exact List.map_congr_left fun z a=>h z (List.mem_range.1 a)
theorem D5 {c:Nat} (h:c<N):aO (rm N F) (c:Int)=some (F c):=by
 rw[aC (by rw[D4];exact h)];simp[rm]
theorem Sp {c:Nat} {v:α} :(rm N F).set c v=rm N fun z=>if z=c then v else F z:=by
 refine List.ext_getElem (by simp[rm]) fun i a b=>?_;simp only[rm,List.getElem_set,List.getElem_map,List.getElem_range];by_cases e:c=i
 ·subst e;simp
 ·rw[if_neg e,if_neg (fun h=>e h.symm)]
theorem ye {xs:List α} [Inhabited α] {k:Nat} (h:k<xs.length):xs.take (k+1)=xs.take k++ [nth xs (k:Int)]:=by
 rw[List.take_add_one,bJ h];simp[h]
end
theorem XB {α:Type} {b n:Nat} {z:α} (h:n*b<=140737488355328):mkI b (n:Int) z=some (rm n fun _=>z):=by
 have:rm n (fun _=>z)=List.replicate n z:=by
  unfold rm;exact List.ext_getElem (by simp) fun i a c=>by simp
 rw[this,ab6 h]
abbrev EdT:=Int×Int×Int×Int
abbrev ArT:=(Int×Bool)×Int×Int
def fwd (e:EdT):ArT:=((e.1,false),2*e.2.2.2,e.2.2.1)
def inv (e:EdT):ArT:=((e.1,true),2*e.2.2.2+1,e.2.1)
def XC (e:EdT) (x:Int):List ArT:=(if e.2.1=x then [fwd e] else [])++(if e.2.2.1=x then [inv e] else [])
def nK (es:List EdT) (x:Nat):List ArT:=es.flatMap fun e=>XC e x
theorem V3 (e:EdT) (x:Int):(XC e x).length<=2:=by
 unfold XC;rw[au];split <;> split <;> simp
theorem vG {α β:Type} {f:α->List β} {B:Nat} : ∀ {xs:List α},(∀x∈xs,(f x).length<=B)->(xs.flatMap f).length<=B*xs.length
 | [],_=>by simp
 | x::xs,h=>by
  rw[List.flatMap_cons,au,aw,Nat.mul_add]
  have:=h x (by simp)
  have:=vG (xs:=xs) fun y a=>h y (by simp[a])
  omega
theorem wv (a:List EdT) (x:Nat):(nK a x).length<=2*a.length:=vG fun e _=>V3 e x
theorem Sq (e:EdT) (h:0<=e.2.2.2/\e.2.2.2<=2) (b:Bool):uN e b=some (if b then 2*e.2.2.2+1 else 2*e.2.2.2):=by
 unfold uN;rw[bd (n:=2*e.2.2.2) (by omega) (by omega),bd (by omega) (by omega)];cases b <;> rfl
theorem acF {g:GrT} (G:GOk g):yL g=some (rm g.1.length (nK g.2)):=by
 unfold yL;rw[XB (by have:=G.n5;omega)];simp only[aa]
 have:=aQ (f:=qu g) (fun i=>((i:Int),rm g.1.length (nK (g.2.take i)))) g.2.length (fun i u=>by
  unfold qu;simp only;have v:=G.m;obtain ⟨⟨c,l⟩,⟨h,m⟩,b⟩:=G.edge _ (bG (xs:=g.2) (i:=(i:Int)) (by omega) (by omega));rw[if_pos (by simp;omega),ai (by omega) (by omega)];simp only[aa];generalize o:nth g.2 (i:Int)=e at c l h m b;obtain ⟨id,n,k,j⟩:=e;obtain ⟨p,rfl⟩: ∃p:Nat,n=(p:Int):=⟨n.toNat,by simp only at c;omega⟩;obtain ⟨q,rfl⟩: ∃q:Nat,k=(q:Int):=⟨k.toNat,by simp only at h;omega⟩;simp only at c l h m b;have hp:p<g.1.length:=by omega
  have r:q<g.1.length:=by omega
  have s:=Sq (id,(p:Int),(q:Int),j) b false;have t:=Sq (id,(p:Int),(q:Int),j) b true;have w:=wv (g.2.take i) p;have x:=wv (g.2.take i) q;have A:(g.2.take i).length<=12:=by rw[az];omega
  simp only[D5 hp,D5 r,aa,s,t,Int.toNat_natCast,Sp,Bool.false_eq_true,if_false,if_true];rw[al (by simp;omega)];simp only[aa,Sp];rw[mQ (by rw[D4];omega),mQ trivial];simp only[aa];rw[al (by split <;> simp <;> omega)];simp only[aa];rw[mQ (by rw[D4];omega)];simp only[aa]
  try rw[mQ rfl];simp only[aa]
  rw[ae (by omega)];congr 3;refine pT fun z y=>?_;rw[ye u,o];unfold nK;rw[List.flatMap_append];simp only[List.flatMap_cons,List.flatMap_nil,List.append_nil,XC];by_cases d:z=q
  ·subst d;by_cases a:z=p
   ·subst a;simp[fwd,inv]
   ·simp[a,fwd,inv,show¬((p:Int)=(z:Int)) from by omega]
  ·by_cases a:z=p
   ·subst a;simp[d,fwd,inv,show¬((q:Int)=(z:Int)) from by omega]
   ·simp[d,a,show¬((p:Int)=(z:Int)) from by omega,show¬((q:Int)=(z:Int)) from by omega]) (by unfold qu;simp) (mB (by have:=G.m;omega))
 have this:ah (qu g) aR (0,rm g.1.length fun _=>[])=_:=this;rw[this,List.take_length];rfl
def behind (a:AutT) (s v k:Int):List Int:=gY (afL a k.toNat (gY (cS a s v) 30)) 30
def nbA (g:GrT) (a:AutT) (x s:Nat) (y:ArT):List Int:=(behind a s (nth g.1 x) y.2.1).map fun t=>y.2.2*(a.2.1.length:Int)+t
def nbV (g:GrT) (a:AutT) (x s:Nat):List Int:=(nK g.2 x).flatMap (nbA g a x s)
def nbC (g:GrT) (a:AutT) (c:Nat):List Int:=nbV g a (c / a.2.1.length) (c % a.2.1.length)
theorem D6 {g:GrT} (G:GOk g) {x:Nat} {y:ArT} (h:y∈nK g.2 x):(0<=y.2.1/\y.2.1<6)/\0<=y.2.2/\y.2.2<g.1.length:=by
 obtain ⟨e,d,a⟩:=List.mem_flatMap.1 h;obtain ⟨b,c,f⟩:=G.edge e d;unfold XC at a;rcases aI a with a | a <;> split at a
 ·obtain rfl:y=fwd e:=by simpa using a
  exact ⟨⟨by simp[fwd];omega,by simp[fwd];omega⟩,c⟩
 ·cases a
 ·obtain rfl:y=inv e:=by simpa using a
  exact ⟨⟨by simp[inv];omega,by simp[inv];omega⟩,b⟩
 ·cases a
section
variable {g:GrT} {a:AutT} (G:GOk g) (V:VA a a.2.1.length) (hn:a.2.1.length<=12)
include G V hn
theorem zF {s v:Int} {k:Int} (hs:0<=s/\s<a.2.1.length) (hv:0<=v/\v<=2) (d:0<=k/\k<6):(∀t∈behind a s v k,0<=t/\t<(a.2.1.length:Int))/\(behind a s v k).length<=30/\afL a k.toNat (gY (cS a s v) 30)<2 ^ 30:=by
 have c:=V2 V hn hs hv;have b:=XA V (k:=k.toNat) (by omega) (zD V hn c);exact ⟨zD V hn b,o8 _ _,aG b (Nat.pow_le_pow_right (by decide) (by omega))⟩
theorem XD {x s:Nat} {y:ArT} (k:x<g.1.length) (hs:s<a.2.1.length) (h:y∈nK g.2 x): ∀z∈nbA g a x s y,0<=z/\z<((a.2.1.length*g.1.length:Nat):Int):=by
 intro z c;obtain ⟨t,e,rfl⟩:=List.mem_map.1 c;obtain ⟨b,j,f⟩:=D6 G h;have hv:=G.val _ (bG (xs:=g.1) (i:=(x:Int)) (by omega) (by omega));obtain ⟨l,m⟩:=(zF G V hn (s:=(s:Int)) ⟨by omega,by omega⟩ hv b).1 t e;obtain ⟨q,d⟩: ∃q:Nat,y.2.2=(q:Int):=⟨y.2.2.toNat,by omega⟩;obtain ⟨r,rfl⟩: ∃r:Nat,t=(r:Int):=⟨t.toNat,by omega⟩;rw[d] at f⊢
 have:q*a.2.1.length+r<g.1.length*a.2.1.length:=by
  have:(q+1)*a.2.1.length<=g.1.length*a.2.1.length:=Nat.mul_le_mul_right _ (by omega)
  rw[Nat.add_mul] at this;omega
 rw[Nat.mul_comm a.2.1.length];constructor
 ·exact_mod_cast Nat.zero_le _
 ·exact_mod_cast this
theorem acG {x s:Nat} (c:x<g.1.length) (hs:s<a.2.1.length): ∀z∈nbV g a x s,0<=z/\z<((a.2.1.length*g.1.length:Nat):Int):=by
 intro z b;obtain ⟨y,d,b⟩:=List.mem_flatMap.1 b;exact XD G V hn c hs d z b
theorem Sr {x s:Nat} {y:ArT} (b:x<g.1.length) (hs:s<a.2.1.length) (c:y∈nK g.2 x):(nbA g a x s y).length<=30:=by
 unfold nbA;rw[List.length_map];exact o8 _ _
end
section
variable {g:GrT} {a:AutT} {F:Nat->List Int} {N:Nat}
theorem aen {x s:Nat} {o1 o2:List (List Int)} {y:ArT} {T:List Int} (d:x*a.2.1.length+s<N) (l:N<=60) (o:(F (x*a.2.1.length+s)).length<=10000) (m:T.length<=30) (k: ∀t∈T,0<=y.2.2*(a.2.1.length:Int)+t/\y.2.2*(a.2.1.length:Int)+t<60/\0<=t/\t<=60) :
  ah (eI a ((x:Int),o1) ((s:Int),o2) y T) aR (0,rm N F)=some (.brk ((T.length:Int),rm N fun z=>if z=x*a.2.1.length+s then F z++T.map fun t=>y.2.2*(a.2.1.length:Int)+t else F z)):=by
 have b:i64.wrap (i64.wrap ((x:Int)*(a.2.1.length:Int))+(s:Int))=((x*a.2.1.length+s:Nat):Int):=by
  have:((x:Int)*(a.2.1.length:Int))=((x*a.2.1.length:Nat):Int):=by simp
  rw[this,zo (by omega),bd (by omega) (by omega)];rfl
 have:=aQ (f:=eI a ((x:Int),o1) ((s:Int),o2) y T) (fun j=>((j:Int),rm N fun z=>if z=x*a.2.1.length+s then F z++(T.take j).map fun t=>y.2.2*(a.2.1.length:Int)+t else F z)) T.length (fun j h=>by
  unfold eI;simp only;obtain ⟨p,r,q,u⟩:=k _ (bG (xs:=T) (i:=(j:Int)) (by omega) (by omega));rw[if_pos (by simp;omega),ai (by omega) (by omega)];simp only[aa,b,D5 d,if_true];have ev:i64.wrap (i64.wrap (y.2.2*(a.2.1.length:Int))+nth T (j:Int))=y.2.2*(a.2.1.length:Int)+nth T (j:Int):=by
   rw[bd (n:=y.2.2*(a.2.1.length:Int)) (by omega) (by omega),bd (by omega) (by omega)]
  rw[ev,al (by simp;omega)];simp only[aa,Int.toNat_natCast,Sp];rw[mQ (by rw[D4];omega),mQ trivial,ae (by omega)];simp only[aa];congr 3;refine pT fun z c=>?_;by_cases e:z=x*a.2.1.length+s
  ·subst e;rw[if_pos rfl,if_pos rfl,ye h,aX,aH];rfl
  ·simp only[if_neg e]) (by unfold eI;simp) (mB (by omega))
 rw[List.take_length] at this;rw[<-this];congr 2;refine pT fun z c=>?_;split <;> simp
end
section
variable {g:GrT} {a:AutT} (G:GOk g) (V:VA a a.2.1.length) (hn:a.2.1.length<=12)
include G V hn
theorem nN:a.2.1.length*g.1.length<=60:=by
 have:=Nat.mul_le_mul hn G.n5;omega
theorem cN {x s:Nat} (b:x<g.1.length) (hs:s<a.2.1.length):x*a.2.1.length+s<a.2.1.length*g.1.length:=by
 have:(x+1)*a.2.1.length<=g.1.length*a.2.1.length:=Nat.mul_le_mul_right _ (by omega)
 rw[Nat.add_mul,Nat.mul_comm g.1.length] at this;omega
theorem aeo {F:Nat->List Int} {x s:Nat} {o1 o2:List (List Int)} (d:x<g.1.length) (hs:s<a.2.1.length) (p:F (x*a.2.1.length+s)= []) :
  ah (fT g a ((x:Int),o1) (nK g.2 x) ((s:Int),o2)) aR (0,rm (a.2.1.length*g.1.length) F)=some (.brk (((nK g.2 x).length:Int),rm (a.2.1.length*g.1.length) fun z=>if z=x*a.2.1.length+s then nbV g a x s else F z)):=by
 have J:=wv g.2 x;have B:=G.m
 have:=aQ (f:=fT g a ((x:Int),o1) (nK g.2 x) ((s:Int),o2)) (fun j=>((j:Int),rm (a.2.1.length*g.1.length) fun z=>if z=x*a.2.1.length+s then ((nK g.2 x).take j).flatMap (nbA g a x s) else F z)) (nK g.2 x).length (fun j u=>by
  unfold fT;simp only;have c:=bG (xs:=nK g.2 x) (i:=(j:Int)) (by omega) (by omega);obtain ⟨m,E,H⟩:=D6 G c;have hv:=G.val _ (bG (xs:=g.1) (i:=(x:Int)) (by omega) (by omega));obtain ⟨A,q,w⟩:=zF G V hn (s:=(s:Int)) (v:=nth g.1 (x:Int)) (k:=(nth (nK g.2 x) (j:Int)).2.1) ⟨by omega,by omega⟩ hv m;rw[if_pos (by simp;omega),ai (by omega) (by omega)];simp only[aa];rw[mQ (by omega),ai (xs:=g.1) (by omega) (by omega)];simp only[aa];obtain ⟨k,n⟩: ∃k:Nat,(nth (nK g.2 x) (j:Int)).2.1=(k:Int):=⟨_,(Int.toNat_of_nonneg m.1).symm⟩;have h:=acE V hn (s:=(s:Int)) (v:=nth g.1 (x:Int)) (k:=k) ⟨by omega,by omega⟩ hv (by omega);have h:uO (a.1,a.2.1,a.2.2) (yj 1 (s:Int)) (nth g.1 (x:Int)) (k:Int)=_:=h;rw[n,h];simp only[aa];have r:k=(nth (nK g.2 x) (j:Int)).2.1.toNat:=by rw[n];rfl
  rw[r,vF w];simp only[aa];have D:(((nK g.2 x).take j).flatMap (nbA g a x s)).length<=30*((nK g.2 x).take j).length:=vG fun y c=>Sr G V hn d hs (List.mem_of_mem_take c);have l:((nK g.2 x).take j).length<=24:=by rw[az];omega
  have b:=aen (F:=fun z=>if z=x*a.2.1.length+s then ((nK g.2 x).take j).flatMap (nbA g a x s) else F z) (o1:=o1) (o2:=o2) (y:=nth (nK g.2 x) (j:Int)) (T:=behind a (s:Int) (nth g.1 (x:Int)) (nth (nK g.2 x) (j:Int)).2.1) (cN G V hn d hs) (nN G V hn) (by simp only[if_true];omega) q (fun t l=>by
   have I:=XD G V hn d hs c _ (List.mem_map.2 ⟨t,l,rfl⟩);have C:=A t l
   have:=nN G V hn
   omega)
  unfold behind at b;have b:ah (eI a ((x:Int),o1) ((s:Int),o2) (nth (nK g.2 x) (j:Int)) (gY (afL a (nth (nK g.2 x) (j:Int)).2.1.toNat (gY (cS a (s:Int) (nth g.1 (x:Int))) 30)) 30)) aR (0,rm (a.2.1.length*g.1.length) fun z=>if z=x*a.2.1.length+s then ((nK g.2 x).take j).flatMap (nbA g a x s) else F z)=_:=b;rw[af b,ae (by omega)];congr 3;refine pT fun z o=>?_;by_cases e:z=x*a.2.1.length+s
  ·subst e;rw[if_pos rfl,if_pos rfl,ye u,List.flatMap_append];simp[nbA,behind]
  ·simp only[if_neg e]) (by unfold fT;simp) (mB (by omega))
 rw[List.take_length] at this;rw[show nbV g a x s=(nK g.2 x).flatMap (nbA g a x s) from rfl,<-this];congr 2;refine pT fun z o=>?_;split
 ·rename_i e;subst e;rw[p];simp
 ·rfl
theorem acH {x s:Nat} (hs:s<a.2.1.length):nbC g a (x*a.2.1.length+s)=nbV g a x s:=by
 unfold nbC;rw[Nat.mul_comm,Nat.mul_add_div (by omega),Nat.mul_add_mod,Nat.div_eq_of_lt hs,Nat.mod_eq_of_lt hs,Nat.add_zero]
theorem aep {x:Nat} {o1:List (List Int)} (h:x<g.1.length) :
  ah (fU g a ((x:Int),o1) (nK g.2 x)) aR (0,rm (a.2.1.length*g.1.length) fun z=>if z<x*a.2.1.length then nbC g a z else [])=some (.brk ((a.2.1.length:Int),rm (a.2.1.length*g.1.length) fun z=>if z<(x+1)*a.2.1.length then nbC g a z else [])):=by
 have:=aQ (f:=fU g a ((x:Int),o1) (nK g.2 x)) (fun j=>((j:Int),rm (a.2.1.length*g.1.length) fun z=>if z<x*a.2.1.length+j then nbC g a z else [])) a.2.1.length (fun j c=>by
  unfold fU;simp only;rw[if_pos (by simp;omega)];have d:=aeo G V hn (F:=fun z=>if z<x*a.2.1.length+j then nbC g a z else []) (o1:=o1) (o2:=rm (a.2.1.length*g.1.length) fun z=>if z<x*a.2.1.length+j then nbC g a z else []) h c (by simp);rw[af d,ae (by omega)];congr 3;refine pT fun z i=>?_;by_cases e:z=x*a.2.1.length+j
  ·subst e;rw[if_pos rfl,if_pos (by omega),acH G V hn c]
  ·rw[if_neg e];by_cases b:z<x*a.2.1.length+j
   ·rw[if_pos b,if_pos (by omega)]
   ·rw[if_neg b,if_neg (by omega)]) (by unfold fU;simp) (mB (by omega))
 rw[Nat.add_mul,Nat.one_mul];exact this
theorem Z7:gC g a=some (rm (a.2.1.length*g.1.length) (nbC g a)):=by
 have i:=nN G V hn;unfold gC;have e:i64.wrap ((a.2.1.length:Int)*(g.1.length:Int))=((a.2.1.length*g.1.length:Nat):Int):=by
  rw[show ((a.2.1.length:Int)*(g.1.length:Int))=((a.2.1.length*g.1.length:Nat):Int) from by simp,zo (by omega)]
 have b:=acF G;have b:yL (g.1,g.2)=_:=b;rw[e,XB (by omega),b];simp only[aa]
 have:=aQ (f:=jx g a (rm g.1.length (nK g.2))) (fun j=>((j:Int),rm (a.2.1.length*g.1.length) fun z=>if z<j*a.2.1.length then nbC g a z else [])) g.1.length (fun j d=>by
  unfold jx;simp only;rw[if_pos (by rw[D4];simp;omega),D5 d];simp only[aa];rw[af (aep G V hn d),ae (by have:=G.n5;omega)]) (by unfold jx;rw[D4];simp) (mB (by have:=G.n5;omega))
 have h:(rm (a.2.1.length*g.1.length) fun _=>([] :List Int))=rm (a.2.1.length*g.1.length) fun z=>if z<0*a.2.1.length then nbC g a z else []:=pT fun z c=>by rw[if_neg (by omega)]
 rw[h,show (0:Int)=((0:Nat):Int) from rfl,af this];congr 1;refine pT fun z c=>?_;rw[if_pos (by rw[Nat.mul_comm g.1.length];exact c)]
end
def Es (y:ArT):Int×Bool:=y.1
theorem acI {g:GrT} (G:GOk g) {x:Nat} :sw g x=some ((nK g.2 x).map Es):=by
 unfold sw
 have:=aQ (f:=nc g x) (fun i=>((nK (g.2.take i) x).map Es,(i:Int))) g.2.length (fun i h=>by
  unfold nc;simp only;have j:=G.m;have k:=wv (g.2.take i) x;have m:(g.2.take i).length<=12:=by rw[az];omega
  rw[if_pos (by simp;omega),ai (by omega) (by omega)];simp only[aa];rw[ye h,ae (by omega)];generalize nth g.2 (i:Int)=e;have c:nK (g.2.take i++ [e]) x=nK (g.2.take i) x++XC e x:=by simp[nK]
  rw[c,aX];generalize d:(nK (g.2.take i) x).map Es=L;have l:L.length<=24:=by rw[<-d,List.length_map];omega
  unfold XC;by_cases b:e.2.1=(x:Int)
  ·rw[if_pos (by simpa using b),if_pos b,al (by simp;omega)];simp only[aa];by_cases a:e.2.2.1=(x:Int)
   ·rw[if_pos (by simpa using a),if_pos a,al (by simp;omega)];simp[Es,fwd,inv]
   ·rw[if_neg (by simpa using a),if_neg a];simp[Es,fwd,inv]
  ·rw[if_neg (by simpa using b),if_neg b];simp only[aa];by_cases a:e.2.2.1=(x:Int)
   ·rw[if_pos (by simpa using a),if_pos a,al (by simp;omega)];simp[Es,fwd,inv]
   ·rw[if_neg (by simpa using a),if_neg a];simp[Es,fwd,inv]) (by unfold nc;simp) (mB (by have:=G.m;omega))
 have this:ah (nc g x) aR (([] :List (Int×Bool)),0)=_:=this;rw[this,List.take_length];rfl
theorem Ni {g:GrT} (G:GOk g) {j:Nat} (b:j<g.2.length):dW g (nth g.2 (j:Int)).1=some (j:Int):=by
 unfold dW;have h:=G.m;obtain ⟨o,e,d⟩:=bW (f:=gr g (nth g.2 (j:Int)).1) (fun i s=>s=(i:Int)/\i<=j) (fun o=>o= .ret (j:Int)) 12 (s:=0) (by
  rintro i s l ⟨rfl,a⟩;unfold gr;rw[if_pos (by simp;omega),ai (by omega) (by omega)];simp only[aa];by_cases c:i=j
  ·subst c;exact .inr ⟨_,by rw[if_pos (by simp)],(fun m e=>by cases e),rfl⟩
  ·have k:=G.lt (i:=i) (j:=j) (by omega) b;exact .inl ⟨by omega,_,by rw[if_neg (by simp;omega),ae (by omega)],rfl,by omega⟩) ⟨rfl,by omega⟩ (by unfold aR;omega)
 subst d;rw[e];rfl
theorem V4 {g:GrT} (G:GOk g) {x:Nat} {y:ArT} (h:y∈nK g.2 x): ∃(j:Int) (e:EdT),dW g y.1.1=some j/\aO g.2 j=some e/\jr e y.1.2=some y.2.1/\qn e y.1.2=some y.2.2:=by
 obtain ⟨e,c,a⟩:=List.mem_flatMap.1 h;obtain ⟨j,b,rfl⟩:=DQ c;obtain ⟨d,i,f⟩:=G.edge _ c;refine ⟨j,nth g.2 (j:Int),?_,ai (by omega) (by omega),?_,?_⟩
 all_goals
  unfold XC at a;rcases aI a with a | a <;> split at a
  ·obtain rfl:=aq a;simp only[fwd]
   first | exact Ni G b | (unfold jr;rw[bd (n:=2*_) (by omega) (by omega)];rfl) | (unfold qn;rfl)
  ·cases a
  ·obtain rfl:=aq a;simp only[inv]
   first | exact Ni G b | (unfold jr;rw[bd (n:=2*_) (by omega) (by omega),bd (by omega) (by omega)];rfl) | (unfold qn;rfl)
  ·cases a
abbrev Z8:=(Int×Bool)×Int×Int
def stA (g:GrT) (a:AutT) (x s:Nat) (y:ArT):List Z8:=(behind a s (nth g.1 x) y.2.1).map fun t=>(y.1,y.2.2,t)
def stV (g:GrT) (a:AutT) (x s:Nat):List Z8:=(nK g.2 x).flatMap (stA g a x s)
theorem acJ (g:GrT) (a:AutT) (x s:Nat):(stV g a x s).map (fun p=>p.2.1*(a.2.1.length:Int)+p.2.2)=nbV g a x s:=by
 unfold stV nbV;rw[List.map_flatMap];congr 1;funext y;unfold stA nbA;rw[List.map_map];rfl
section
variable {g:GrT} {a:AutT} (G:GOk g) (V:VA a a.2.1.length) (hn:a.2.1.length<=12)
include G V hn
theorem Z9 {x s:Nat} {y:ArT} (c:x<g.1.length) (hs:s<a.2.1.length) (b:y∈nK g.2 x):(stA g a x s y).length<=30:=by
 unfold stA;rw[List.length_map];exact (zF G V hn (s:=s) ⟨by omega,by omega⟩ (G.val _ (bG (by omega) (by omega))) (D6 G b).1).2.1
theorem aeq {x:Nat} {i:Nat} {e:EdT} {o:List Z8} {y:ArT} {C:Nat} (u:C<2 ^ a.2.1.length) (v:y∈nK g.2 x) (hi:aO ((nK g.2 x).map Es) (i:Int)=some (Es y)) (d:jr e y.1.2=some y.2.1) :
  ah (kB a (C:Int) ((nK g.2 x).map Es) (o,(i:Int)) e) aR (0,0)=some (.brk ((afS a y.2.1.toNat C a.2.1.length:Int),(a.2.1.length:Int))):=by
 obtain ⟨z,w⟩:=(D6 G v).1
 have:=aQ (f:=kB a (C:Int) ((nK g.2 x).map Es) (o,(i:Int)) e) (fun q=>((afS a y.2.1.toNat C q:Int),(q:Int))) a.2.1.length (fun q A=>by
  unfold kB;simp only;have d:jr (e.1,e.2.1,e.2.2.1,e.2.2.2) (Es y).2=some y.2.1:=d;have p:y.2.1=((y.2.1.toNat:Nat):Int):=by omega
  have m:=V.get2 (s:=(q:Int)) (k:=y.2.1.toNat) (by omega) (by omega) (by omega);rw[<-p] at m;have l:=So V (k:=y.2.1.toNat) (C:=C) (by omega) q (by omega);have j:C<2 ^ 62:=aG u (p62 (by omega));have n:=(V.mv (s:=(q:Int)) (k:=y.2.1.toNat) (by omega) (by omega) (by omega)).2;rw[if_pos (by simp;omega),V.get (by omega) (by omega)];simp only[aa];rw[hi];simp only[aa];rw[d];simp only[aa];rw[m];simp only[aa];rw[mQ (by omega),D2 j (by omega),ae (by omega),afS];simp only[aa];by_cases b:C.testBit q=true
  ·rw[if_pos b];by_cases c:0<=D.mv a (q:Int) y.2.1.toNat
   ·obtain ⟨t,r⟩: ∃t:Nat,D.mv a (q:Int) y.2.1.toNat=(t:Int):=⟨_,(Int.toNat_of_nonneg c).symm⟩;rw[if_pos (by simpa using c),if_pos ⟨b,c⟩,mQ c,r,AP (by omega),Nh (aG l (p62 (by omega))) (Nat.pow_lt_pow_right (by decide) (by omega))];rfl
   ·rw[if_neg (by simpa using c),if_neg (fun h=>c h.2)];rfl
  ·rw[if_neg b,if_neg (fun h=>b h.1)];rfl) (by unfold kB;simp) (mB (by omega))
 exact this
theorem aer {x:Nat} {i:Nat} {e:EdT} {o:List Z8} {y:ArT} {m:Nat} (h:m<2 ^ a.2.1.length) (j:o.length<=100000) (hi:aO ((nK g.2 x).map Es) (i:Int)=some (Es y)) (c:qn e y.1.2=some y.2.2) {z:Int} :
  ah (kC a ((nK g.2 x).map Es) (o,(i:Int)) e ((m:Int),z)) aR (o,0)=some (.brk (o++(gY m 30).map (fun t=>(y.1,y.2.2,t)),(a.2.1.length:Int))):=by
 have:=aQ (f:=kC a ((nK g.2 x).map Es) (o,(i:Int)) e ((m:Int),z)) (fun q=>(o++(gY m q).map (fun t=>(y.1,y.2.2,t)),(q:Int))) a.2.1.length (fun q l=>by
  unfold kC;simp only;have c:qn (e.1,e.2.1,e.2.2.1,e.2.2.2) (Es y).2=some y.2.2:=c;have d:m<2 ^ 62:=aG h (p62 (by omega));have k:=o8 m q;rw[if_pos (by simp;omega),mQ (by omega),D2 d (by omega),ae (by omega),mP];simp only[aa];by_cases b:m.testBit q=true
  ·rw[if_pos b,if_pos b,hi];simp only[aa];rw[c];simp only[aa];rw[al (by simp;omega)];simp only[aa,aX,aH];rfl
  ·rw[if_neg b,if_neg b];rfl) (by unfold kC;simp) (mB (by omega))
 rw[wu h (show a.2.1.length<=30 by omega)];simpa [gY] using this
theorem aaa {x s:Nat} (r:x<g.1.length) (hs:s<a.2.1.length):oO g a x s=some (stV g a x s):=by
 have hv:=G.val _ (bG (xs:=g.1) (i:=(x:Int)) (by omega) (by omega));have h:=D3 V hn (s:=(s:Int)) ⟨by omega,by omega⟩ hv;have o:=V2 V hn (s:=(s:Int)) ⟨by omega,by omega⟩ hv;unfold oO;rw[ai (by omega) (by omega)];simp only[aa];have h:dx (a.1,a.2.1,a.2.2) (s:Int) (nth g.1 (x:Int))=_:=h;have w:sw (g.1,g.2) (x:Int)=_:=acI G;rw[h,w];simp only[aa];generalize n:cS a (s:Int) (nth g.1 (x:Int))=C at o;have H:=wv g.2 x;have F:=G.m
 have:=aQ (f:=kD g a (C:Int) ((nK g.2 x).map Es)) (fun i=>(((nK g.2 x).take i).flatMap (stA g a x s),(i:Int))) (nK g.2 x).length (fun i p=>by
  unfold kD;simp only;have d:=List.getElem_mem p;generalize c:(nK g.2 x)[i] =y at d;have b:aO ((nK g.2 x).map Es) (i:Int)=some (Es y):=by rw[aC (by simpa using p)];simp[c]
  obtain ⟨j,e,l,D,E,u⟩:=V4 G d;obtain ⟨J,I⟩:=(D6 G d).1;rw[if_pos (by simp;omega),b];simp only[aa];have l:dW (g.1,g.2) (Es y).1=_:=l;rw[l];simp only[aa];rw[D];simp only[aa];rw[af (aeq G V hn o d b E)];have m:=So V (k:=y.2.1.toNat) (C:=C) (by omega) a.2.1.length (ay _);have A:=vG (f:=stA g a x s) (B:=30) (xs:=(nK g.2 x).take i) fun z t=>Z9 G V hn r hs (List.mem_of_mem_take t);have q:((nK g.2 x).take i).length<=24:=by rw[az];omega
  rw[af (aer G V hn m (by omega) b u),ae (by omega)];congr 3;have v:(nK g.2 x).take (i+1)=(nK g.2 x).take i++ [y]:=by rw[List.take_add_one];simp[p,c]
  rw[v,List.flatMap_append];congr 1;simp only[List.flatMap_cons,List.flatMap_nil,List.append_nil];unfold stA behind;rw[n,wu o (show a.2.1.length<=30 by omega),Lo]) (by unfold kD;simp) (mB (by omega))
 rw[List.take_length] at this;have this:ah (kD g a (C:Int) ((nK g.2 x).map Es)) aR (([] :List Z8),0)=_:=this;rw[af this];rfl
end
abbrev BfT:=List Int×List Int
def XE (d:Int) (s:BfT) (x:Int):BfT:=if nth s.1 x<0 then (s.1.set x.toNat d,s.2++ [x]) else s
def FY (d:Int) (s:BfT) (xs:List Int):BfT:=xs.foldl (XE d) s
theorem JC (d:Int) (s:BfT) (xs:List Int) (x:Int):FY d s (xs++ [x])=XE d (FY d s xs) x:=by simp[FY]
structure BI (N:Nat) (s:BfT):Prop where
 len:s.1.length=N
 nd:s.2.Nodup
 rng: ∀x∈s.2,0<=x/\x<N
 seen: ∀x:Int,0<=x->x<N->(nth s.1 x<0↔x∉s.2)
 top: ∀x:Int,0<=x->x<N-> -1<=nth s.1 x/\nth s.1 x<s.2.length
theorem BI.le {N:Nat} {s:BfT} (h:BI N s):s.2.length<=N:=by
 have:=h.nd.length_le_of_subset (l₂:=(List.range N).map fun i:Nat=>(i:Int)) (fun x a=>by
  obtain ⟨b,c⟩:=h.rng x a;exact List.mem_map.2 ⟨x.toNat,List.mem_range.2 (by omega),by omega⟩)
 simpa using this
theorem BI.one {N:Nat} {s:BfT} (h:BI N s) {d x:Int} (c:0<=x/\x<N) (n:0<=d/\d<=s.2.length):BI N (XE d s x)/\s.2 <+:(XE d s x).2/\ ∀y,0<=y->0<=nth s.1 y->nth (XE d s x).1 y=nth s.1 y:=by
 unfold XE;split
 ·rename_i l;have g:=(h.seen x c.1 c.2).1 l;refine ⟨⟨by simp[h.len],?_,?_,?_,?_⟩,List.prefix_append _ _,?_⟩
  ·exact List.nodup_append.2 ⟨h.nd,by simp,by rintro a m b k rfl;simp at k;exact g (k ▸ m)⟩
  ·intro y i;rcases aI i with i | i
   ·exact h.rng y i
   ·obtain rfl:y=x:=by simpa using i
    exact c
  ·intro y f j;by_cases e:x=y
   ·subst e;rw[ru c.1 (by rw[h.len];exact c.2)];simp;omega
   ·rw[wo c.1 f e,h.seen y f j];simp;omega
  ·intro y f j;by_cases e:x=y
   ·subst e;rw[ru c.1 (by rw[h.len];exact c.2)];simp;omega
   ·rw[wo c.1 f e]
    have:=h.top y f j
    simp;omega
  ·intro y f j;refine wo c.1 f ?_;rintro rfl;omega
 ·exact ⟨h,List.prefix_refl _,fun y _ _=>rfl⟩
theorem BI.all {N:Nat} {d:Int} : ∀ {xs:List Int} {s:BfT},BI N s->(∀x∈xs,0<=x/\x<N)->(0<=d/\d<=s.2.length)->BI N (FY d s xs)/\s.2 <+:(FY d s xs).2/\ ∀y,0<=y->0<=nth s.1 y->nth (FY d s xs).1 y=nth s.1 y
 | [],s,h,_,_=>⟨h,List.prefix_refl _,fun _ _ _=>rfl⟩
 | x::xs,s,h,hx,hd=>by
  obtain ⟨g,c,i⟩:=h.one (hx x (by simp)) hd;have l:=c.length_le;obtain ⟨j,k,f⟩:=BI.all (xs:=xs) g (fun y a=>hx y (by simp[a])) ⟨hd.1,by omega⟩;refine ⟨j,c.trans k,fun y b a=>?_⟩;have e:=i y b a;exact (f y b (by rw[e];exact a)).trans e
def bsS (nx:Int->List Int) (N:Nat) (v:Int):Nat->BfT
 | 0=>((List.replicate N (-1)).set v.toNat 0,[v])
 | i+1=>match (bsS nx N v i).2[i]? with
  | some x=>FY (nth (bsS nx N v i).1 x+1) (bsS nx N v i) (nx x)
  | none=>bsS nx N v i
section
variable {nx:Int->List Int} {N:Nat} {v:Int} (hv:0<=v/\v<N) (hn: ∀x:Int,0<=x->x<N-> ∀y∈nx x,0<=y/\y<N)
include hv
theorem aab {x:Int} (a:0<=x) (h1:x<N):nth (List.replicate N (-1:Int)) x= -1:=by
 have:x.toNat<N:=by omega
 simp[nth,List.getD_eq_getElem?_getD,List.getElem?_replicate,this]
theorem BI.zero:BI N (bsS nx N v 0):=by
 refine ⟨by simp[bsS],by simp[bsS],fun x c=>?_,fun x a b=>?_,fun x a b=>?_⟩
 ·obtain rfl:x=v:=by simpa [bsS] using c
  exact hv
 all_goals
  unfold bsS;by_cases e:v=x
  ·subst e;rw[ru hv.1 (by simpa using hv.2)];simp
  ·rw[wo hv.1 a e,aab hv a b]
   first | omega | (simp;omega) | simp
include hn
theorem Hy {i:Nat} (h:BI N (bsS nx N v i)):BI N (bsS nx N v (i+1))/\(bsS nx N v i).2 <+:(bsS nx N v (i+1)).2:=by
 rw[bsS];split
 ·rename_i x f;have e:=List.mem_of_getElem? f;obtain ⟨b,a⟩:=h.rng x e;have hp: ¬nth (bsS nx N v i).1 x<0:=fun c=>(h.seen x b a).1 c e;have k:=h.top x b a;obtain ⟨g,j,_⟩:=h.all (xs:=nx x) (d:=nth (bsS nx N v i).1 x+1) (hn x b a) ⟨by omega,by omega⟩;exact ⟨g,j⟩
 ·exact ⟨h,List.prefix_refl _⟩
theorem D7: ∀i,BI N (bsS nx N v i)
 | 0=>BI.zero hv
 | i+1=>(Hy hv hn (D7 i)).1
theorem Ss: ∃K,K<=N/\K=(bsS nx N v K).2.length/\ ∀i,i<K->i<(bsS nx N v i).2.length:=by
 have key: ∀m i,i+m=N->(∀j,j<i->j<(bsS nx N v j).2.length)-> ∃K,K<=N/\K=(bsS nx N v K).2.length/\ ∀i,i<K->i<(bsS nx N v i).2.length:=by
  have b: ∀i,(∀j,j<i->j<(bsS nx N v j).2.length)->i<=(bsS nx N v i).2.length:=by
   intro i a;cases i with
   | zero=>omega
   | succ i =>
    have:=a i (by omega)
    have hp:=(Hy hv hn (D7 hv hn i)).2.length_le;omega
  intro m;induction m with
  | zero =>
   intro i f a;have g:=(D7 hv hn i).le;have c:=b i a;exact ⟨i,by omega,by omega,a⟩
  | succ m ih =>
   intro i f a;by_cases h:i<(bsS nx N v i).2.length
   ·exact ih (i+1) (by omega) fun j d=>by
     by_cases e:j=i
     ·subst e;exact h
     ·exact a j (by omega)
   ·have c:=b i a;exact ⟨i,by omega,by omega,a⟩
 exact key N 0 (by omega) (by omega)
end
theorem aac:(List.range 61).all (fun N=>decide (cV [-1] (N:Int)=some (List.replicate N (-1))))=true:=by kernel_rfl
theorem aes {N:Nat} (h:N<=60):cV [-1] (N:Int)=some (List.replicate N (-1)):=
 of_decide_eq_true (List.all_eq_true.1 aac N (List.mem_range.2 (by omega)))
theorem V5 {α:Type} {xs:List α} {i:Nat} {x:α} (h:i<=xs.length):(xs++ [x]).drop i=xs.drop i++ [x]:=List.drop_append_of_le_length h
theorem FZ {α:Type} {xs:List α} {i:Nat} {x:α} (h:xs[i]? =some x):aO (xs.drop i) 0=some x:=by
 unfold aO;rw[if_pos (by decide)];simpa using h
section
variable {nx:Int->List Int} {N:Nat} {v:Int} (hN:N<=60) (hv:0<=v/\v<N) (hn: ∀x:Int,0<=x->x<N-> ∀y∈nx x,0<=y/\y<N) (hl: ∀x,(nx x).length<=100000)
include hN hv hn hl
theorem aad {i:Nat} {x:Int} (f:(bsS nx N v i).2[i]? =some x) (j:Nat) :
  BI N (FY (nth (bsS nx N v i).1 x+1) (bsS nx N v i) ((nx x).take j))/\(FY (nth (bsS nx N v i).1 x+1) (bsS nx N v i) ((nx x).take j)).2[i]? =some x/\nth (FY (nth (bsS nx N v i).1 x+1) (bsS nx N v i) ((nx x).take j)).1 x=nth (bsS nx N v i).1 x/\(0<=x/\x<N)/\(0<=nth (bsS nx N v i).1 x/\nth (bsS nx N v i).1 x<60)/\i<(FY (nth (bsS nx N v i).1 x+1) (bsS nx N v i) ((nx x).take j)).2.length:=by
 have h:=D7 hv hn i;have k:=List.mem_of_getElem? f;obtain ⟨a,b⟩:=h.rng x k;have hp: ¬nth (bsS nx N v i).1 x<0:=fun c=>(h.seen x a b).1 c k;have r:=h.top x a b;have n:=h.le;obtain ⟨l,m,o⟩:=h.all (xs:=(nx x).take j) (d:=nth (bsS nx N v i).1 x+1) (fun y p=>hn x a b y (List.mem_of_mem_take p)) ⟨by omega,by omega⟩;obtain ⟨t,g⟩:=m;have q:=(List.getElem?_eq_some_iff.1 f).1;have e:(FY (nth (bsS nx N v i).1 x+1) (bsS nx N v i) ((nx x).take j)).2[i]? =some x:=by
  rw[<-g,List.getElem?_append_left q,f]
 exact ⟨l,e,o x a (by omega),⟨a,b⟩,⟨by omega,by omega⟩,(List.getElem?_eq_some_iff.1 e).1⟩
theorem aet {i:Nat} {x:Int} (d:(bsS nx N v i).2[i]? =some x) :
  ah (nl (nx x)) aR ((bsS nx N v i).2.drop i,0,(bsS nx N v i).1)=some (.brk ((bsS nx N v (i+1)).2.drop i,((nx x).length:Int),(bsS nx N v (i+1)).1)):=by
 have:=aQ (f:=nl (nx x)) (fun j=>((FY (nth (bsS nx N v i).1 x+1) (bsS nx N v i) ((nx x).take j)).2.drop i,(j:Int),(FY (nth (bsS nx N v i).1 x+1) (bsS nx N v i) ((nx x).take j)).1)) (nx x).length (fun j p=>by
  have l:=hl x;obtain ⟨a,b,h,⟨k,o⟩,r,n⟩:=aad hN hv hn hl d j;have q:=hn x k o _ (bG (xs:=nx x) (i:=(j:Int)) (by omega) (by omega));unfold nl;simp only;rw[ye p,JC];generalize FY (nth (bsS nx N v i).1 x+1) (bsS nx N v i) ((nx x).take j)=s at a b h n;have m:=a.le;have g:=a.len;rw[if_pos (by simp;omega),ai (by omega) (by omega)];simp only[aa];rw[ai (xs:=s.1) q.1 (by omega)];simp only[aa];rw[FZ b];simp only[aa];rw[ai (xs:=s.1) k (by omega)];simp only[aa];rw[al (by simp;omega),ae (by omega),h,bd (by omega) (by omega)];unfold XE;by_cases c:nth s.1 (nth (nx x) (j:Int))<0
  ·rw[if_pos (by simpa using c),if_pos c,V5 (by omega)];rfl
  ·rw[if_neg (by simpa using c),if_neg c];rfl) (by unfold nl;simp) (mB (by have:=hl x;omega))
 rw[List.take_length] at this;have e:bsS nx N v (i+1)=FY (nth (bsS nx N v i).1 x+1) (bsS nx N v i) (nx x):=by rw[bsS,d]
 rw[e];exact this
theorem V6 {K:Nat} (p:K<=N) (m:K=(bsS nx N v K).2.length) (d: ∀i,i<K->i<(bsS nx N v i).2.length):wg (rm N fun z=>nx (z:Int)) [v] =some (bsS nx N v K).1:=by
 unfold wg;rw[D4,aes hN];simp only[aa];have c:ah (nk [v]) aR (([] :List Int),0,List.replicate N (-1))=some (.brk ([v],1,(bsS nx N v 0).1)):=by
  have:=aQ (f:=nk [v]) (fun j=>if j=0 then (([] :List Int),(0:Int),List.replicate N (-1:Int)) else ([v],1,(bsS nx N v 0).1)) 1 (fun j r=>by
   obtain rfl:j=0:=by omega
   unfold nk;simp only[if_true];rw[if_pos (by simp),show aO [v] 0=some v from rfl];simp only[aa];rw[ai (xs:=List.replicate N (-1)) hv.1 (by simpa using hv.2)];simp only[aa];rw[al (by simp)];rfl) (by unfold nk;simp) (by unfold aR;omega)
  exact this
 rw[af c]
 have:=aQ (f:=nn (rm N fun z=>nx (z:Int))) (fun i=>((bsS nx N v i).2.drop i,(bsS nx N v i).1)) K (fun i e=>by
  have b:=d i e;obtain ⟨x,a⟩: ∃x,(bsS nx N v i).2[i]? =some x:=⟨_,List.getElem?_eq_getElem b⟩;obtain ⟨h,k,q,⟨g,o⟩,l,n⟩:=aad hN hv hn hl a 0;unfold nn;simp only;rw[if_pos (by simp;omega),FZ a];simp only[aa];obtain ⟨z,rfl⟩: ∃z:Nat,x=(z:Int):=⟨_,(Int.toNat_of_nonneg g).symm⟩;rw[D5 (by omega)];simp only[aa];rw[af (aet hN hv hn hl a)];have hp:=(Hy hv hn (D7 hv hn i)).2.length_le;rw[mQ (by simp;omega)];simp only[aa];rw[List.drop_drop]) (by
  unfold nn;rw[if_neg (by simp;omega)]) (mB (by omega))
 have this:ah (nn (rm N fun z=>nx (z:Int))) aR ([v],(bsS nx N v 0).1)=_:=this;rw[af this]
end
theorem Hz {n:Nat} {r:List Int} :(∀t∈r,-1<=t/\t<=(n:Int) - 1)↔ ∀t∈r,-1<=t/\t<(n:Int):=forall_congr' fun t=>forall_congr' fun _=>and_congr Iff.rfl (by omega)
theorem acK (a:AutT) (h1:a.2.1.length<=9223372036854775807) (n:a.2.2.length<=9223372036854775807): ∃b,qm a=some b/\(b=true↔VA a a.2.1.length):=by
 unfold qm;rw[xm];simp only[aa,fw h1];by_cases g:0<=a.1/\a.1<=(a.2.1.length:Int) - 1
 case neg=>exact ⟨false,by rw[if_neg (by simpa using g)],by simp;exact fun h=>g ⟨h.start.1,by have:=h.start.2;omega⟩⟩
 rw[if_pos (by simpa using g)];by_cases l:a.2.2.length=a.2.1.length
 case neg=>exact ⟨false,by rw[if_pos (by simp;omega)],by simp;exact fun h=>l h.nlen⟩
 rw[if_neg (by simp;omega)];have inner: ∀i:Nat,i<a.2.2.length->(nth a.2.2 i).length=9->(ah (jP a i) aR 0=some (.brk 9)/\ ∀t∈nth a.2.2 (i:Int),-1<=t/\t<=(a.2.1.length:Int) - 1)\/(ah (jP a i) aR 0=some (.ret false)/\ ¬ ∀t∈nth a.2.2 (i:Int),-1<=t/\t<=(a.2.1.length:Int) - 1):=by
  intro i m d
  have:=scan (f:=jP a i) (nth a.2.2 (i:Int)) (fun t=> -1<=t/\t<=(a.2.1.length:Int) - 1) false (by omega) (fun j o=>by
   unfold jP;rw[if_pos (by simp;omega),ai (by omega) (by omega)];simp only[aa];rw[ai (by omega) (by omega)];simp only[aa,fw h1];rw[xm];simp only[aa,ae (show j<9223372036854775807 by omega)];by_cases c: -1<=nth (nth a.2.2 (i:Int)) (j:Int)/\nth (nth a.2.2 (i:Int)) (j:Int)<=(a.2.1.length:Int) - 1
   ·rw[if_pos (by simpa using c),if_pos c]
   ·rw[if_neg (by simpa using c),if_neg c]) (by unfold jP;rw[if_neg (by simp[d])])
  rwa [d] at this
 have outer:=scan (f:=oB a) a.2.2 (fun r=>r.length=9/\ ∀t∈r,-1<=t/\t<=(a.2.1.length:Int) - 1) false n (fun i m=>by
  unfold oB;rw[if_pos (by simp;omega),ai (by omega) (by omega)];simp only[aa];by_cases c:(nth a.2.2 (i:Int)).length=9
  ·rw[if_neg (by simp;omega)];rcases inner i m c with ⟨e,k⟩ | ⟨e,k⟩
   ·rw[af e,if_pos ⟨c,k⟩,ae (show i<9223372036854775807 by omega)]
   ·rw[aW e,if_neg (fun h=>k h.2)]
  ·rw[if_pos (by simp;omega),if_neg (fun h=>c h.1)]) (by unfold oB;rw[if_neg (by simp;omega)])
 rcases outer with ⟨e,k⟩ | ⟨e,k⟩
 ·exact ⟨true,by rw[af e],by simp;exact ⟨rfl,⟨g.1,by omega⟩,l,fun r d=>(k r d).1,fun r d=>Hz.1 (k r d).2⟩⟩
 ·exact ⟨false,by rw[aW e],by simp;exact fun h=>k fun r d=>⟨h.row r d,Hz.2 (h.ent r d)⟩⟩
theorem Su (a:AutT) (h1:a.2.1.length<=9223372036854775807) (d:a.2.2.length<=9223372036854775807): ∃b,dh a=some b/\(b=true↔a.2.1.length<=12/\VA a a.2.1.length):=by
 unfold dh;by_cases c:a.2.1.length<=12
 ·rw[if_pos (by simp;omega)];obtain ⟨b,e,f⟩:=acK a h1 d;exact ⟨b,by show (qm a).bind _=_;rw[e];rfl,by rw[f];simp[c]⟩
 ·exact ⟨false,by rw[if_neg (by simp;omega)],by simp;exact fun h=>absurd h c⟩
theorem aae (a:AutT) (h1:a.2.1.length<=9223372036854775807) (n:a.2.2.length<=9223372036854775807) (q: ∀r∈a.2.2,r.length<=9223372036854775807): ∃b,cE a=some b/\(b=true↔a.2.1.length<=12/\VA a a.2.1.length):=by
 unfold cE;rw[Ep];simp only[aa,fw h1];by_cases l:1<=(a.2.1.length:Int)/\(a.2.1.length:Int)<=12
 case neg=>exact ⟨false,by rw[if_neg (by simpa using l)],by simp;exact fun h p=>l ⟨by have:=p.start;omega,by omega⟩⟩
 rw[if_pos (by simpa using l),Ep];simp only[aa];by_cases g:0<=a.1/\a.1<=(a.2.1.length:Int) - 1
 case neg=>exact ⟨false,by rw[if_neg (by simpa using g)],by simp;exact fun _ h=>g ⟨h.start.1,by have:=h.start.2;omega⟩⟩
 rw[if_pos (by simpa using g)];by_cases m:a.2.2.length=a.2.1.length
 case neg=>exact ⟨false,by rw[if_pos (by simp;omega)],by simp;exact fun _ h=>m h.nlen⟩
 rw[if_neg (by simp;omega)];have inner: ∀x:List Int,x.length<=9223372036854775807->(ah (c7 a x) aR 0=some (.brk (x.length:Int))/\ ∀t∈x,-1<=t/\t<=(a.2.1.length:Int) - 1)\/(ah (c7 a x) aR 0=some (.ret false)/\ ¬ ∀t∈x,-1<=t/\t<=(a.2.1.length:Int) - 1):=by
  intro x o;refine scan (f:=c7 a x) x (fun t=> -1<=t/\t<=(a.2.1.length:Int) - 1) false o (fun j s=>?_) (by unfold c7;rw[if_neg (by simp)]);unfold c7;rw[if_pos (by simp;omega),ai (by omega) (by omega)];simp only[aa,fw h1];rw[Ep];simp only[aa,ae (show j<9223372036854775807 by omega)];by_cases c: -1<=nth x (j:Int)/\nth x (j:Int)<=(a.2.1.length:Int) - 1
  ·rw[if_pos (by simpa using c),if_pos c]
  ·rw[if_neg (by simpa using c),if_neg c]
 have outer:=scan (f:=fC a) a.2.2 (fun r=>(∀t∈r,-1<=t/\t<=(a.2.1.length:Int) - 1)/\r.length=9) false n (fun i u=>by
  unfold fC;rw[if_pos (by simp;omega),ai (by omega) (by omega)];simp only[aa];rcases inner (nth a.2.2 (i:Int)) (q _ (bG (by omega) (by omega))) with ⟨e,k⟩ | ⟨e,k⟩
  ·rw[af e];by_cases c:(nth a.2.2 (i:Int)).length=9
   ·rw[if_neg (by simp;omega),if_pos ⟨k,c⟩,ae (show i<9223372036854775807 by omega)]
   ·rw[if_pos (by simp;omega),if_neg (fun h=>c h.2)]
  ·rw[aW e,if_neg (fun h=>k h.1)]) (by unfold fC;rw[if_neg (by simp)])
 rcases outer with ⟨e,k⟩ | ⟨e,k⟩
 ·exact ⟨true,by rw[af e],by simp;exact ⟨by omega,rfl,⟨g.1,by omega⟩,m,fun r d=>(k r d).2,fun r d=>Hz.1 (k r d).1⟩⟩
 ·exact ⟨false,by rw[aW e],by simp;exact fun _ h=>k fun r d=>⟨Hz.2 (h.ent r d),h.row r d⟩⟩
theorem lV (g:GrT):aY g=bf g:=by
 have a:qg g=fO g:=rfl;have b:mr g=eF g:=by
  funext s;unfold mr eF;split
  ·cases c:aO g.2 s with
   | none=>rfl
   | some x=>rfl
  ·rfl
 unfold aY bf;rw[a,b];rfl
def GOOD (g:GrT) (a:AutT):Prop:=GOk g/\a.2.1.length<=12/\VA a a.2.1.length
theorem Sv (g:GrT) (a:AutT) (f:Data.sm g) (e:Data.sm a): ∃b c,aY g=some b/\bf g=some b/\dh a=some c/\cE a=some c/\(b=true↔Xz g)/\(c=true↔a.2.1.length<=12/\VA a a.2.1.length):=by
 obtain ⟨b,h,n⟩:=rv g (aP f.1).1 (aP f.2).1;have q:=(aP e.2.1).1;have i:=aP e.2.2;obtain ⟨c,j,o⟩:=aae a (by omega) (by omega) (fun r m=>by have:=(aP (i.2 r m)).1;omega);obtain ⟨d,k,p⟩:=Su a (by omega) (by omega);have l:d=c:=by
  cases c <;> cases d <;> simp_all
 subst l;exact ⟨b,d,by rw[lV,h],h,k,j,n,o⟩
theorem aaf (g:GrT) (a:AutT) (l:Data.sm g) (d:Data.sm a): ∃b c,aY g=some b/\bf g=some b/\dh a=some c/\cE a=some c/\(b=true->GOk g)/\(c=true->a.2.1.length<=12/\VA a a.2.1.length):=by
 obtain ⟨b,c,f,k,i,m,e,j⟩:=Sv g a l d;exact ⟨b,c,f,k,i,m,fun h=>(e.1 h).1,j.1⟩
theorem V7 (g:GrT) (a:AutT) (t:Data.sm g) (r:Data.sm a) (x:Int): ∃b,il g a x 0=some b/\dw g a [x] =some b/\(b=true↔(Xz g/\GOOD g a)/\0<=x/\x<g.1.length):=by
 obtain ⟨b,c,l,n,o,m,j,e⟩:=Sv g a t r;have A:=(aP t.1).1;have v:=(aP r.2.1).1;have s:i64.wrap ((g.1.length:Int) - 1)=(g.1.length:Int) - 1:=bd (by omega) (by omega);have p:i64.wrap ((a.2.1.length:Int) - 1)=(a.2.1.length:Int) - 1:=bd (by omega) (by omega);have w:il g a x 0=some (b&&(c&&(decide (0<=x/\x<=(g.1.length:Int) - 1)))):=by
  unfold il;have l:aY (g.1,g.2)=_:=l;have o:dh (a.1,a.2.1,a.2.2)=_:=o;rw[l,o,xm,xm,s,p];simp only[aa];cases b <;> cases c <;> simp only[Bool.false_eq_true,if_false,if_true,Bool.false_and,Bool.true_and]
  by_cases h:0<=x/\x<=(g.1.length:Int) - 1
  ·have:=(e.1 rfl).2.start
   simp only[h,and_self,decide_true,if_true];rw[decide_eq_true (by omega)]
  ·rw[decide_eq_false h];rfl
 have y:dw g a [x] =some (b&&(c&&(decide (0<=x/\x<=(g.1.length:Int) - 1)))):=by
  unfold dw;have n:bf (g.1,g.2)=_:=n;have m:cE (a.1,a.2.1,a.2.2)=_:=m;rcases Ln (f:=eR g [x]) 1 (fun _=>0<=x/\x<=(g.1.length:Int) - 1) false (by decide) (fun i B=>by
   obtain rfl:i=0:=by omega
   unfold eR;rw[if_pos (by simp),show aO [x] ((0:Nat):Int)=some x from rfl];simp only[aa];rw[Ep,s];simp only[aa,decide_eq_true_eq];split <;> rfl) (by unfold eR;simp) with ⟨k,h⟩ | ⟨k,h⟩
  ·rw[af k,n,m];simp only[aa];rw[decide_eq_true (h 0 (by decide))];cases b <;> cases c <;> rfl
  ·rw[aW k,decide_eq_false (fun c=>h fun _ _=>c)];cases b <;> cases c <;> rfl
 refine ⟨_,w,y,fun d=>?_,fun d=>?_⟩
 ·simp only[aj,decide_eq_true_eq] at d;obtain ⟨u,q,z⟩:=d;exact ⟨⟨j.1 u,(j.1 u).1,(e.1 q).1,(e.1 q).2⟩,z.1,by omega⟩
 ·simp only[aj,decide_eq_true_eq];exact ⟨j.2 d.1.1,e.2 d.1.2.2,d.2.1,by have:=d.2.2;omega⟩
theorem Sw (g:GrT) (a:AutT) (f:Data.sm g) (d:Data.sm a) (x:Int): ∃b,il g a x 0=some b/\dw g a [x] =some b/\(b=true->GOOD g a/\0<=x/\x<g.1.length):=by
 obtain ⟨b,e,i,c⟩:=V7 g a f d x;exact ⟨b,e,i,fun h=>⟨(c.1 h).1.2,(c.1 h).2⟩⟩
def nxC (g:GrT) (a:AutT) (z:Int):List Int:=nbC g a z.toNat
section
variable {g:GrT} {a:AutT} (H:GOOD g a)
include H
theorem GOOD.divmod {x:Int} (b:0<=x) (h1:x<(a.2.1.length*g.1.length:Nat)):x.toNat / a.2.1.length<g.1.length/\x.toNat % a.2.1.length<a.2.1.length:=by
 have hp:=H.2.2.pos;simp_all[Nat.div_lt_iff_lt_mul,Nat.mul_comm,Nat.mod_lt]
theorem acL (x:Int) (b:0<=x) (h1:x<(a.2.1.length*g.1.length:Nat)): ∀y∈nxC g a x,0<=y/\y<(a.2.1.length*g.1.length:Nat):=by
 have ⟨c,d⟩:=H.divmod b h1;exact acG H.1 H.2.2 H.2.1 c d
theorem aag {x:Int} (b:0<=x) (h1:x<(a.2.1.length*g.1.length:Nat)):(nxC g a x).length<=720:=by
 have ⟨d,e⟩:=H.divmod b h1
 have:=vG (f:=nbA g a (x.toNat / a.2.1.length) (x.toNat % a.2.1.length)) (B:=30) (xs:=nK g.2 (x.toNat / a.2.1.length)) fun y c=>Sr H.1 H.2.2 H.2.1 d e c
 have h:=wv g.2 (x.toNat / a.2.1.length)
 have:=H.1.m
 show (nbV g a _ _).length<=720;unfold nbV;omega
end
def nxN (g:GrT) (a:AutT) (z:Int):List Int:=if 0<=z/\z<(a.2.1.length*g.1.length:Nat) then nxC g a z else []
section
variable {g:GrT} {a:AutT} (H:GOOD g a)
include H
theorem zG: ∀x:Int,0<=x->x<(a.2.1.length*g.1.length:Nat)-> ∀y∈nxN g a x,0<=y/\y<(a.2.1.length*g.1.length:Nat):=fun x b c=>by
 unfold nxN;rw[if_pos ⟨b,c⟩];exact acL H x b c
theorem Lp (x:Int):(nxN g a x).length<=720:=by
 grind[nxN,aag]
theorem aah:gC g a=some (rm (a.2.1.length*g.1.length) fun z=>nxN g a (z:Int)):=by
 rw[Z7 H.1 H.2.2 H.2.1];congr 1;refine pT fun z b=>?_;unfold nxN;rw[if_pos ⟨by omega,by omega⟩];rfl
theorem V8 {x:Int} (b:0<=x) (h1:x<(a.2.1.length*g.1.length:Nat)): ∃l:List Z8,oO g a (EZ x (a.2.1.length:Int)) (Int.tmod x (a.2.1.length:Int))=some l/\l.map (fun p=>p.2.1*(a.2.1.length:Int)+p.2.2)=nxN g a x/\ ∀p∈l,(0<=p.2.1/\p.2.1<60)/\0<=p.2.2/\p.2.2<60:=by
 have ⟨d,j⟩:=H.divmod b h1;have e:EZ x (a.2.1.length:Int)=((x.toNat / a.2.1.length:Nat):Int):=by
  unfold EZ
  have:x.tdiv (a.2.1.length:Int)=((x.toNat / a.2.1.length:Nat):Int):=by
   rw[Int.tdiv_eq_ediv_of_nonneg b];rw[show x / (a.2.1.length:Int)=((x.toNat:Nat):Int) / (a.2.1.length:Int) from by grind];simp
  rw[this,zo (by have:=H.1.n5;omega)]
 have f:Int.tmod x (a.2.1.length:Int)=((x.toNat % a.2.1.length:Nat):Int):=by
  rw[Int.tmod_eq_emod_of_nonneg b];rw[show x % (a.2.1.length:Int)=((x.toNat:Nat):Int) % (a.2.1.length:Int) from by grind];simp
 refine ⟨_,by rw[e,f];exact aaa H.1 H.2.2 H.2.1 d j,?_,fun p hp=>?_⟩
 ·rw[acJ];unfold nxN;rw[if_pos ⟨b,h1⟩];rfl
 ·have ⟨y,c,hp⟩:=List.mem_flatMap.1 hp;obtain ⟨t,h,rfl⟩:=List.mem_map.1 hp;have m:=(D6 H.1 c).2;have k:=(zF H.1 H.2.2 H.2.1 (s:=((x.toNat % a.2.1.length:Nat):Int)) ⟨by omega,by omega⟩ (H.1.val _ (bG (xs:=g.1) (i:=((x.toNat / a.2.1.length:Nat):Int)) (Int.natCast_nonneg _) (Int.ofNat_lt.2 d))) (D6 H.1 c).1).1 t h
  have:=H.1.n5
  have:=H.2.1
  grind
end
def RKs (g:GrT) (a:AutT) (v:Int):List Int:=(bsS (nxN g a) (a.2.1.length*g.1.length) v (a.2.1.length*g.1.length)).1
theorem HA {nx:Int->List Int} {N:Nat} {v:Int} (hv:0<=v/\v<N) (a: ∀x:Int,0<=x->x<N-> ∀y∈nx x,0<=y/\y<N) {K:Nat} (b:K=(bsS nx N v K).2.length): ∀d,bsS nx N v (K+d)=bsS nx N v K
 | 0=>rfl
 | d+1=>by
  have c:=HA hv a b d;grind[Nat.add_assoc,bsS,List.getElem?_eq_none]
section
variable {g:GrT} {a:AutT} (H:GOOD g a) {x:Int} (hx:0<=x/\x<g.1.length)
include H hx
theorem XF:0<=x*(a.2.1.length:Int)+a.1/\x*(a.2.1.length:Int)+a.1<(a.2.1.length*g.1.length:Nat):=by
 obtain ⟨z,rfl⟩: ∃z:Nat,x=(z:Int):=⟨_,(Int.toNat_of_nonneg hx.1).symm⟩;have c:=H.2.2.start;have ⟨s,b⟩: ∃s:Nat,a.1=(s:Int):=⟨_,(Int.toNat_of_nonneg c.1).symm⟩
 have:=cN H.1 H.2.2 H.2.1 (x:=z) (s:=s) (by omega) (by omega)
 omega
theorem XG:i64.wrap ((i64.wrap (x*(a.2.1.length:Int)))+a.1)=x*(a.2.1.length:Int)+a.1:=by
 have h:=XF H hx;have d:=nN H.1 H.2.2 H.2.1;have c:=H.2.2.start;have b:=H.2.1;grind[bd]
theorem aeu:BI (a.2.1.length*g.1.length) (bsS (nxN g a) (a.2.1.length*g.1.length) (x*(a.2.1.length:Int)+a.1) (a.2.1.length*g.1.length)):=D7 (XF H hx) (zG H) _
theorem Sx:(RKs g a (x*(a.2.1.length:Int)+a.1)).length=a.2.1.length*g.1.length:=(aeu H hx).len
theorem acM (e:dw g a [x] =some true):iV g a x=some (RKs g a (x*(a.2.1.length:Int)+a.1)):=by
 unfold iV;have e:dw (g.1,g.2) (a.1,a.2.1,a.2.2) [x] =_:=e;rw[e];simp only[aa,if_true];have h:gC (g.1,g.2) (a.1,a.2.1,a.2.2)=_:=aah H;rw[h];simp only[aa];have d:=nN H.1 H.2.2 H.2.1;obtain ⟨K,j,b,c⟩:=Ss (XF H hx) (zG H);rw[XG H hx,V6 d (XF H hx) (zG H) (fun x=>by have:=Lp H x;omega) j b c];simp only[aa];have f:bsS (nxN g a) (a.2.1.length*g.1.length) (x*(a.2.1.length:Int)+a.1) K=bsS (nxN g a) (a.2.1.length*g.1.length) (x*(a.2.1.length:Int)+a.1) (a.2.1.length*g.1.length):=by
  have:=HA (XF H hx) (zG H) b (a.2.1.length*g.1.length - K)
  rw[show K+(a.2.1.length*g.1.length - K)=a.2.1.length*g.1.length from by omega] at this;exact this.symm
 have i:=Sx H hx;rw[f];show ((chk _).bind fun _=>_).bind _=_;have hv:=XF H hx;rw[mQ (by rw[show (bsS _ _ _ _).1.length=_ from i];omega)];rfl
theorem aev {o1 o2:List Int} {i:Nat} {z:Int} {l:List Z8} (c:(bsS (nxN g a) (a.2.1.length*g.1.length) (x*(a.2.1.length:Int)+a.1) i).2[i]? =some z)
  (o:l.map (fun p=>p.2.1*(a.2.1.length:Int)+p.2.2)=nxN g a z) (hp: ∀p∈l,(0<=p.2.1/\p.2.1<60)/\0<=p.2.2/\p.2.2<60) :
  ah (kF a (o1,o2,(i:Int)) l) aR ((bsS (nxN g a) (a.2.1.length*g.1.length) (x*(a.2.1.length:Int)+a.1) i).1,(bsS (nxN g a) (a.2.1.length*g.1.length) (x*(a.2.1.length:Int)+a.1) i).2,0)=some (.brk ((bsS (nxN g a) (a.2.1.length*g.1.length) (x*(a.2.1.length:Int)+a.1) (i+1)).1,(bsS (nxN g a) (a.2.1.length*g.1.length) (x*(a.2.1.length:Int)+a.1) (i+1)).2,(l.length:Int))):=by
 have r:=nN H.1 H.2.2 H.2.1;have hv:=XF H hx;generalize E:x*(a.2.1.length:Int)+a.1=v at c hv⊢;have k:l.length<=720:=by have:=Lp H z;rw[<-o,List.length_map] at this;exact this
 have e:bsS (nxN g a) (a.2.1.length*g.1.length) v (i+1)=FY (nth (bsS (nxN g a) (a.2.1.length*g.1.length) v i).1 z+1) (bsS (nxN g a) (a.2.1.length*g.1.length) v i) (nxN g a z):=by rw[bsS,c]
 have:=aQ (f:=kF a (o1,o2,(i:Int)) l) (fun j=>((FY (nth (bsS (nxN g a) (a.2.1.length*g.1.length) v i).1 z+1) (bsS (nxN g a) (a.2.1.length*g.1.length) v i) ((nxN g a z).take j)).1,(FY (nth (bsS (nxN g a) (a.2.1.length*g.1.length) v i).1 z+1) (bsS (nxN g a) (a.2.1.length*g.1.length) v i) ((nxN g a z).take j)).2,(j:Int))) l.length (fun j C=>by
  have ⟨b,u,m,⟨q,B⟩,F,y⟩:=aad r hv (zG H) (fun x=>by grind[Lp]) c j;have d:j<(nxN g a z).length:=by rw[<-o,List.length_map];exact C
  have D:=zG H z q B _ (bG (xs:=nxN g a z) (i:=(j:Int)) (by omega) (by omega));have G:=hp _ (bG (xs:=l) (i:=(j:Int)) (by omega) (by omega));have h:nth (nxN g a z) (j:Int)=(nth l (j:Int)).2.1*(a.2.1.length:Int)+(nth l (j:Int)).2.2:=by grind[ZQ]
  unfold kF;simp only;rw[ye d,JC];generalize FY (nth (bsS (nxN g a) (a.2.1.length*g.1.length) v i).1 z+1) (bsS (nxN g a) (a.2.1.length*g.1.length) v i) ((nxN g a z).take j)=s at b u m y;have w:=b.le;have t:=b.len;rw[if_pos (by grind),ai (by omega) (by omega)];simp[aa];rw[bd (n:=(nth l (j:Int)).2.1*(a.2.1.length:Int)) (by omega) (by omega),<-h,bd (by omega) (by omega)];rw[ai (xs:=s.1) D.1 (by omega)];rw[show aO s.2 (i:Int)=some z from by simp_all[aO,if_pos]];simp[aa];rw[ai (xs:=s.1) q (by omega)];simp[aa];rw[al (by grind),ae (by omega),m,bd (by omega) (by omega)];unfold XE;grind) (by unfold kF;simp) (mB (by omega))
 have A:(nxN g a z).take l.length=nxN g a z:=by
  have:l.length=(nxN g a z).length:=by grind
  grind
 rw[A] at this;rw[e];exact this
theorem aai:oP g a x=some (RKs g a (x*(a.2.1.length:Int)+a.1)):=by
 have s:=nN H.1 H.2.2 H.2.1;have hv:=XF H hx;have d:=H.2.2.pos;unfold oP;have k:i64.wrap ((g.1.length:Int)*(a.2.1.length:Int))=((a.2.1.length*g.1.length:Nat):Int):=by
  grind[Nat.mul_comm,zo]
 have h:ah (kE g a) aR (([] :List Int),0)=some (.brk (List.replicate (a.2.1.length*g.1.length) (-1),((a.2.1.length*g.1.length:Nat):Int))):=by
  have:=aQ (f:=kE g a) (fun i=>(List.replicate i (-1),(i:Int))) (a.2.1.length*g.1.length) (fun i e=>by
   unfold kE;rw[k,if_pos (by grind),al (by grind),ae (by omega)];simp[aa];rw[List.replicate_succ']) (by simp_all[kE,if_neg]) (mB (by omega))
  exact this
 rw[af h,XG H hx];generalize m:x*(a.2.1.length:Int)+a.1=v at hv;rw[show aO [v] 0=some v from rfl];simp[aa];rw[ai (xs:=List.replicate _ (-1:Int)) hv.1 (by grind)];have ⟨K,u,n,j⟩:=Ss hv (zG H)
 have:=aQ (f:=kG g a) (fun i=>((bsS (nxN g a) (a.2.1.length*g.1.length) v i).1,(bsS (nxN g a) (a.2.1.length*g.1.length) v i).2,(i:Int))) K (fun i e=>by
  have b:=j i e;have ⟨z,c⟩: ∃z,(bsS (nxN g a) (a.2.1.length*g.1.length) v i).2[i]? =some z:=⟨_,List.getElem?_eq_getElem b⟩;have ⟨q,p⟩:=(D7 hv (zG H) i).rng z (List.mem_of_getElem? c);have ⟨l,o,r,hp⟩:=V8 H q p;unfold kG;rw[show aO (bsS (nxN g a) (a.2.1.length*g.1.length) v i).2 (i:Int)=some z from by unfold aO;grind];simp only[aa];rw[mQ (by omega),o];have t:=aev H hx (o1:=(bsS (nxN g a) (a.2.1.length*g.1.length) v i).1) (o2:=(bsS (nxN g a) (a.2.1.length*g.1.length) v i).2) (by rw[m];exact c) r hp;grind[af,ae]) (by unfold kG;grind) (mB (by omega))
 have this:ah (kG g a) aR ((List.replicate (a.2.1.length*g.1.length) (-1)).set v.toNat 0,[v],0)=_:=this;rw[af this]
 have:=HA hv (zG H) n (a.2.1.length*g.1.length - K)
 grind[RKs]
end
theorem aaj {l:List Int} {x:Int} (i:l.length<=1000000) (d:x∈l):bg x l=some (nbI l (some x)):=by
 unfold bg gk;have ⟨o,e,j⟩:=bW (f:=fl l x) (fun k s=>s=(k:Int)/\x∉l.take k) (fun o=>o= .ret (nbI l (some x))) l.length (s:=0) (by
  rintro k s g ⟨rfl,b⟩;unfold fl;by_cases a:k<l.length
  ·rw[if_pos (by grind),ai (by omega) (by omega)];simp only[aa];by_cases h:nth l (k:Int)=x
   ·grind[bJ,List.drop_eq_getElem_cons,List.take_append_drop,Jv,az,Nat.min_eq_left]
   ·refine .inl ⟨a,_,by rw[if_neg (by grind)],by grind[ae],?_⟩;rw[take_one a,List.mem_append,List.mem_singleton];rintro (c | c)
    ·exact b c
    ·exact h c.symm
  grind) ⟨rfl,by simp⟩ (mB (by omega))
 grind[aW]
section
variable {a:AutT} {n:Nat}
def rep (c:List Int) (x:Int):Int:=nbI c (some x)
theorem Sy {c:List Int} {x:Int} (h:x∈c):0<=rep c x/\rep c x<c.length/\nth c (rep c x)=x:=by
 grind[rV,rep,bJ]
def afH (a:AutT) (n:Nat) (r:AutT):Prop:=(nth (live a) a.1=false/\r=nothing)\/(nth (live a) a.1=true/\ ∃(j:Nat) (c:List Int) (nx:Int->List (Option Int)) (ac:Int->Bool) (N:Nat),c=cI a j/\(∀r,good n (live a) r->nx (nth c r)=AN a c (live a) r)/\(∀r,good n (live a) r->ac (nth c r)=nth a.2.1 r)/\bfE nx (nth c a.1) N/\(∀x∈bfS nx (nth c a.1) N,(nx x).length=9)/\r=(0,(bfS nx (nth c a.1) N).map ac,bfR nx (nth c a.1) N))
theorem OV (V:VA a n) (C:n<=1000000): ∃r,iJ a=some r/\du a=some r/\Data.sm r/\VA r r.2.1.length/\r.2.1.length<=n/\afH a n r:=by
 have R:=V.len;have o:=V.start;have K:(live a).length=n:=by rw[yc,R]
 have ⟨c,es,ei,S,hfix,j,hj⟩:=OS V C;have d: ∀s:Int,0<=s->s<n->(nth c s<0↔nth (live a) s=false):=fun s z W=>by
  have:=(FV a (s:=s.toNat) (by omega) j).1
  grind
 have P: ∀s:Int,0<=s->s<n->nth c s<n:=fun s z W=>by
  have:=Z1 (c:=c) (a:=a) (s:=s.toNat) (by omega)
  grind
 have q: ∀r,good n (live a) r->0<=nth c r:=fun r b=>by
  have:=d r b.1 b.2.1
  by_cases k:nth c r<0
  ·have:=this.1 k;rw[b.2.2] at this;grind
  ·omega
 have M: ∀r t:Int,0<=r->r<n->0<=t->t<n->0<=nth c r->nth c r=nth c t->H1 a c r=H1 a c t:=fun r t r0 r1 t0 t1 z h=>by
  have:=R9 (a:=a) (c:=c) (s:=r.toNat) (t:=t.toNat) (by omega) (by omega) (by grind) (by grind)
  grind
 have I: ∀r t:Int,0<=r->r<n->0<=t->t<n->0<=nth c r->nth c r=nth c t->nth a.2.1 r=nth a.2.1 t:=fun r t r0 r1 t0 t1 z h=>by
  have:=Xx a (s:=r.toNat) (t:=t.toNat) (by omega) (by omega) j (by rw[<-hj,show ((r.toNat:Nat):Int)=r from by omega];exact z) (by rw[<-hj,show ((r.toNat:Nat):Int)=r from by omega,show ((t.toNat:Nat):Int)=t from by omega];exact h)
  rwa [show ((r.toNat:Nat):Int)=r from by omega,show ((t.toNat:Nat):Int)=t from by omega] at this
 have g: ∀r,good n (live a) r->AN a c (live a) r=(List.range 9).map fun k=>if 0<=ent a c r k then some (ent a c r k) else none:=fun r b=>by
  refine List.map_congr_left fun k m=>?_;have m:=List.mem_range.1 m;have w:=V.mv b.1 b.2.1 m;unfold ent;by_cases h:mv a r k<0
  ·rw[if_pos h,if_neg (fun L=>by omega),if_neg (by omega)]
  ·rw[if_neg h]
   have:=d (mv a r k) (by omega) w.2
   cases X:nth (live a) (mv a r k) with
   | false =>
    grind
   | true =>
    grind
 have U: ∀r t:Int,H1 a c r=H1 a c t-> ∀k,k<9->ent a c r k=ent a c t k:=fun r t h k m=>by
  have h:(List.range 9).map (fun k=>ent a c r k)=(List.range 9).map (fun k=>ent a c t k):=by unfold H1 at h;injection h
  simp_all
 let J:=fun x=>AN a c (live a) (rep c x);let acc:=fun x=>nth a.2.1 (rep c x);let G:=fun x=> ∃r,good n (live a) r/\nth c r=x;have B: ∀x,G x->x∈c/\0<=x/\good n (live a) (rep c x):=by
  rintro x ⟨r,b,rfl⟩;have w:=bG b.1 (by rw[S];exact b.2.1);have ⟨z,W,E⟩:=Sy w;have hp:=q r b;refine ⟨w,hp,z,by omega,?_⟩
  have:=d (rep c (nth c r)) z (by omega)
  rw[E] at this;cases X:nth (live a) (rep c (nth c r)) with
  | true=>rfl
  | false=>grind
 have O: ∀r,good n (live a) r->J (nth c r)=AN a c (live a) r:=fun r b=>by
  have ⟨w,hp,p⟩:=B _ ⟨r,b,rfl⟩;have ⟨z,W,E⟩:=Sy w;show AN a c (live a) (rep c (nth c r))=_;rw[g _ p,g _ b];refine List.map_congr_left fun k m=>?_;rw[U _ _ (M _ _ p.1 p.2.1 b.1 b.2.1 (by omega) E) k (List.mem_range.1 m)]
 have Q: ∀r,good n (live a) r->acc (nth c r)=nth a.2.1 r:=fun r b=>by
  have ⟨w,hp,p⟩:=B _ ⟨r,b,rfl⟩;have ⟨z,W,E⟩:=Sy w;exact I _ _ p.1 p.2.1 b.1 b.2.1 (by omega) E
 have Z: ∀r,good n (live a) r-> ∀y,some y∈AN a c (live a) r->G y:=fun r b y h=>by
  have ⟨k,m,e⟩:=List.mem_map.1 h;have m:k<9:=List.mem_range.1 m;split at e
  ·rename_i hc;exact ⟨mv a r k,⟨hc.1,(V.mv b.1 b.2.1 m).2,hc.2⟩,ad e⟩
  grind
 unfold iJ du;simp only[fx];rw[es,ei,Xr V C];simp only[aa];rw[ai o.1 (by omega)];simp only[aa];cases D:nth (live a) a.1 with
 | false =>
  have:=(d a.1 o.1 o.2).2 D
  rw[Lg V K D,if_pos (by grind),R2];exact ⟨nothing,rfl,rfl,OQ,OT,V.pos,.inl ⟨D,rfl⟩⟩
 | true =>
  have A:good n (live a) a.1:=⟨o.1,o.2,D⟩;have hp:=q _ A;have H:NumOk J (nth c a.1) G n:=⟨⟨a.1,A,rfl⟩,fun x f y hy=>Z _ (B x f).2.2 y hy,fun x f=>by simp[J,AN],fun l hd h=>OP n l hd fun x f=>by
   obtain ⟨r,b,rfl⟩:=h x f;exact ⟨q r b,P r b.1 b.2.1⟩⟩
  have ⟨N,F,e1⟩:=ach (acc:=acc) V C S K D H C O Q;have i: ∀x,G x->bg x c=some (rep c x):=fun x f=>aaj (by omega) (B x f).1;have ⟨N',Y,e2⟩:=acg (most:=(c.length:Int)) (p2:=fun u=>dI u (a.1,a.2.1,a.2.2) (fun u=>bg u c)) (p3:=fun u a1=>dJ u a1 (a.1,a.2.1,a.2.2) (fun u=>bg u c) c) (acc:=acc) H C (by omega) (fun x f=>acp C (B x f).2.1 (by
    obtain ⟨r,b,rfl⟩:=f;exact P r b.1 b.2.1)) (fun x f=>by
   show dI x (a.1,a.2.1,a.2.2) (fun u=>bg u c)=_;unfold dI;simp only;rw[i x f];simp only[aa];rw[V.acc (B x f).2.2.1 (B x f).2.2.2.1];rfl) (fun x k f m=>by
   have ⟨w,hx0,p⟩:=B x f;have hm':=V.mv p.1 p.2.1 m;refine ⟨0,?_⟩;show dJ x k (a.1,a.2.1,a.2.2) (fun u=>bg u c) c=_;unfold dJ;simp only;rw[i x f];simp[aa];rw[show cm (a.1,a.2.1,a.2.2) (rep c x) k=some (mv a (rep c x) k) from MY V p.1 p.2.1 m];simp[aa];show _=some (match nth (AN a c (live a) (rep c x)) (k:Int) with | some y=>(y,true) | none=>(0,false));rw[M5 m];by_cases h:mv a (rep c x) k<0
   ·rw[if_pos (by simpa using h),if_neg (fun L=>by omega)]
   ·rw[if_neg (by simpa using h),ai (by omega) (by omega)];simp[aa];have T:=d (mv a (rep c x) k) (by omega) hm'.2;cases X:nth (live a) (mv a (rep c x) k) with
    | false =>
     have:=T.2 X
     rw[if_pos (by simpa using this),if_neg (fun L=>by cases L.2)]
    | true =>
     have: ¬nth c (mv a (rep c x) k)<0:=fun L=>by have:=T.1 L;rw[X] at this;cases this
     rw[if_neg (by simpa using this),if_pos ⟨by omega,rfl⟩])
  cases VI F Y;have v:=acz (acc:=acc) H F;refine ⟨_,by rw[e1];rfl,?_,acq H C F,v.self,?_,.inr ⟨D,j,c,J,acc,N,hj,O,Q,F,fun x _=>by simp[J,AN],rfl⟩⟩
  rotate_left
  ·rw[v.len,F.1];exact H.bound _ (qP N) (nD H.g0 H.gn N)
  simp_all
theorem OW (V:VA a n) (b:n<=1000000): ∃r,iJ a=some r/\du a=some r/\Data.sm r/\VA r r.2.1.length/\r.2.1.length<=n:=by
 grind[OV]
theorem V9 (V:VA a n) (b:n<=1000000): ∃r,iJ a=some r/\du a=some r/\Data.sm r:=by
 grind[OW]
end
theorem tM:Data.sm ((0,[],[]):AutT):=⟨trivial,⟨by decide,fun _ h=>by cases h⟩,by decide,fun _ h=>by cases h⟩
theorem JD {e:List Tok} (k:e.length<=1048576): ∃r:AutT×Bool,m_s_CompileExpr e=some r/\kK e=some r/\Data.sm r.1:=by
 obtain ⟨⟨p,b⟩,l,q,a,h⟩:=yd k;have a:p.2.2.2.1.length=p.1.length:=a;have h:p.1.length<=100000:=h;unfold m_s_CompileExpr kK;rw[l,q];simp only[aa,fx];cases b with
 | false=>exact ⟨((0,[],[]),false),rfl,rfl,tM⟩
 | true =>
  have g:=acn (p:=p) (most:=200) a (by omega) (by omega) (by omega);have f:=aeh (p:=p) (most:=200) a (by omega) (by omega) (by omega);have g:fF p 200=_:=g;have f:kI p 200=_:=f;rw[g,f];simp only[if_true,aa];rcases Lk (nx:=nxS p) (first:=1) (acc:=vC p) (most:=200) (200+2) 0 (fun j t=>by omega) (by simp[bfS]) with e | ⟨N,i,m,e⟩
  ·rw[e];exact ⟨((0,[],[]),false),rfl,rfl,tM⟩
  ·rw[e];simp only[if_true];have V:=Se (acc:=vC p) (DX p) i;obtain ⟨r,n,o,s⟩:=V9 V (by omega);unfold C6;rw[n];simp only[aa,fx];rw[o];simp only[aa,fx];by_cases c:(r.2.1.length:Int)>12
   ·have d:decide ((r.2.1.length:Int)>12)=true:=decide_eq_true c;simp only[d,if_true,aa];exact ⟨((0,[],[]),false),rfl,rfl,tM⟩
   ·have d:decide ((r.2.1.length:Int)>12)=false:=decide_eq_false c;simp only[d,Bool.false_eq_true,if_false,aa];exact ⟨(r,true),rfl,rfl,s⟩
theorem D8 {e:List Tok} (a:e.length<=1048576): ∃r:AutT×Bool,m_s_CompileExpr e=some r/\kK e=some r/\Data.sm r.1:=JD a
end D
open Go.ChangeShapes Go.WideShapes Go.ChangeAt Go.RowKit
theorem own:ownKnob Tryz.prog.godebug=none:=by kernel_rfl
theorem laidOut:laidOutB Tryz.prog=true:=by kernel_rfl
theorem zH {H:Type} {enc:TypeId×Value->H} {P:Program} (c:laidOutB P=true) {W f:World} (e:Below W.heap.size W f) :
  ∀ {ts:List TypeId} {vs:List Value} {ds:List (DataW H)} {ps:List MemPlace},(∀t∈ts,P.readableRec t=true/\t<P.types.size)->
   DataW.TrodAll enc P W 0 (fun _=>true) true ts vs ds ps->(∀x∈ps,x.block<W.heap.size)->DataW.TrodAll enc P f 0 (fun b=>decide (b<W.heap.size)) true ts vs ds ps
 | [],[],[],ps,_,h,_=>h
 | t::ts,v::vs,d::ds,ps,hr,⟨p,q,h1,h2,h3⟩,hlt=>by
  subst h3;exact ⟨p,q,Below.trod c (hr t (by simp)).1 (hr t (by simp)).2 h1 e fun x a=>hlt x (by simp[a]),zH c e (fun t g=>hr t (by simp[g])) h2 fun x a=>hlt x (by simp[a]),rfl⟩
 | [],_::_,_,_,_,h,_=>h.elim
 | [],[],_::_,_,_,h,_=>h.elim
 | _::_,[],_,_,_,h,_=>h.elim
 | _::_,_::_,[],_,_,h,_=>h.elim
theorem Wa {H:Type} {enc:TypeId×Value->H} {f:Func} {s:ChangeSpec} {W j:World} {args:Array Value} {ds:List (DataW H)} {before:List MemPlace} (l:TypeId)
  (n:Tryz.prog.underlying l=some .bool) (y:f.resultTypes= #[l]) (hp:(f.params.toList.all fun t=>Tryz.prog.readableRec t&&decide (t<Tryz.prog.types.size))=true) (hv:s.vars= [])
  (v:DataW.Whole enc Tryz.prog f.params.toList s.vars false W args.toList ds [] before) (e:(s.fn H (ds++ [])).results= [.lit (.bool true)]) (b:(s.fn H (ds++ [])).args=ds) (c:(s.fn H (ds++ [])).vars= [])
  (a:Below W.heap.size W j):s.post enc Tryz.prog f false true false false W args (.bool true) j:=by
 obtain ⟨p,q,k,g,i,r,m⟩:=v;have d:DataW.Whole enc Tryz.prog f.params.toList s.vars false W args.toList ds [] before:=⟨p,q,k,g,i,r,m⟩;have u:q= []:=by rw[hv] at g;exact g
 subst u;simp only[List.append_nil] at i;subst i;refine ⟨ds,[],before,[],before,[],d,?_,?_,?_,a.frame _,fun h=>by cases h⟩
 ·rw[e,y];exact trodAll_mk1 (shut_bool n true)
 ·rw[b];exact zH laidOut a (fun t w=>by have:=List.all_eq_true.1 hp t w;simpa using this) k fun x o=>by simpa using d.lt x o
 ·rw[c,hv];rfl
namespace D
open Go.RowKit
theorem yf (x y:AutT) (m:Data.sm x):iK x y=some (decide (x=y)):=by
 obtain ⟨-,⟨p,-⟩,o,n⟩:=m;unfold iK;by_cases g:x.1=y.1
 case neg=>rw[if_pos (by simpa using g)];simp[Prod.ext_iff,g]
 rw[if_neg (by simpa using g)];by_cases k:x.2.1.length=y.2.1.length
 case neg=>rw[if_pos (by simp;omega)];simp[Prod.ext_iff];exact fun _ e=>absurd (by rw[e]) k
 rw[if_neg (by simp;omega)];by_cases l:x.2.2.length=y.2.2.length
 case neg=>rw[if_pos (by simp;omega)];simp[Prod.ext_iff];exact fun _ _ e=>absurd (by rw[e]) l
 rw[if_neg (by simp;omega)];rw[eqB (f:=iz x y) x.2.1 y.2.1 (by omega) k (fun i h j=>by
  simp only[iz,bu h,if_true,aC h,aC j,aa,ae (show i<9223372036854775807 by omega)];by_cases c:x.2.1[i] =y.2.1[i] <;> simp[c]) (by simp only[iz,bE];rfl)]
 by_cases b:x.2.1=y.2.1
 case neg=>rw[if_neg b];simp[Prod.ext_iff,b]
 rw[if_pos b];rw[eqB (f:=iA x y) x.2.2 y.2.2 (by omega) l (fun i h j=>by
  obtain ⟨r,e,a⟩:=AO x.2.2[i] y.2.2[i] ((n _ (List.getElem_mem h)).1);simp only[iA,bu h,if_true,aC h,aC j,aa,ae (show i<9223372036854775807 by omega),e];by_cases c:x.2.2[i] =y.2.2[i]
  ·rw[if_neg (by simpa using a.2 c),if_pos c]
  ·rw[if_pos (by simpa using fun e=>c (a.1 e)),if_neg c]) (by simp only[iA,bE];rfl)]
 by_cases d:x.2.2=y.2.2
 ·rw[if_pos d];simp[Prod.ext_iff,g,b,d]
 ·rw[if_neg d];simp[Prod.ext_iff,d]
theorem Wb (xs ys:List Bool) (a:xs.length<=9223372036854775807):fA xs ys=some (decide (xs=ys)):=
 eqL (f:=cY xs ys) xs ys a (fun i h b=>by
  simp only[cY,bu h,if_true,aC h,aC b,aa,ae (show i<9223372036854775807 by omega)];by_cases c:xs[i] =ys[i] <;> simp[c]) (by simp only[cY,bE];rfl)
theorem D9 (x y:AutT) (g:Data.sm x):fI x y=some (decide (x=y)):=by
 obtain ⟨-,⟨m,-⟩,n,l⟩:=g;unfold fI;by_cases b:x.1=y.1
 case neg=>rw[if_neg (by simpa using b)];simp[Prod.ext_iff,b]
 rw[if_pos (by simpa using b),Wb _ _ (by omega)];simp only[aa];by_cases a:x.2.1=y.2.1
 case neg=>rw[if_neg (by simpa using a)];simp[Prod.ext_iff,a]
 rw[if_pos (by simpa using a)]
 have:bT x.2.2 y.2.2 (fun d k=>ju d k)=some (decide (x.2.2=y.2.2)):=
  eqL (f:=ba x.2.2 y.2.2 _) x.2.2 y.2.2 (by omega) (fun i h j=>by
   simp only[ba,bu h,if_true,aC h,aC j,aa,ae (show i<9223372036854775807 by omega),ju];rw[zA _ _ (by have:x.2.2[i].length<=1048576:=(l _ (List.getElem_mem h)).1;omega)];simp only[aa];by_cases c:x.2.2[i] =y.2.2[i] <;> simp[c]) (by simp only[ba,bE];rfl)
 rw[this];by_cases e:x.2.2=y.2.2 <;> simp[Prod.ext_iff,b,a,e]
abbrev QT:=Int×List Tok×Int
abbrev pZ:=List AutT×List QT
theorem Wc (x y:List Tok) (b:x.length<=1048576):rK x y=some (decide (x=y)):=by
 exact eqL (f:=lh x y) x y (by omega) (fun i h a=>by
  simp[lh,bu h,if_true,aC h,aC a,aa,fx,ae (show i<9223372036854775807 by omega)];grind) (by simp_all[lh,bE])
theorem Sz (x y:List Tok) (b:x.length<=1048576):eV x y=some (decide (x=y)):=by
 exact eqL (f:=cJ x y) x y (by omega) (fun i h a=>by
  simp[cJ,bu h,if_true,aC h,aC a,aa,fx,ae (show i<9223372036854775807 by omega)];grind) (by simp_all[cJ,bE])
theorem Wd (x y:List Tok) (a:x.length<=1048576):oF x y=some (decide (x=y)):=by
 grind[oF,Sz]
theorem zI (x y:pZ) (d:Data.sm x):jm x y=some (decide (x=y)):=by
 have ⟨⟨k,j⟩,l,g⟩:=d;unfold jm;by_cases b:x.1.length=y.1.length
 ·by_cases c:x.2.length=y.2.length
  ·rw[eqB (f:=gb x y) x.1 y.1 (by omega) b (fun i h a=>by
    simp[gb,bu h,if_true,aC h,aC a,aa,fx,yf x.1[i] y.1[i] (j _ (List.getElem_mem h)),ae (show i<9223372036854775807 by omega)];grind) (by simp only[gb,bE];rfl)]
   rw[eqB (f:=gf x y) x.2 y.2 (by omega) c (fun i h a=>by
    have e:=Wc x.2[i].2.1 y.2[i].2.1 (g _ (List.getElem_mem h)).2.1.1;simp[gf,bu h,if_true,aC h,aC a,aa,e,ae (show i<9223372036854775807 by omega)];grind) (by simp only[gf,bE];rfl)]
   grind[Prod.ext_iff]
  ·have:x.2≠y.2:=fun e=>c (by rw[e])
   rw[if_neg (by grind),if_pos (by grind)];simp[Prod.ext_iff,this]
 ·have:x.1≠y.1:=fun e=>b (by rw[e])
  rw[if_pos (by grind)];simp[Prod.ext_iff,this]
theorem OX (x y:QT) (d:Data.sm x):jK x y=some (decide (x=y)):=by
 unfold jK;rw[Wd x.2.1 y.2.1 d.2.1.1];by_cases a:x.1=y.1 <;> by_cases c:x.2.1=y.2.1 <;> by_cases b:x.2.2=y.2.2 <;> simp[Prod.ext_iff,a,c,b]
theorem zJ (x y:pZ) (g:Data.sm x):fP x y=some (decide (x=y)):=by
 have ⟨⟨n,m⟩,o,l⟩:=g;unfold fP;have e:a8 x.1 y.1 (fun a c=>fI a c)=some (decide (x.1=y.1)):=
  eqL (f:=aT x.1 y.1 _) x.1 y.1 (by omega) (fun i h b=>by
   simp[aT,bu h,if_true,aC h,aC b,aa,fx,ae (show i<9223372036854775807 by omega),D9 x.1[i] y.1[i] (m _ (List.getElem_mem h))];grind) (by simp only[aT,bE];rfl)
 have k:aZ x.2 y.2 (fun a c=>jK a c)=some (decide (x.2=y.2)):=
  eqL (f:=aS x.2 y.2 _) x.2 y.2 (by omega) (fun i h b=>by
   simp[aS,bu h,if_true,aC h,aC b,aa,fx,ae (show i<9223372036854775807 by omega),OX x.2[i] y.2[i] (l _ (List.getElem_mem h))];grind) (by simp only[aS,bE];rfl)
 rw[e,k];by_cases d:x.1=y.1 <;> by_cases j:x.2=y.2 <;> simp[Prod.ext_iff,d,j]
theorem wx {R S:Type} {f g:S->Option (Out R S)} (Inv:Nat->S->Prop) (h: ∀i s,Inv i s->g s=f s/\ ∀a,f s=some (.nxt a)->Inv (i+1) a): ∀(k i:Nat) (s:S),Inv i s->ah g k s=ah f k s
 | 0,_,_,_=>rfl
 | k+1,i,s,hI=>by
  have ⟨b,c⟩:=h i s hI;rw[ah,ah,b];cases e:f s with
  | none=>rfl
  | some o =>
   cases o with
   | nxt a=>exact wx Inv h k (i+1) a (c a e)
   | brk a=>rfl
   | ret r=>rfl
theorem Nj {f g:Int->Option (Out Int Int)} (N:Nat) (j:N<=1048576) (h: ∀i:Nat,i<N->f (i:Int)=some (.ret (i:Int))\/f (i:Int)=some (.nxt ((i+1:Nat):Int))) (k:f (N:Int)=some (.brk (N:Int))) (d: ∀i:Nat,i<=N->g (i:Int)=f (i:Int)) :
  ∃r:Int,aM (ah f aR 0) (fun r=>some r) (fun _=>some (-1))=some r/\aM (ah g aR 0) (fun r=>some r) (fun _=>some (-1))=some r/\(r= -1\/ ∃i:Nat,i<N/\r=(i:Int)):=by
 have b:ah g aR 0=ah f aR 0:=wx (fun i s=>s=(i:Int)/\i<=N) (fun i s ⟨e,a⟩=>by
  grind) aR 0 0 ⟨rfl,Nat.zero_le _⟩
 rw[b];have ⟨o,e,c⟩:=bW (f:=f) (fun i s=>s=(i:Int)) (fun o=>o= .brk (N:Int)\/ ∃i:Nat,i<N/\o= .ret (i:Int)) N (fun i s a b=>by
  grind) (s:=0) rfl (cX _ (by omega))
 rw[e];rcases c with rfl | ⟨i,a,rfl⟩
 ·exact ⟨-1,rfl,rfl,.inl rfl⟩
 ·exact ⟨i,rfl,rfl,.inr ⟨i,a,rfl⟩⟩
theorem OY (l:List AutT) (a:AutT) (d:l.length<=1048576) (hs: ∀x∈l,Data.sm x) (b:Data.sm a): ∃r:Int,gH l a=some r/\bK l (fun c=>oT c a)=some r/\(r= -1\/ ∃i:Nat,i<l.length/\r=(i:Int)):=by
 have e: ∀i (h:i<l.length),eU l a (i:Int)=if l[i] =a then some (.ret (i:Int)) else some (.nxt ((i+1:Nat):Int)):=fun i h=>by
  simp[eU,bu h,if_true,aC h,aa,fx,yf l[i] a (hs _ (List.getElem_mem h)),ae (show i<9223372036854775807 by omega)];grind
 refine Nj l.length d (fun i h=>?_) (by simp only[eU,bE];rfl) (fun i f=>?_)
 ·grind
 ·by_cases h:i<l.length
  ·simp[b8,oT,bu h,if_true,aC h,aa,fx,D9 a l[i] b,ae (show i<9223372036854775807 by omega)];grind
  ·obtain rfl:i=l.length:=by omega
   simp_all[eU,b8,bE]
def Lq (n i:Nat) (s:Int×List AutT×List QT):Prop:=s.1=(i:Int)/\i<=n/\s.2.2.length=i/\s.2.1.length<=i/\(∀a∈s.2.1,Data.sm a)/\ ∀q∈s.2.2,Data.sm q/\0<=q.2.2/\q.2.2<(s.2.1.length:Int)
theorem Nk {qs:List QT} (u:Data.sm qs) {i:Nat} {s:Int×List AutT×List QT} (H:Lq qs.length i s):ni qs s=bD qs s /\
  ((i<qs.length/\ ∃s',bD qs s=some (.nxt s')/\Lq qs.length (i+1) s')\/ ∃o,bD qs s=some o/\(∀s',o≠ .nxt s')/\(o= .ret (([],[]),false)\/o= .brk s/\i=qs.length)):=by
 have ⟨M,t⟩:=aP u;have ⟨K,A,Q⟩:=s;have ⟨l,L,D,p,g,E⟩:=H;simp only at l D p g E;subst l;by_cases f:i<qs.length
 ·have c:=t _ (List.getElem_mem f);have ⟨r,w,x,I⟩:=D8 (e:=qs[i].2.1) c.2.1.1;have ⟨k,B,z,G⟩:=OY A r.1 (by omega) g I;have m:bC 56 A [r.1] =some (A++ [r.1]):=al (by grind);have F: ∀y,bC 40 Q [y] =some (Q++ [y]):=fun y=>al (by grind);have n:gm qs[i].2.1=some qs[i].2.1:=by unfold gm;rw[al (by have:=c.2.1.1;grind)];rfl
  have v:ji qs[i].2.1=some qs[i].2.1:=by unfold ji;rw[al (by have:=c.2.1.1;grind)];rfl
  unfold ni bD;simp[bu f,if_true,aC f,aa,w,x,xm,Ep,fx,B,z,m,F,n,v,ae (show i<9223372036854775807 by omega)];by_cases P:r.2=true
  case neg =>
   simp_all
  by_cases N:1<=qs[i].1/\qs[i].1<=99
  case neg =>
   grind
  have fin: ∃s':Int×List AutT×List QT,(∀(y:Option (Out (pZ×Bool) (Int×List AutT×List QT))),True)/\(Option.bind (if decide (k<0) then some ((A.length:Int),A++ [r.1],Q) else some (k,A,Q)) fun d:Int×List AutT×List QT=>(bC 40 d.2.2 [(qs[i].1,qs[i].2.1,d.1)]).bind fun h=>some (.nxt (((i+1:Nat):Int),d.2.1,h)):Option (Out (pZ×Bool) (Int×List AutT×List QT)))=some (.nxt s')/\Lq qs.length (i+1) s':=by
   rcases G with rfl | ⟨j,R,rfl⟩
   ·refine ⟨(((i+1:Nat):Int),A++ [r.1],Q++ [(qs[i].1,qs[i].2.1,(A.length:Int))]),fun _=>trivial,?_,rfl,f,by grind,by grind,fun a O=>?_,fun q b=>?_⟩
    ·grind
    ·grind
    ·simp[List.mem_append,List.mem_singleton] at b;rcases b with b | rfl
     ·grind
     ·exact ⟨⟨trivial,c.2.1,trivial⟩,by simp,by grind⟩
   ·refine ⟨(((i+1:Nat):Int),A,Q++ [(qs[i].1,qs[i].2.1,(j:Int))]),fun _=>trivial,?_,rfl,f,by grind,by grind,g,fun q b=>?_⟩
    ·grind
    ·simp[List.mem_append,List.mem_singleton] at b;rcases b with b | rfl
     ·grind
     ·exact ⟨⟨trivial,c.2.1,trivial⟩,by simp,by grind⟩
  by_cases C:(i:Int)>0
  ·have hp:i - 1<qs.length:=by omega
   have J:i64.wrap ((i:Int) - 1)=((i - 1:Nat):Int):=by rw[fw (by omega)];omega
   simp[C,decide_true,if_true,J,aC hp,aa];grind
  grind
 ·obtain rfl:i=qs.length:=by omega
  simp_all[ni,bD,bE,Bool.false_eq_true,if_false,trivial]
def RegOk (r:pZ):Prop:=Data.sm r/\ ∀q∈r.2,0<=q.2.2/\q.2.2<(r.1.length:Int)
theorem Cg {qs:List QT} (c:Data.sm qs): ∃r:pZ,∃b:Bool,cQ qs=(if (qs.length:Int)>4 then some (([],[]),false) else some (r,b))/\we qs=some (r,b&&decide ((qs.length:Int)<=4))/\RegOk r:=by
 have u:=(aP c).1;have j:Lq qs.length 0 (0,[],[]):=⟨rfl,Nat.zero_le _,rfl,ay _,fun _ h=>(by cases h),fun _ h=>(by cases h)⟩;have m:ah (ni qs) aR (0,[],[])=ah (bD qs) aR (0,[],[]):=wx (Lq qs.length) (fun i s a=>by
  have ⟨e,h⟩:=Nk c a;grind) aR 0 _ j
 have ⟨o,e,k⟩:=bW (f:=bD qs) (Lq qs.length) (fun o=>o= .ret (([],[]),false)\/ ∃A Q,o= .brk ((qs.length:Int),A,Q)/\Lq qs.length qs.length ((qs.length:Int),A,Q)) qs.length (fun i s v a=>by
  rcases (Nk c a).2 with h | ⟨o,e,n,h⟩
  ·grind
  ·rcases h with h | ⟨h,rfl⟩
   ·grind
   ·have ⟨t,A,Q⟩:=s;obtain ⟨rfl,-⟩:=id a;grind) j (cX _ (by omega))
 unfold cQ we;rw[m,e];rcases k with rfl | ⟨A,Q,rfl,-,-,p,l,g,d⟩
 ·refine ⟨([],[]),false,?_,rfl,⟨⟨Nat.zero_le _,fun _ h=>(by cases h)⟩,Nat.zero_le _,fun _ h=>(by cases h)⟩,fun _ h=>(by cases h)⟩;grind[aM]
 ·simp only at p l g d;refine ⟨(A,Q),true,?_,by rfl,⟨⟨show A.length<=1048576 by omega,g⟩,show Q.length<=1048576 by omega,fun q h=>(d q h).1⟩,fun q h=>(d q h).2⟩;grind[aM]
theorem oq {r:pZ} (h:Data.sm r): ∃b,m_s_IsValidRegistry r=some b/\cx r=some b/\(b=true->RegOk r):=by
 have ⟨x,b,f,g,a⟩:=Cg h.2;unfold m_s_IsValidRegistry cx;rw[f,g];by_cases c:(r.2.length:Int)>4
 ·exact ⟨false,by simp[c],by grind,fun e=>by cases e⟩
 ·have d:(r.2.length:Int)<=4:=by omega
  cases b with
  | false=>exact ⟨false,by simp[c],by simp,fun e=>by cases e⟩
  | true =>
   simp[c,if_false,aa,if_true,d,decide_true,Bool.and_true,fx,zI x r a.1,zJ x r a.1];grind
abbrev rZ:=Int×(List GrT)
abbrev ux:=Int×Int×Int
abbrev SA:=Int×Bool×(Yq7×Yq7)
theorem qS (g:GrT) (a:Data.sm g):b7 g=some g:=by
 have b:=(aP a.1).1;have c:=(aP a.2).1;unfold b7;rw[al (by simp;omega)];simp only[aa,List.nil_append];rw[al (by simp;omega)];rfl
theorem Lr (g:GrT) (a:Data.sm g):jw g=some g:=by
 have b:=(aP a.1).1;have c:=(aP a.2).1;unfold jw kL;rw[al (by simp;omega)];simp only[aa,List.nil_append];rw[al (by simp;omega)];rfl
theorem wz {g:GrT} (a:Data.sm g): ∃b,bf g=some b:=by
 obtain ⟨b,e,_⟩:=Nf g (aP a.1).1 (aP a.2).1;exact ⟨b,e⟩
def okG (h:rZ) (g:GrT):Prop:=bf g=some true/\g.1=(nth h.2 0).1
instance (h g):Decidable (okG h g):=by unfold okG;infer_instance
theorem jM (h:rZ) (y:Data.sm h): ∃b,m_s_IsValidHistory h=some b/\m_i_IsValidHistory h=some b/\(b=true->(1<=h.2.length/\h.2.length<=8)/\1<=h.1/\h.1<=1000 - (h.2.length:Int)):=by
 obtain ⟨A,u⟩:=aP y.2;have w:i64.wrap ((i64.wrap (999 - (h.2.length:Int)))+1)=1000 - (h.2.length:Int):=by
  rw[bd (n:=999 - (h.2.length:Int)) (by omega) (by omega),bd (by omega) (by omega)];omega
 have t:=scan (f:=bH h) h.2 (okG h) false (by omega) (fun i z=>by
  have j:=u _ (bG (xs:=h.2) (i:=(i:Int)) (by omega) (by omega));obtain ⟨b,e⟩:=wz j;obtain ⟨r,l,v⟩:=AO (nth h.2 (i:Int)).1 (nth h.2 0).1 (aP j.1).1;have p:aY ((nth h.2 (i:Int)).1,(nth h.2 (i:Int)).2)=some b:=by rw[lV];exact e
  have g:okG h (nth h.2 (i:Int))↔b=true/\(nth h.2 (i:Int)).1=(nth h.2 0).1:=by unfold okG;rw[e];simp
  unfold bH;rw[if_pos (by simp;omega),ai (by omega) (by omega)];simp only[aa];rw[p,ai (xs:=h.2) (i:=0) (by omega) (by omega)];simp only[aa];rw[l,ae (by omega)];simp only[aa];cases b with
  | false=>rw[if_neg (by decide),if_neg (fun c=>by cases (g.1 c).1)]
  | true =>
   rw[if_pos rfl];by_cases c:r=0
   ·rw[if_neg (by simp[c]),if_pos (g.2 ⟨rfl,v.1 c⟩)]
   ·rw[if_pos (by simpa using c),if_neg (fun k=>c (v.2 (g.1 k).2))]) (by unfold bH;simp)
 have x:=scan (f:=gN h) h.2 (okG h) false (by omega) (fun i z=>by
  have j:=u _ (bG (xs:=h.2) (i:=(i:Int)) (by omega) (by omega));obtain ⟨b,e⟩:=wz j;have l:=zA (nth h.2 (i:Int)).1 (nth h.2 0).1 (by have:=(aP j.1).1;omega);have p:bf ((nth h.2 (i:Int)).1,(nth h.2 (i:Int)).2)=some b:=e;have g:okG h (nth h.2 (i:Int))↔b=true/\(nth h.2 (i:Int)).1=(nth h.2 0).1:=by unfold okG;rw[e];simp
  unfold gN;rw[if_pos (by simp;omega),ai (by omega) (by omega)];simp only[aa];rw[p,ai (xs:=h.2) (i:=0) (by omega) (by omega)];simp only[aa];rw[l,ae (by omega)];simp only[aa];cases b with
  | false=>rw[if_neg (by decide),if_neg (fun c=>by cases (g.1 c).1)]
  | true =>
   rw[if_pos rfl];by_cases c:(nth h.2 (i:Int)).1=(nth h.2 0).1
   ·rw[if_pos (decide_eq_true c),if_pos (g.2 ⟨rfl,c⟩)]
   ·rw[if_neg (by simpa using c),if_neg (fun k=>c (g.1 k).2)]) (by unfold gN;simp)
 unfold m_s_IsValidHistory m_i_IsValidHistory;rw[xm,xm,Ep,Ep,w];simp only[aa];by_cases q:(1:Int)<=(h.2.length:Int)/\(h.2.length:Int)<=8
 ·by_cases m:1<=h.1/\h.1<=1000 - (h.2.length:Int)
  ·rw[decide_eq_true q,decide_eq_true m];simp only[if_true];rcases t with ⟨a,d⟩ | ⟨a,d⟩ <;> rcases x with ⟨s,o⟩ | ⟨s,o⟩
   ·rw[af a,af s];exact ⟨true,rfl,rfl,fun _=>⟨by omega,m⟩⟩
   ·exact absurd d o
   ·exact absurd o d
   ·rw[aW a,aW s];exact ⟨false,rfl,rfl,fun c=>by cases c⟩
  ·rw[decide_eq_true q,decide_eq_false m];simp only[if_true,Bool.false_eq_true,if_false];rcases t with ⟨a,d⟩ | ⟨a,d⟩
   ·rw[af a];exact ⟨false,rfl,rfl,fun c=>by cases c⟩
   ·rw[aW a];exact ⟨false,rfl,rfl,fun c=>by cases c⟩
 ·rw[decide_eq_false q];simp only[Bool.false_eq_true,if_false];rcases t with ⟨a,d⟩ | ⟨a,d⟩
  ·rw[af a];exact ⟨false,rfl,rfl,fun c=>by cases c⟩
  ·rw[aW a];exact ⟨false,rfl,rfl,fun c=>by cases c⟩
def latV (h:rZ):Int:=h.1+(h.2.length:Int) - 1
theorem jN {h:rZ} (hs:m_s_IsValidHistory h=some true) (hi:m_i_IsValidHistory h=some true) (k:(1<=h.2.length/\h.2.length<=8)/\1<=h.1/\h.1<=1000 - (h.2.length:Int)):aL h=some (latV h)/\cZ h=some (latV h):=by
 unfold aL cZ latV;have hs:m_s_IsValidHistory (h.1,h.2)=_:=hs;have hi:m_i_IsValidHistory (h.1,h.2)=_:=hi;rw[hs,hi];simp only[aa,if_true];rw[bd (n:=h.1+(h.2.length:Int)) (by omega) (by omega),bd (by omega) (by omega)];exact ⟨rfl,rfl⟩
theorem JE (h:rZ) (r:Data.sm h) (v:Int): ∃(g:GrT) (q:Bool),eD h v=some (g,q)/\mw h v=some (g,q)/\Data.sm g/\(m_i_IsValidHistory h=some true->h.1<=v->v<=latV h->q=true)/\(q=false->g=([],[])):=by
 obtain ⟨b,m,o,k⟩:=jM h r;have l:m_s_IsValidHistory (h.1,h.2)=_:=m;have j:m_i_IsValidHistory (h.1,h.2)=_:=o;have p:Data.sm (([],[]):GrT):=⟨⟨by decide,fun _ f=>by cases f⟩,by decide,fun _ f=>by cases f⟩;unfold eD mw;rw[l,j];simp only[aa];cases b with
 | false=>exact ⟨_,false,rfl,rfl,p,fun c=>(by cases c),fun _=>rfl⟩
 | true =>
  have t:=k rfl;obtain ⟨d,e⟩:=jN m o t;have d:aL (h.1,h.2)=_:=d;have e:cZ (h.1,h.2)=_:=e;simp only[if_true,d,e,aa,xm,Ep,decide_eq_true_eq];by_cases c:h.1<=v/\v<=latV h
  ·have s:=c;unfold latV at s;have a:=(aP r.2).2 _ (bG (xs:=h.2) (i:=v - h.1) (by omega) (by omega));have w:b7 ((nth h.2 (v - h.1)).1,(nth h.2 (v - h.1)).2)=_:=qS _ a;have y:jw ((nth h.2 (v - h.1)).1,(nth h.2 (v - h.1)).2)=_:=Lr _ a;rw[if_pos c,if_pos c,bd (n:=v - h.1) (by omega) (by omega),ai (by omega) (by omega)];simp only[aa];rw[w,y];exact ⟨_,true,rfl,rfl,a,fun _ _ _=>rfl,fun c=>by cases c⟩
  ·rw[if_neg c,if_neg c];exact ⟨_,false,rfl,rfl,p,fun _ x u=>absurd ⟨x,u⟩ c,fun _=>rfl⟩
end D
namespace D
abbrev Pr:=Int×Int
def ltP (a b:Pr):Prop:=a.1<b.1\/a.1=b.1/\a.2<b.2
instance (a b:Pr):Decidable (ltP a b):=inferInstanceAs (Decidable (_\/_))
theorem SB (a:Pr): ¬ltP a a:=by unfold ltP;omega
theorem JF {a b c:Pr} (h:ltP a b) (k:ltP b c):ltP a c:=by unfold ltP at *;omega
theorem SC {a b:Pr} (h:ltP a b): ¬ltP b a:=by unfold ltP at *;omega
theorem Ls (a b:Pr):ltP a b\/a=b\/ltP b a:=by
 unfold ltP;by_cases h:a=b
 ·exact .inr (.inl h)
 ·have: ¬(a.1=b.1/\a.2=b.2):=fun e=>h (Prod.ext e.1 e.2)
  omega
abbrev Str (l:List Pr):Prop:=l.Pairwise ltP
theorem HB: ∀ {l m:List Pr},Str l->Str m->(∀x,x∈l↔x∈m)->l=m
 | [],[],_,_,_=>rfl
 | [],b::m,_,_,h=>absurd ((h b).2 (List.mem_cons_self ..)) (by simp)
 | a::l,[],_,_,h=>absurd ((h a).1 (List.mem_cons_self ..)) (by simp)
 | a::l,b::m,hl,hm,h=>by
  obtain ⟨g,k⟩:=List.pairwise_cons.1 hl;obtain ⟨i,j⟩:=List.pairwise_cons.1 hm;have d:a=b:=by
   rcases aB ((h a).1 (List.mem_cons_self ..)) with e | e
   ·exact e
   ·rcases aB ((h b).2 (List.mem_cons_self ..)) with f | f
    ·exact f.symm
    ·exact absurd (i a e) (SC (g b f))
  subst d;rw[HB k j fun x=>?_];constructor
  ·intro c;rcases aB ((h x).1 (br _ c)) with e | e
   ·subst e;exact absurd (g x c) (SB x)
   ·exact e
  ·intro c;rcases aB ((h x).2 (br _ c)) with e | e
   ·subst e;exact absurd (i x c) (SB x)
   ·exact e
def ahd (p:Pr):List Pr->Nat
 | [] =>0
 | a::l=>if ltP a p then ahd p l+1 else 0
theorem SD (p:Pr): ∀l:List Pr,ahd p l<=l.length
 | [] =>ay _
 | a::l=>by
  unfold ahd;split
  ·have:=SD p l;rw[aw];omega
  ·exact Nat.zero_le _
theorem XH (p:Pr): ∀(l:List Pr) (i:Nat),i<ahd p l-> ∃x,l[i]? =some x/\ltP x p
 | [],i,h=>by simp[ahd] at h
 | a::l,i,h=>by
  unfold ahd at h;split at h
  ·rename_i b;cases i with
   | zero=>exact ⟨a,rfl,b⟩
   | succ i =>
    obtain ⟨x,c,d⟩:=XH p l i (by omega);exact ⟨x,by simpa using c,d⟩
  ·omega
theorem XI (p:Pr): ∀(l:List Pr) x,l[ahd p l]? =some x-> ¬ltP x p
 | [],x,h=>by simp at h
 | a::l,x,h=>by
  unfold ahd at h;split at h
  ·exact XI p l x (by simpa using h)
  ·rename_i b;simp at h;subst h;exact b
def put (l:List Pr) (p:Pr):List Pr:=if l[ahd p l]? =some p then l else l.take (ahd p l)++p::l.drop (ahd p l)
theorem Nl (a:Pr) (l:List Pr) (p:Pr):put (a::l) p=if ltP a p then a::put l p else if a=p then a::l else p::a::l:=by
 unfold put;by_cases h:ltP a p
 ·have e:ahd p (a::l)=ahd p l+1:=by rw[ahd,if_pos h]
  rw[e,if_pos h];by_cases k:l[ahd p l]? =some p
  ·rw[if_pos (by simpa using k),if_pos k]
  ·rw[if_neg (by simpa using k),if_neg k];rfl
 ·have e:ahd p (a::l)=0:=by rw[ahd,if_neg h]
  rw[e,if_neg h];by_cases k:a=p
  ·rw[if_pos (by simp[k]),if_pos k]
  ·rw[if_neg (by simpa using k),if_neg k];rfl
theorem Lt {x p:Pr} : ∀l:List Pr,x∈put l p↔x=p\/x∈l
 | [] =>by simp[put,ahd]
 | a::l=>by
  rw[Nl];split
  ·rw[List.mem_cons,Lt l,List.mem_cons];grind
  ·split
   ·rename_i e;subst e;rw[List.mem_cons];grind
   ·rw[List.mem_cons]
theorem SE {p:Pr} : ∀ {l:List Pr},Str l->Str (put l p)
 | [],_=>by simp[put,ahd]
 | a::l,h=>by
  obtain ⟨e,f⟩:=List.pairwise_cons.1 h;rw[Nl];split
  ·rename_i d;refine List.pairwise_cons.2 ⟨fun x b=>?_,SE f⟩;rcases (Lt l).1 b with rfl | b
   ·exact d
   ·exact e x b
  ·rename_i d;split
   ·exact h
   ·rename_i g;have hp:ltP p a:=by
     rcases Ls p a with c | c | c
     ·exact c
     ·exact absurd c.symm g
     ·exact absurd c d
    refine List.pairwise_cons.2 ⟨fun x b=>?_,h⟩;rcases aB b with rfl | b
    ·exact hp
    ·exact JF hp (e x b)
def Lu (l m:List Pr):List Pr:=m.foldl put l
theorem HC: ∀ {m l:List Pr},Str l->Str (Lu l m)
 | [],l,h=>h
 | p::m,l,h=>HC (m:=m) (SE h)
theorem HD {x:Pr} : ∀ {m l:List Pr},x∈Lu l m↔x∈l\/x∈m
 | [],l=>by simp[Lu]
 | p::m,l=>by
  show x∈Lu (put l p) m↔_;rw[HD,Lt,List.mem_cons];grind
def nub:List Pr->List Pr
 | [] =>[]
 | [a] =>[a]
 | a::b::l=>if a=b then nub (b::l) else a::nub (b::l)
theorem HE {x:Pr} : ∀ {l:List Pr},x∈nub l↔x∈l
 | [] =>Iff.rfl
 | [a] =>Iff.rfl
 | a::b::l=>by
  rw[nub];split
  ·rename_i e;subst e;rw[HE];simp
  ·rw[List.mem_cons,HE,List.mem_cons (l:=b::l)]
theorem Lv: ∀ {l:List Pr},l.Pairwise (fun a b=> ¬ltP b a)->Str (nub l)
 | [],_=>List.Pairwise.nil
 | [a],_=>by simp[nub]
 | a::b::l,h=>by
  obtain ⟨g,e⟩:=List.pairwise_cons.1 h;rw[nub];split
  ·exact Lv e
  ·rename_i i;refine List.pairwise_cons.2 ⟨fun x f=>?_,Lv e⟩;have d:ltP a b:=by
    rcases Ls a b with c | c | c
    ·exact c
    ·exact absurd c i
    ·exact absurd c (g b (List.mem_cons_self ..))
   rcases aB (HE.1 f) with rfl | f
   ·exact d
   ·rcases Ls b x with c | c | c
    ·exact JF d c
    ·subst c;exact d
    ·exact absurd c ((List.pairwise_cons.1 e).1 x f)
theorem OZ {l:List Pr} {f:Pr->Bool} (h:Str l):Str (l.filter f):=List.Pairwise.filter _ h
end D
namespace D
open Go.RowKit
theorem rW {α R:Type} {f:Int->Option (Out R Int)} (l:List α) (b:α->Bool) (r:Nat->R) (n:l.length<=9223372036854775807) (h: ∀i (hi:i<l.length),f (i:Int)=some (if b l[i] then .ret (r i) else .nxt ((i+1:Nat):Int))) (q:f (l.length:Int)=some (.brk (l.length:Int))) :
  (∃(i:Nat) (hi:i<l.length),b l[i] =true/\(∀j (a:j<i),b (l[j]'(by omega))=false)/\ah f aR 0=some (.ret (r i)))\/((∀x,x∈l->b x=false)/\ah f aR 0=some (.brk (l.length:Int))):=by
 obtain ⟨o,e,v⟩:=bW (f:=f) (fun i s=>s=(i:Int)/\ ∀j (a:j<l.length),j<i->b l[j] =false) (fun o=>(∃(i:Nat) (hi:i<l.length),b l[i] =true/\(∀j (a:j<i),b (l[j]'(by omega))=false)/\o= .ret (r i))\/((∀x,x∈l->b x=false)/\o= .brk (l.length:Int))) l.length (fun i s hi g=>by
  obtain ⟨rfl,g⟩:=g;by_cases d:i<l.length
  ·cases k:b l[i] with
   | true=>exact .inr ⟨_,by rw[h i d,k,if_pos rfl],fun w m=>by simp at m,.inl ⟨i,d,k,fun j a=>g j (by omega) a,by simp⟩⟩
   | false=>exact .inl ⟨d,_,by rw[h i d,k,if_neg (by simp)],rfl,fun j a u=>by
     by_cases c:j=i
     ·subst c;exact k
     ·exact g j a (by omega)⟩
  ·obtain rfl:i=l.length:=by omega
   exact .inr ⟨_,q,fun w m=>by simp at m,.inr ⟨fun x t=>by
    obtain ⟨j,a,rfl⟩:=List.getElem_of_mem t;exact g j a a,rfl⟩⟩) (s:=0) ⟨rfl,fun j a y=>by omega⟩ (cX _ n)
 rcases v with ⟨i,hi,d,p,rfl⟩ | ⟨d,rfl⟩
 ·exact .inl ⟨i,hi,d,p,e⟩
 ·exact .inr ⟨d,e⟩
section
variable {l m:List Pr} {p:Pr}
theorem aew {a b:Pr} :((a.1==b.1)&&((a.2==b.2)&&true))=decide (a=b):=by
 rw[Bool.eq_iff_iff];simp[Prod.ext_iff]
theorem aex {a b:Pr} :(Bool.and.match_1 (fun (_:Bool)=>Bool) (a.1==b.1) (fun (_:Unit)=>false) (fun (_:Unit)=>Bool.and.match_1 (fun (_:Bool)=>Bool) (a.2==b.2) (fun (_:Unit)=>false) (fun (_:Unit)=>true)))=decide (a=b):=aew
theorem aey (d:l.length<=1073741824):vW l p=some (decide (p∈l)):=by
 unfold vW;rcases rW (f:=pG l p) l (fun x=>decide (x=p)) (fun _=>true) (by omega) (fun i a=>by
   unfold pG;rw[bu a,if_pos rfl,aC a];simp only[aa,aew,ae (show i<9223372036854775807 by omega)];split <;> rfl) (by
   unfold pG;rw[bE];rfl) with ⟨i,a,b,-,e⟩ | ⟨b,e⟩
 ·rw[aW e,decide_eq_true (by rw[<-of_decide_eq_true b];exact List.getElem_mem a)]
 ·rw[af e,decide_eq_false fun c=>by have:=b p c;simp at this]
theorem aez (d:l.length<=1073741824): ∃r:Int,dN l p=some r/\(0<=r↔p∈l):=by
 unfold dN;rcases rW (f:=da l p) l (fun x=>decide (p=x)) (fun i=>(i:Int)) (by omega) (fun i a=>by
   unfold da;rw[bu a,if_pos rfl,aC a];simp only[aa,aew,ae (show i<9223372036854775807 by omega)];split <;> rfl) (by
   unfold da;rw[bE];rfl) with ⟨i,a,b,-,e⟩ | ⟨b,e⟩
 ·exact ⟨_,aW e,by
   have:p∈l:=by rw[of_decide_eq_true b];exact List.getElem_mem a
   simp[this]⟩
 ·exact ⟨_,af e,by
   have:p∉l:=fun c=>by have:=b p c;simp at this
   simp[this]⟩
theorem aeA (a:l.length<=1073741824):db l p=some (decide (p∈l)):=by
 unfold db;obtain ⟨r,e,h⟩:=aez (l:=l) (p:=p) a;rw[fx,e,aa];congr 1;rw[Bool.eq_iff_iff,decide_eq_true_iff,decide_eq_true_iff];exact h
theorem acN {d:Pr->Bool} {f:Pr->Option Bool} (c: ∀x,f x=some (d x)) (g:l.length<=1073741824) :
  (∃(i:Nat) (hi:i<l.length),d l[i] =true/\(∀j (h:j<i),d (l[j]'(by omega))=false)/\bZ l f=some (i:Int))\/((∀x,x∈l->d x=false)/\bZ l f=some (-1)):=by
 unfold bZ;rcases rW (f:=cy l f) l d (fun i=>(i:Int)) (by omega) (fun i hi=>by
   unfold cy;rw[bu hi,if_pos rfl,aC hi];simp only[aa,fx,c,ae (show i<9223372036854775807 by omega)];split <;> rfl) (by
   unfold cy;rw[bE];rfl) with ⟨i,hi,a,b,e⟩ | ⟨a,e⟩
 ·exact .inl ⟨i,hi,a,b,aW e⟩
 ·exact .inr ⟨a,af e⟩
theorem XJ (a b:Pr):tu a b=some (decide (ltP a b)):=by
 unfold tu ltP;by_cases h:a.1<b.1
 ·simp[h]
 ·by_cases k:a.1=b.1 <;> simp[h,k]
end
abbrev acO:=Int×Int×Int×Int
abbrev SF:=Bool×acO
theorem aeB (g:GrT) (id:Int) (a:g.2.length<=1048576): ∃k:Int,dW g id=some k/\(k= -1\/ ∃(i:Nat) (hi:i<g.2.length),k=(i:Int)):=by
 have b:=rW (f:=gr g id) g.2 (fun u=>u.1==id) (fun i=>(i:Int)) (by omega) (fun i hi=>by
  unfold gr;rw[bu hi,if_pos rfl,aC hi];simp[aa,ae (show i<9223372036854775807 by omega)];split <;> rfl) (by
  simp_all[gr,bE])
 grind[dW,aW,af]
theorem afI (g:GrT) (e:acO):vS g e=ln e (g.1.length:Int):=by
 rfl
theorem acP {α:Type} [Data α] {xs:List α} {y:α} (h:Data.sm xs) (e:Data.sm y) (i:Nat) (d:xs.length<=1048575):Data.sm (xs.take i++([y] ++xs.drop i)):=by
 have ⟨a,c⟩:=aP h;refine ⟨by grind,fun x b=>?_⟩;grind
theorem aak {α:Type} [Data α] {xs:List α} (h:Data.sm xs) (i:Nat):Data.sm (xs.take i++xs.drop (i+1)):=by
 have ⟨a,c⟩:=aP h;refine ⟨by grind,fun x b=>?_⟩;grind
theorem afJ (x:GrT) (a:Data.sm x) (e:acO): ∃r:GrT×Bool,oC x e=some r/\Data.sm r.1:=by
 have ⟨c,t⟩:=aP a.1;have ⟨h,D⟩:=aP a.2;have ⟨b,ev,kv⟩:=rv x c h;have ⟨k,p,H⟩:=aeB x e.1 h;have d:=Xy e (n:=x.1.length) c;unfold oC;simp only[fx,lV,ev,qS x a,afI,d,p,aa];cases b with
 | false=>grind
 | true =>
  have G:=kv.1 rfl;have u:=G.1.m;by_cases z:decide (edgeP e (x.1.length:Int))=true
  ·by_cases m:decide (k≥0)=true
   ·simp_all
   ·by_cases B:((x.2.length:Int)==12)=true
    ·simp_all
    ·simp only[if_pos z,if_neg m,if_neg B];have w: ∃i:Nat,i<=x.2.length/\ah (ll x e) aR 0=some (.brk (i:Int)):=by
      obtain ⟨o,d,i,g,rfl⟩:=bW (f:=ll x e) (fun i s=>s=(i:Int)) (fun o=> ∃i:Nat,i<=x.2.length/\o= .brk (i:Int)) x.2.length (fun i s g E=>by
       subst E;unfold ll;by_cases c:i<x.2.length
       ·simp[bu c,if_true,aC c,aa,ae (show i<9223372036854775807 by omega)];grind
       grind) (s:=0) rfl (cX _ (by omega))
      exact ⟨i,g,d⟩
     have ⟨i,g,j⟩:=w;simp only[j,aM];have v:=acP (y:=e) a.2 ⟨trivial,trivial,trivial,trivial⟩ i (by omega);have F:(chk (0<=(i:Int)/\(i:Int)<=(x.2.length:Int)))=some ():=if_pos (by omega);have A:bC 8 ([] :List Int) x.1=some x.1:=by rw[al (by grind)];rfl
     have l:bC 32 ([] :List Yq1) (x.2.take i)=some (x.2.take i):=by rw[al (by grind)];rfl
     have C:bC 32 (x.2.take i) [e] =some (x.2.take i++ [e]):=al (by grind);have q:bC 32 (x.2.take i++ [e]) (x.2.drop i)=some (x.2.take i++([e] ++x.2.drop i)):=by
      grind[al,au,az,bq,aw,aD,aH]
     simp only[F,aa,Int.toNat_natCast,A,l,C,q];exact ⟨_,rfl,⟨a.1,v⟩⟩
  simp_all
theorem afK (x:GrT) (a:Data.sm x) (id:Int): ∃r:GrT×Bool,oD x id=some r/\Data.sm r.1:=by
 have ⟨n,h⟩:=aP a.1;have ⟨d,p⟩:=aP a.2;have ⟨b,ev,kv⟩:=rv x n d;have ⟨k,g,q⟩:=aeB x id d;unfold oD;simp only[fx,lV,ev,qS x a,g,aa];cases b with
 | false=>grind
 | true =>
  by_cases c:decide (k<0)=true
  ·simp_all
  ·rcases q with rfl | ⟨i,u,rfl⟩
   ·grind
   ·have t:i64.wrap ((i:Int)+1)=((i+1:Nat):Int):=ae (by omega);have l:(0:Int)<=(i:Int)/\(i:Int)<=(x.2.length:Int):=by omega
    have f:(0:Int)<=((i+1:Nat):Int)/\((i+1:Nat):Int)<=(x.2.length:Int):=by omega
    have s:(chk (0<=(i:Int)/\(i:Int)<=(x.2.length:Int)))=some ():=if_pos l;have j:(chk (0<=((i+1:Nat):Int)/\((i+1:Nat):Int)<=(x.2.length:Int)))=some ():=if_pos f;have m:bC 8 ([] :List Int) x.1=some x.1:=by rw[al (by grind)];rfl
    have e:bC 32 ([] :List Yq1) (x.2.take i)=some (x.2.take i):=by rw[al (by grind)];rfl
    have o:bC 32 (x.2.take i) (x.2.drop (i+1))=some (x.2.take i++x.2.drop (i+1)):=al (by grind);simp only[if_true,t,s,j,aa,Int.toNat_natCast,m,e,o];exact ⟨_,rfl,⟨a.1,aak a.2 i⟩⟩
theorem Nm (g:GrT) (l:Data.sm g) (b:List SF): ∃r:GrT×Bool,fj g b=some r/\Data.sm r.1:=by
 unfold fj;simp only[fx,qS g l,aa];have ⟨o,e,w⟩:=bW (f:=rL g b) (fun i s=> ∃x:GrT,s=((i:Int),x)/\Data.sm x) (fun o=>o= .ret (g,false)\/ ∃(n:Int) (x:GrT),o= .brk (n,x)/\Data.sm x) 7 (fun i s F y=>by
  obtain ⟨x,rfl,a⟩:=y;have p:=(aP a.2).1;unfold rL;simp only[fx];by_cases h:i<b.length
  ·by_cases E:i<7
   ·rw[if_pos (by grind),if_pos (decide_eq_true (show (i:Int)<=6 by omega)),aC h];simp only[aa];have ⟨r,u,D⟩:=afJ x a b[i].2;have ⟨d,z,G⟩:=afK x a b[i].2.1;have ⟨k,q,v⟩:=aeB x b[i].2.1 p;have B:i64.wrap ((i:Int)+1)=((i+1:Nat):Int):=ae (by omega);simp only[u,z,q,qS g l,B,aa];generalize b[i] =t at *;by_cases c:t.1=true
    ·simp[if_pos c];by_cases m:r.2=true
     ·simp[if_pos m,aa,zW];grind
     simp_all[if_neg,aa,zW]
    ·simp only[if_neg c];rcases v with rfl | ⟨j,A,rfl⟩
     ·simp_all[if_pos,aa,zW]
     ·rw[if_neg (by simp),aC A];simp only[aa];split
      ·by_cases m:d.2=true
       ·simp[if_pos m,aa,zW];grind
       simp_all[if_neg,aa,zW]
      ·exact .inr ⟨_,rfl,(fun C h=>by simp at h),.inl rfl⟩
   ·rw[if_pos (by grind),if_neg (by grind)];grind
  ·rw[if_neg (by grind)];grind) (s:=(0,g)) ⟨g,rfl,l⟩ (cX _ (by omega))
 rw[e];rcases w with rfl | ⟨n,x,rfl,a⟩
 ·exact ⟨_,rfl,l⟩
 ·exact ⟨_,rfl,a⟩
theorem acQ (g:GrT) (a:Data.sm g) (b:List SF): ∃r:GrT×Bool,oE g b=some r/\Data.sm r.1:=by
 have ⟨v,ev⟩:=wz a;have ⟨r,c,d⟩:=Nm g a b;unfold oE;simp only[fx,lV,ev,qS g a,c,aa];grind
theorem XK (h:rZ) (c:Data.sm h):mG h=some h:=by
 have ⟨g,d⟩:=aP c.2;have e:=aQ (f:=fy h) (fun i=>((i:Int),h.1,h.2.take i)) h.2.length (fun i a=>by
  have e:=qS h.2[i] (d _ (List.getElem_mem a));have b: ∀z:GrT,bC 48 (h.2.take i) [z] =some (h.2.take i++ [z]):=fun z=>al (by grind);unfold fy;rw[bu a,if_pos rfl,aC a];simp[aa];rw[e];simp[aa];rw[b,ae (by omega),List.take_succ_eq_append_getElem a];rfl) (by
  simp_all[fy,bE]) (cX _ (by omega))
 grind[List.take_length,ah,fy,aR,mG,af]
def aa0 (h:rZ):Prop:=Data.sm h/\1<=h.2.length
theorem zK {n:Int} {l:List GrT} (a:l.length<=1048576) (h: ∀g∈l,Data.sm g):Data.sm ((n,l):rZ):=⟨trivial,a,h⟩
theorem afj (h:rZ) (a:Data.sm h): ∃v,aL h=some v:=by
 have ⟨b,c,d,k⟩:=jM h a;cases b with
 | true=>simp_all[jN]
 | false =>
  simp_all[aL,m_s_IsValidHistory]
theorem SG (h:rZ) (t:aa0 h) (b:List SF): ∃r:rZ×Bool,iS h b=some r/\aa0 r.1:=by
 have ⟨a,f⟩:=t;have ⟨v,n,s,k⟩:=jM h a;have ⟨w,p⟩:=aP a.2;unfold iS;simp only[fx,XK h a,n,aa];cases v with
 | false=>exact ⟨(h,false),rfl,a,f⟩
 | true =>
  obtain ⟨u,-⟩:=k rfl;simp only[if_true,(jN n s (k rfl)).1,aa];by_cases c:(latV h==999)=true
  ·rw[if_pos c];exact ⟨(h,false),rfl,a,f⟩
  ·rw[if_neg c,bd (by omega) (by omega),ai (by omega) (by omega)];simp only[aa];have d:=p _ (bG (xs:=h.2) (i:=(h.2.length:Int) - 1) (by omega) (by omega));have ⟨r,e,x⟩:=acQ _ d b;rw[e];simp only[aa];by_cases j:r.2=true
   ·rw[if_pos j,al (by grind)];simp only[aa];have l: ∀g∈h.2++ [(r.1.1,r.1.2)],Data.sm g:=fun g d=>by
     grind
    have q:(h.2++ [(r.1.1,r.1.2)]).length=h.2.length+1:=by simp
    have m:(h.2++ [r.1]).length=h.2.length+1:=by simp
    by_cases o:decide (((h.2++ [(r.1.1,r.1.2)]).length:Int)>8)=true
    ·rw[if_pos o,show chk (And ((0:Int)<=1) (1<=((h.2++ [(r.1.1,r.1.2)]).length:Int)))=some () from if_pos (by omega)];refine ⟨_,rfl,zK ?_ fun g d=>l g (List.mem_of_mem_drop d),?_⟩
     ·grind
     grind
    ·rw[if_neg o];refine ⟨_,rfl,zK (by omega) l,?_⟩;grind
   ·rw[if_neg j];exact ⟨(h,false),rfl,a,f⟩
theorem We (h:rZ) (hs:Data.sm h) (v:Int): ∃r:rZ×Bool,cH h v=some r/\Data.sm r.1/\(1<=h.2.length->1<=r.1.2.length):=by
 have ⟨b,a,i,k⟩:=jM h hs;have ⟨j,d⟩:=aP hs.2;unfold cH;simp only[fx,XK h hs,a,aa];cases b with
 | false=>grind
 | true =>
  simp only[if_true,(jN a i (k rfl)).1,aa,xm];by_cases c:h.1<=v/\v<=latV h
  ·have e:=c;unfold latV at e;rw[if_pos (decide_eq_true c),bd (n:=v - h.1) (by omega) (by omega),show chk (And (0<=v - h.1) (v - h.1<=(h.2.length:Int)))=some () from if_pos (by omega)];refine ⟨_,rfl,zK (by grind) fun g f=>d g (List.mem_of_mem_drop f),fun _=>?_⟩;grind
  simp_all[if_neg]
theorem afk {g:GrT} (a:Data.sm g) (G:Xz g) {v:Int} (hv:1<=v/\v<=4):ig g v=some ((v,[g]),true):=by
 have m:aY g=some true:=by
  have ⟨b,e,k⟩:=rv g (aP a.1).1 (aP a.2).1;rw[lV,e,k.2 G]
 have ⟨c,h,j⟩:=AO g.1 g.1 (aP a.1).1;cases j.2 rfl;have L:=aQ (f:=bH (v,[g])) (fun i=>(i:Int)) 1 (fun i o=>by
  obtain rfl:i=0:=by omega
  unfold bH;have l:aO [g] 0=some g:=by rfl
  simp[aw,aD,Int.natCast_zero,l,aa,m,h,if_true]
  rfl) (by
  rfl) (mB (by omega))
 have L:ah (bH (v,[g])) aR 0=_:=L;have d:m_s_IsValidHistory (v,[g])=some true:=by
  unfold m_s_IsValidHistory;rw[af L,xm,xm];have n:i64.wrap (i64.wrap (999 - ((0+1:Nat):Int))+1)=999:=by decide
  refine congrArg some (decide_eq_true ⟨hv.1,?_⟩);show v<=i64.wrap (i64.wrap (999 - ((0+1:Nat):Int))+1);omega
 unfold ig;simp[fx,qS g a,aa];rw[d];rfl
section
variable {xs:List Int} {i h:Int}
theorem acR (a:xs.length<=1048576) (z:jE xs i) (g:GrT): ∃r:acO×Int×Int,sA (xs,i,h) g=some r/\jE xs r.2.1:=by
 unfold sA;simp only;obtain ⟨t,v,-,u⟩:=bN (h:=h) a z (n:=40) (by omega);rw[v];simp only[aa];obtain ⟨s,x,-,w⟩:=bN (h:=t.2.2) a u (n:=Max.max 1 (g.1.length:Int)) (by omega);rw[x];simp only[aa];obtain ⟨A,y,-,m⟩:=bN (h:=s.2.2) a w (n:=Max.max 1 (g.1.length:Int)) (by omega);rw[y];simp only[aa];obtain ⟨B,p,-,C⟩:=bN (h:=A.2.2) a m (n:=3) (by omega);rw[p];simp only[aa];obtain ⟨b,o,-,e⟩:=bN (h:=B.2.2) a C (n:=16) (by omega);rw[o];simp only[aa];by_cases j:(b.1==0)=true
 ·rw[if_pos j];obtain ⟨q,d,-,c⟩:=fc (h:=b.2.2) a e (l:=[0,99,100]) (by simp);rw[d];exact ⟨_,rfl,c⟩
 ·rw[if_neg j];by_cases k:(b.1==1)=true
  ·rw[if_pos k];obtain ⟨q,d,-,c⟩:=fc (h:=b.2.2) a e (l:=[(-1),5]) (by simp);rw[d];exact ⟨_,rfl,c⟩
  ·rw[if_neg k];by_cases f:(b.1==2)=true
   ·rw[if_pos f];obtain ⟨q,d,-,c⟩:=fc (h:=b.2.2) a e (l:=[(-1),3]) (by simp);rw[d];exact ⟨_,rfl,c⟩
   ·rw[if_neg f];exact ⟨_,rfl,e⟩
abbrev BaS:=Int×Int×List Int×List acO×List SF
def aa1 (xs:List Int) (n:Nat) (s:BaS):Prop:=jE xs s.1/\Data.sm ((s.2.2.1,s.2.2.2.1):GrT)/\s.2.2.2.2.length<=n
theorem HF (t:xs.length<=1048576) (m:jE xs i) {x:GrT} (l:Data.sm x) {B:List SF} (v:B.length<=1000) (d:SF): ∃s:BaS,((fj (x.1,x.2) [(d.1,d.2.1,d.2.2.1,d.2.2.2.1,d.2.2.2.2)]).bind fun b=>if b.2 then ((bC 40 B [(d.1,d.2.1,d.2.2.1,d.2.2.2.1,d.2.2.2.2)]).bind fun g=>some (i,h,b.1.1,b.1.2,g)) else ((cM (xs,i,h) 12).bind fun a=>if a.1 then ((bC 40 B [(d.1,d.2.1,d.2.2.1,d.2.2.2.1,d.2.2.2.2)]).bind fun f=>some (a.2.1,a.2.2,b.1.1,b.1.2,f)) else (some (a.2.1,a.2.2,x.1,x.2,B))))=some s/\aa1 xs (B.length+1) s:=by
 obtain ⟨r,e,o⟩:=Nm x l [(d.1,d.2.1,d.2.2.1,d.2.2.2.1,d.2.2.2.2)];have e:fj (x.1,x.2) [(d.1,d.2.1,d.2.2.1,d.2.2.2.1,d.2.2.2.2)] =_:=e;have p:bC 40 B [(d.1,d.2.1,d.2.2.1,d.2.2.2.1,d.2.2.2.2)] =some (B++ [(d.1,d.2.1,d.2.2.1,d.2.2.2.1,d.2.2.2.2)]):=al (by simp only[aw,aD];omega);rw[e];simp only[aa];rw[p];simp only[aa];by_cases c:r.2=true
 ·rw[if_pos c];exact ⟨_,rfl,m,o,by simp⟩
 ·rw[if_neg c];obtain ⟨q,u,k⟩:=zr (h:=h) t m (n:=12) (by omega);rw[u];simp only[aa];by_cases j:q.1=true
  ·rw[if_pos j];exact ⟨_,rfl,k,o,by simp⟩
  ·rw[if_neg j];exact ⟨_,rfl,k,l,by show B.length<=_;omega⟩
theorem Wf (m:xs.length<=1048576) (u:jE xs i) {p:List Int×Int×Int} (hp:p.1=xs) {x:GrT} (v:Data.sm x) {B:List SF} (y:B.length<=1000) {n:Nat} (R:n+1<1000): ∃s:BaS,jQ p (((n+1:Nat):Int),i,h,x.1,x.2,B)=some (.nxt ((n:Int),s.1,s.2.1,s.2.2.1,s.2.2.2.1,s.2.2.2.2))/\aa1 xs (B.length+1) s:=by
 subst hp;unfold jQ;simp only;rw[if_pos (decide_eq_true (show ((n+1:Nat):Int)>0 by omega)),show i64.wrap (((n+1:Nat):Int) - 1)=(n:Int) from by rw[bd (by omega) (by omega)];omega];obtain ⟨A,D,M⟩:=acR (h:=h) m u x;have D:sA (p.1,i,h) (x.1,x.2)=_:=D;rw[D];simp only[aa]
 suffices C: ∀(o:Option BaS),(∃s,o=some s/\aa1 p.1 (B.length+1) s)-> ∃s:BaS,(o.bind fun e=>some (Out.nxt ((n:Int),e.1,e.2.1,e.2.2.1,e.2.2.2.1,e.2.2.2.2):Out ((List SF)×Int×Int) (Int×BaS)))=some (.nxt ((n:Int),s.1,s.2.1,s.2.2.1,s.2.2.2.1,s.2.2.2.2))/\aa1 p.1 (B.length+1) s by
  refine C _ ?_;have b: ∀ {i h:Int} (_:jE p.1 i) (d:SF),∃s:BaS,(if decide ((B.length:Int)>0)=true then ((cM (p.1,i,h) 4).bind fun f=>Option.bind ((if f.1 then ((aO B (i64.wrap ((B.length:Int) - 1))).bind fun l=>some (cond.match_1 (fun (I:Bool)=>Bool) l.1 (fun (F:Unit)=>false) (fun (J:Unit)=>true),l.2.1,l.2.2.1,l.2.2.2.1,l.2.2.2.2)) else (some (d.1,d.2.1,d.2.2.1,d.2.2.2.1,d.2.2.2.2)):Option Yq5)) (fun a=>(fj (x.1,x.2) ([(a.1,a.2.1,a.2.2.1,a.2.2.2.1,a.2.2.2.2)])).bind fun j=>if j.2 then ((bC 40 B ([(a.1,a.2.1,a.2.2.1,a.2.2.2.1,a.2.2.2.2)])).bind fun K=>some (f.2.1,f.2.2,j.1.1,j.1.2,K)) else ((cM (p.1,f.2.1,f.2.2) 12).bind fun c=>if c.1 then ((bC 40 B ([(a.1,a.2.1,a.2.2.1,a.2.2.2.1,a.2.2.2.2)])).bind fun G=>some (c.2.1,c.2.2,j.1.1,j.1.2,G)) else (some (c.2.1,c.2.2,x.1,x.2,B))))) else ((fj (x.1,x.2) ([(d.1,d.2.1,d.2.2.1,d.2.2.2.1,d.2.2.2.2)])).bind fun g=>if g.2 then ((bC 40 B ([(d.1,d.2.1,d.2.2.1,d.2.2.2.1,d.2.2.2.2)])).bind fun E=>some (i,h,g.1.1,g.1.2,E)) else ((cM (p.1,i,h) 12).bind fun k=>if k.1 then ((bC 40 B ([(d.1,d.2.1,d.2.2.1,d.2.2.2.1,d.2.2.2.2)])).bind fun z=>some (k.2.1,k.2.2,g.1.1,g.1.2,z)) else (some (k.2.1,k.2.2,x.1,x.2,B)))))=some s/\aa1 p.1 (B.length+1) s:=by
   intro i h u d;by_cases N:(B.length:Int)>0
   ·rw[if_pos (by simpa using N)];obtain ⟨q,L,t⟩:=zr (h:=h) m u (n:=4) (by omega);rw[L];simp only[aa];by_cases r:q.1=true
    ·rw[if_pos r,bd (by omega) (by omega),ai (by omega) (by omega)];simp only[aa];exact HF m t v y (cond.match_1 (fun (I:Bool)=>Bool) (nth B ((B.length:Int) - 1)).1 (fun (F:Unit)=>false) (fun (J:Unit)=>true),(nth B ((B.length:Int) - 1)).2)
    ·rw[if_neg r];simp only[aa];exact HF m t v y d
   ·rw[if_neg (by simpa using N)];exact HF m u v y d
  by_cases H:(x.2.length:Int)>0
  ·rw[if_pos (by simpa using H)];obtain ⟨q,L,t⟩:=zr (h:=A.2.2) m M (n:=2) (by omega);rw[L];simp only[aa];by_cases r:q.1=true
   ·rw[if_pos r];obtain ⟨w,P,O,Q⟩:=bN (h:=q.2.2) m t (n:=(x.2.length:Int)) H;rw[P];simp only[aa];rw[ai O.1 O.2];simp only[aa];exact b Q (false,nth x.2 w.1)
   ·rw[if_neg r];simp only[aa];exact b t (true,A.1)
  ·rw[if_neg (by simpa using H)];exact b M (true,A.1)
 rintro o ⟨s,rfl,C⟩;exact ⟨s,rfl,C⟩
theorem Nn (a:xs.length<=1048576) {p:List Int×Int×Int} (hp:p.1=xs): ∀(n:Nat) (f:Nat) {i h:Int} {x:GrT} {B:List SF},n<900->n<f->jE xs i->Data.sm x->B.length+n<=900-> ∃s:BaS,ah (jQ p) f ((n:Int),i,h,x.1,x.2,B)=some (.brk (0,s))/\aa1 xs (B.length+n) s
 | 0,f+1,i,h,x,B,_,_,hc,hx,hb=>by
  refine ⟨(i,h,x.1,x.2,B),?_,hc,hx,ay _⟩
  have:jQ p (((0:Nat):Int),i,h,x.1,x.2,B)=some (.brk (0,i,h,x.1,x.2,B)):=by
   unfold jQ;simp only;rw[if_neg (by simp)];rfl
  rw[ah,this]
 | n+1,f+1,i,h,x,B,hn,hf,hc,hx,hb=>by
  obtain ⟨s,e,g,c,k⟩:=Wf (h:=h) a hc hp hx (B:=B) (by omega) (n:=n) (by omega);obtain ⟨t,j,d,b,l⟩:=Nn a hp n f (h:=s.2.1) (x:=(s.2.2.1,s.2.2.2.1)) (B:=s.2.2.2.2) (by omega) (by omega) g c (by omega);refine ⟨t,?_,d,b,by omega⟩;rw[ah,e];exact j
theorem SH (b:xs.length<=1048576) (o:jE xs i) {g:GrT} (a:Data.sm g) {m:Nat} (t:m<=8): ∃r:(List SF)×Int×Int,mu (xs,i,h) g (m:Int)=some r/\r.1.length<=m/\jE xs r.2.1:=by
 unfold mu;simp only;have c:b7 (g.1,g.2)=_:=qS g a;rw[c,bd (by omega) (by omega)];simp only[aa];obtain ⟨r,e,v,d⟩:=bN (h:=h) b o (n:=(m:Int)+1) (by omega);rw[e];simp only[aa];obtain ⟨k,l⟩: ∃k:Nat,r.1=(k:Int):=⟨r.1.toNat,by omega⟩;obtain ⟨s,q,f,u,j⟩:=Nn b (p:=(xs,i,h)) rfl k aR (h:=r.2.2) (x:=g) (B:=[]) (by omega) (by unfold aR;omega) d a (by simp only[aD];omega);rw[l,af q];exact ⟨_,rfl,by have:s.2.2.2.2.length<=0+k:=j;show s.2.2.2.2.length<=m;omega,f⟩
end
def prQ (q:QT):Int×List Tok:=(q.1,q.2.1)
theorem SI {qs ps:List QT} (h:qs.map prQ=ps.map prQ) (i:Int):(aO qs i=none/\aO ps i=none)\/ ∃x y,aO qs i=some x/\aO ps i=some y/\x.1=y.1/\x.2.1=y.2.1:=by
 have b:qs.length=ps.length:=by
  have:=congrArg List.length h
  simpa using this
 by_cases c:0<=i/\i<qs.length
 ·refine .inr ⟨nth qs i,nth ps i,ai c.1 c.2,ai c.1 (by omega),?_⟩;obtain ⟨k,rfl⟩: ∃k:Nat,i=(k:Int):=⟨i.toNat,by omega⟩;rw[bJ (by omega),bJ (by omega)];have a:(qs.map prQ)[k]'(by grind)=(ps.map prQ)[k]'(by grind):=by simp[h]
  simp[List.getElem_map,prQ,Prod.mk.injEq] at a;exact a
 grind[aO,List.getElem?_eq_none]
theorem SJ {qs ps:List QT} (h:qs.map prQ=ps.map prQ):bD qs=bD ps:=by
 have j:qs.length=ps.length:=by
  have:=congrArg List.length h
  simpa using this
 funext s;unfold bD;rw[j];rcases SI h s.1 with ⟨b,c⟩ | ⟨x,y,b,c,e,f⟩
 ·grind
 ·rcases SI h (i64.wrap (s.1 - 1)) with ⟨d,a⟩ | ⟨u,v,d,a,i,g⟩
  ·simp[b,c,d,a,aa,Option.bind_none,e,f]
  ·simp[b,c,d,a,aa,e,f,i,g]
theorem Wg {qs ps:List QT} (h:qs.map prQ=ps.map prQ):cQ qs=cQ ps:=by
 have a:qs.length=ps.length:=by
  have:=congrArg List.length h
  simpa using this
 grind[cQ,SJ]
theorem aal (l:List AutT) (a:AutT) (b:l.length<=1048576) (hs: ∀x∈l,Data.sm x):(gH l a=some (-1)/\ ¬a∈l)\/ ∃(i:Nat) (hi:i<l.length),gH l a=some (i:Int)/\l[i] =a:=by
 have c:=rW (f:=eU l a) l (fun u=>decide (u=a)) (fun i=>(i:Int)) (by omega) (fun i h=>by
  simp[eU,bu h,if_true,aC h,aa,fx,yf l[i] a (hs _ (List.getElem_mem h)),ae (show i<9223372036854775807 by omega)];grind) (by simp only[eU,bE];rfl)
 grind[gH,aW,af]
structure BIn (qs:List QT) (i:Nat) (A:List AutT) (Q:List QT):Prop where
 le:i<=qs.length
 pr:Q.map prQ=(qs.take i).map prQ
 len:A.length<=i
 sm: ∀a∈A,Data.sm a
 at_: ∀q∈Q,∃(j:Nat) (hj:j<A.length),q.2.2=(j:Int)/\m_s_CompileExpr q.2.1=some (A[j],true)
 nd:A.Nodup
 cmp: ∀a∈A,∃e:List Tok,e.length<=1048576/\m_s_CompileExpr e=some (a,true)
 rng: ∀j (hj:j<qs.length),j<i->1<=qs[j].1/\qs[j].1<=99
 asc: ∀j (hj:j+1<qs.length),j+1<i->qs[j].1<qs[j+1].1
theorem Wh {qs:List QT} (G:Data.sm qs) {i:Nat} {A:List AutT} {Q:List QT} (d:BIn qs i A Q) (hi:i<qs.length) :
  bD qs ((i:Int),A,Q)=some (.ret (([],[]),false))\/ ∃A' Q',bD qs ((i:Int),A,Q)=some (.nxt (((i+1:Nat):Int),A',Q'))/\BIn qs (i+1) A' Q':=by
 obtain ⟨M,F⟩:=aP G;have m:=F _ (List.getElem_mem hi);have C:Q.length=i:=by
  have:=congrArg List.length d.pr
  simp only[List.length_map,az] at this;omega
 have J:=d.len;obtain ⟨r,I,-,S⟩:=D8 (e:=qs[i].2.1) m.2.1.1;have N:bC 56 A [r.1] =some (A++ [r.1]):=al (by grind);have R: ∀y,bC 40 Q [y] =some (Q++ [y]):=fun y=>al (by grind);have E:gm qs[i].2.1=some qs[i].2.1:=by unfold gm;rw[al (by have:=m.2.1.1;grind)];rfl
 have p: ∀k:Int,(Q++ [(qs[i].1,qs[i].2.1,k)]).map prQ=(qs.take (i+1)).map prQ:=fun k=>by
  rw[aX,d.pr,List.take_succ_eq_append_getElem hi,aX];rfl
 have main:r.2=true->(1<=qs[i].1/\qs[i].1<=99)->(∀h:0<i,qs[i - 1].1<qs[i].1)-> ∃k A',(k= -1/\A'=A++ [r.1] \/ ∃j:Nat,k=(j:Int)/\A'=A)/\gH A r.1=some k/\BIn qs (i+1) A' (Q++ [(qs[i].1,qs[i].2.1,if k<0 then (A.length:Int) else k)]):=fun x s z=>by
  have t:m_s_CompileExpr qs[i].2.1=some (r.1,true):=by grind
  have g: ∀j (n:j<qs.length),j<i+1->1<=qs[j].1/\qs[j].1<=99:=fun j n w=>by
   by_cases e:j=i
   ·grind
   ·exact d.rng j n (by omega)
  have l: ∀j (n:j+1<qs.length),j+1<i+1->qs[j].1<qs[j+1].1:=fun j n w=>by
   by_cases e:j+1=i
   ·grind
   ·exact d.asc j n (by omega)
  rcases aal A r.1 (by omega) d.sm with ⟨e,H⟩ | ⟨j,n,e,K⟩
  ·refine ⟨-1,A++ [r.1],.inl ⟨rfl,rfl⟩,e,by omega,p _,by grind,fun a f=>?_,fun q c=>?_,?_,fun a f=>?_,g,l⟩
   ·rcases aI f with f | f
    ·exact d.sm a f
    grind
   ·rcases aI c with c | c
    ·obtain ⟨j,n,D,P⟩:=d.at_ q c;exact ⟨j,by grind,D,by grind⟩
    ·rw[aq c];grind
   ·rw[List.nodup_append];refine ⟨d.nd,by simp,fun a f b O=>?_⟩;grind
   ·rcases aI f with f | f
    ·exact d.cmp a f
    ·rw[aq f];exact ⟨_,m.2.1.1,t⟩
  ·refine ⟨(j:Int),A,.inr ⟨j,rfl,rfl⟩,e,by omega,p _,by omega,d.sm,fun q c=>?_,d.nd,d.cmp,g,l⟩;rcases aI c with c | c
   ·exact d.at_ q c
   grind
 have fin:r.2=true->(1<=qs[i].1/\qs[i].1<=99)->(∀h:0<i,qs[i - 1].1<qs[i].1)-> ∃A' Q',(((gH A r.1).bind fun o=>Option.bind ((if decide (o<0) then ((bC 56 A ([r.1])).bind fun v=>some ((A.length:Int),v,Q)) else (some (o,A,Q)):Option (Int×List AutT×List QT))) (fun u=>(bC 40 u.2.2 ([(qs[i].1,qs[i].2.1,u.1)])).bind fun B=>some (Out.nxt (((i+1:Nat):Int),u.2.1,B)))):Option (Out (pZ×Bool) (Int×List AutT×List QT)))=some (.nxt (((i+1:Nat):Int),A',Q'))/\BIn qs (i+1) A' Q':=fun x s z=>by
  grind
 unfold bD;simp only[bu hi,if_true,aC hi,aa,I,xm,fx,E,ae (show i<9223372036854775807 by omega)];by_cases x:r.2=true
 case neg =>
  grind
 simp only[x,if_true];by_cases s:1<=qs[i].1/\qs[i].1<=99
 case neg =>
  simp only[s,decide_false,Bool.false_eq_true,if_false];exact .inl trivial
 simp only[s,and_self,decide_true,if_true];by_cases z:(i:Int)>0
 ·have hp:i - 1<qs.length:=by omega
  have L:i64.wrap ((i:Int) - 1)=((i - 1:Nat):Int):=by rw[fw (by omega)];omega
  simp only[z,decide_true,if_true,L,aC hp,aa];grind
 grind
theorem HG {qs:List QT} (k:Data.sm qs) {x:pZ} (e:cQ qs=some (x,true)):qs.length<=4/\BIn qs qs.length x.1 x.2:=by
 unfold cQ at e;by_cases c:(qs.length:Int)>4
 ·grind
 have ⟨o,l,g⟩:=bW (f:=bD qs) (fun i s=> ∃A Q,s=((i:Int),A,Q)/\BIn qs i A Q) (fun o=>o= .ret (([],[]),false)\/ ∃A Q,o= .brk ((qs.length:Int),A,Q)/\BIn qs qs.length A Q) qs.length (fun i s m b=>by
  obtain ⟨A,Q,rfl,a⟩:=b;by_cases h:i<qs.length
  ·grind[Wh]
  ·obtain rfl:i=qs.length:=by omega
   refine .inr ⟨.brk ((qs.length:Int),A,Q),?_,(fun n h=>by grind),.inr ⟨A,Q,rfl,a⟩⟩;simp_all[bD,bE,Bool.false_eq_true,if_false]) (s:=(0,[],[])) ⟨[],[],rfl,Nat.zero_le _,rfl,ay _,(fun _ h=>by cases h),(fun _ h=>by cases h),List.nodup_nil,(fun _ h=>by cases h),(fun j d h=>absurd h (Nat.not_lt_zero _)),(fun j d h=>absurd h (Nat.not_lt_zero _))⟩ (cX _ (by omega))
 grind[aM,Option.some.injEq,Prod.mk.injEq]
theorem Lw (a:AutT) (c:Data.sm a):qf a=some a:=by
 obtain ⟨-,⟨j,-⟩,h,g⟩:=c;unfold qf;rw[al (by simp;omega)];simp only[aa,List.nil_append]
 have:=aQ (f:=lH a) (fun i=>((i:Int),a.1,a.2.1,a.2.2.take i)) a.2.2.length (fun i b=>by
  unfold lH;have d:bC 8 ([] :List Int) a.2.2[i] =some a.2.2[i]:=by rw[al (by have:a.2.2[i].length<=1048576:=(g _ (List.getElem_mem b)).1;simp;omega)];rfl
  simp only[bu b,if_true,aC b,aa,d,ae (show i<9223372036854775807 by omega)];rw[al (by simp;omega)];simp only[aa];rw[List.take_succ_eq_append_getElem b]) (by
  unfold lH;simp only[bE,Bool.false_eq_true,if_false]) (cX _ (by omega))
 have e:ah (lH a) aR (0,a.1,a.2.1,[])=_:=this;rw[e];simp only[aM,List.take_length]
theorem SK (a:AutT) (c:Data.sm a):iU a=some a:=by
 obtain ⟨-,⟨j,-⟩,h,g⟩:=c;unfold iU;rw[al (by simp;omega)];simp only[aa,List.nil_append]
 have:=aQ (f:=fu a) (fun i=>((i:Int),a.1,a.2.1,a.2.2.take i)) a.2.2.length (fun i b=>by
  unfold fu kL;have d:bC 8 ([] :List Int) a.2.2[i] =some a.2.2[i]:=by rw[al (by have:a.2.2[i].length<=1048576:=(g _ (List.getElem_mem b)).1;simp;omega)];rfl
  simp only[bu b,if_true,aC b,aa,d,ae (show i<9223372036854775807 by omega)];rw[al (by simp;omega)];simp only[aa];rw[List.take_succ_eq_append_getElem b]) (by
  unfold fu;simp only[bE,Bool.false_eq_true,if_false]) (cX _ (by omega))
 have e:ah (fu a) aR (0,a.1,a.2.1,[])=_:=this;rw[e];simp only[aM,List.take_length]
theorem sY (r:pZ) (id:Int) (j:r.2.length<=1048576): ∃k:Int,ct r id=some k/\gP r id=some k/\(k= -1\/ ∃i:Nat,i<r.2.length/\k=(i:Int)):=by
 unfold ct gP cq;have a: ∀i (h:i<r.2.length),dC r id (i:Int)=if r.2[i].1=id then some (.ret (i:Int)) else some (.nxt ((i+1:Nat):Int)):=fun i h=>by
  simp only[dC,bu h,if_true,aC h,aa,ae (show i<9223372036854775807 by omega)];by_cases c:r.2[i].1=id <;> simp[c]
 obtain ⟨k,d,e,h⟩:=Nj (f:=dC r id) (g:=bm r.2 fun b=>nj b id) r.2.length j (fun i h=>by
  rw[a i h];by_cases c:r.2[i].1=id <;> simp[c]) (by simp only[dC,bE];rfl) (fun i l=>by
  by_cases h:i<r.2.length
  ·rw[a i h];simp only[bm,nj,bu h,if_true,aC h,aa,ae (show i<9223372036854775807 by omega)];by_cases c:r.2[i].1=id <;> simp[c]
  ·obtain rfl:i=r.2.length:=by omega
   simp only[dC,bm,bE];rfl)
 refine ⟨k,d,?_,h⟩;rw[e];rfl
theorem SL (r:pZ) (d:Data.sm r):mq r=some r:=by
 obtain ⟨j,g⟩:=aP d.1;obtain ⟨k,h⟩:=aP d.2;unfold mq;have a:=aQ (f:=lI r) (fun i=>((i:Int),r.1.take i,([] :List QT))) r.1.length (fun i b=>by
  unfold lI;simp only[bu b,if_true,aC b,aa,fx,Lw _ (g _ (List.getElem_mem b)),ae (show i<9223372036854775807 by omega)];rw[al (by simp;omega)];simp only[aa];rw[List.take_succ_eq_append_getElem b]) (by
  unfold lI;simp only[bE,Bool.false_eq_true,if_false]) (cX _ (by omega))
 have e:ah (lI r) aR (0,[],[])=_:=a;rw[e];simp only[aM,List.take_length];have a:=aQ (f:=lJ r) (fun i=>((i:Int),r.1,r.2.take i)) r.2.length (fun i b=>by
  unfold lJ;have c:gm r.2[i].2.1=some r.2[i].2.1:=by unfold gm;rw[al (by have:=(h _ (List.getElem_mem b)).2.1.1;simp;omega)];rfl
  simp only[bu b,if_true,aC b,aa,fx,c,ae (show i<9223372036854775807 by omega)];rw[al (by simp;omega)];simp only[aa];rw[List.take_succ_eq_append_getElem b]) (by
  unfold lJ;simp only[bE,Bool.false_eq_true,if_false]) (cX _ (by omega))
 have e:ah (lJ r) aR (0,r.1,[])=_:=a;rw[e];simp only[List.take_length]
theorem aam (r:pZ) (d:Data.sm r):l7 r=some r:=by
 obtain ⟨j,g⟩:=aP d.1;obtain ⟨k,h⟩:=aP d.2;unfold l7;have a:=aQ (f:=fR r) (fun i=>((i:Int),r.1.take i,([] :List QT))) r.1.length (fun i b=>by
  unfold fR;simp only[bu b,if_true,aC b,aa,fx,SK _ (g _ (List.getElem_mem b)),ae (show i<9223372036854775807 by omega)];rw[al (by simp;omega)];simp only[aa];rw[List.take_succ_eq_append_getElem b]) (by
  unfold fR;simp only[bE,Bool.false_eq_true,if_false]) (cX _ (by omega))
 have e:ah (fR r) aR (0,[],[])=_:=a;rw[e];simp only[aM,List.take_length];have a:=aQ (f:=fS r) (fun i=>((i:Int),r.1,r.2.take i)) r.2.length (fun i b=>by
  unfold fS;have c:ji r.2[i].2.1=some r.2[i].2.1:=by unfold ji;rw[al (by have:=(h _ (List.getElem_mem b)).2.1.1;simp;omega)];rfl
  simp only[bu b,if_true,aC b,aa,fx,c,ae (show i<9223372036854775807 by omega)];rw[al (by simp;omega)];simp only[aa];rw[List.take_succ_eq_append_getElem b]) (by
  unfold fS;simp only[bE,Bool.false_eq_true,if_false]) (cX _ (by omega))
 have e:ah (fS r) aR (0,r.1,[])=_:=a;rw[e];simp only[List.take_length]
theorem SM {r:pZ} (d:Data.sm r) (h:cx r=some true):r.2.length<=4:=by
 obtain ⟨x,b,f,a,e⟩:=Cg d.2;unfold cx at h;rw[a] at h;by_cases c:(r.2.length:Int)<=4
 ·omega
 ·simp[c] at h
theorem No {α:Type} [Data α] {xs:List α} {y:α} (h:Data.sm xs) (c:Data.sm y) (i:Nat) (e:xs.length<=1048575):Data.sm (xs.take i++([y] ++xs.drop i)):=by
 obtain ⟨d,b⟩:=aP h;refine ⟨?_,fun x a=>?_⟩
 ·simp only[au,az,bq,aw,aD];omega
 ·rcases aI a with a | a
  ·exact b _ (List.mem_of_mem_take a)
  ·rcases aI a with a | a
   ·rw[aq a];exact c
   ·exact b _ (List.mem_of_mem_drop a)
theorem Ea {r:pZ} (e:Data.sm r):m_s_IsValidRegistry r=some true↔cQ r.2=some (r,true):=by
 obtain ⟨x,b,a,-,d⟩:=Cg e.2;unfold m_s_IsValidRegistry;by_cases c:(r.2.length:Int)>4
 ·rw[if_pos c] at a;rw[a];simp
 ·rw[if_neg c] at a;rw[a];simp only[aa,fx];cases b with
  | false=>simp
  | true =>
   simp only[if_true];rw[zI x r d.1];simp only[aa,Option.some.injEq,decide_eq_true_eq,Prod.mk.injEq,and_true]
theorem acS (r:pZ) (id:Int) (d:r.2.length<=1048576):(ct r id=some (-1)/\ ∀q∈r.2,q.1≠id)\/ ∃(i:Nat) (hi:i<r.2.length),ct r id=some (i:Int)/\r.2[i].1=id:=by
 have b:=rW (f:=dC r id) r.2 (fun u=>decide (u.1=id)) (fun i=>(i:Int)) (by omega) (fun i h=>by
  simp only[dC,bu h,if_true,aC h,aa,ae (show i<9223372036854775807 by omega)];by_cases c:r.2[i].1=id <;> simp[c]) (by simp only[dC,bE];rfl)
 unfold ct;rcases b with ⟨i,hi,a,-,e⟩ | ⟨a,e⟩
 ·rw[aW e];exact .inr ⟨i,hi,rfl,of_decide_eq_true a⟩
 ·rw[af e];exact .inl ⟨rfl,fun q h=>by simpa using a q h⟩
theorem SN {r:pZ} (a:Data.sm r) (id:Int) {e:List Tok} (B:Data.sm e): ∃x:pZ×Bool,iO r id e=some x/\Data.sm x.1/\(x.2=true->cQ r.2=some (r,true)/\ ∃i:Nat,i<=r.2.length/\cQ (r.2.take i++([(id,e,0)] ++r.2.drop i))=some (x.1,true))/\(x.2=false->x.1=r):=by
 obtain ⟨w,P⟩:=aP a.2;obtain ⟨k,C,Q,R⟩:=sY r id w;obtain ⟨b,u,J,hv⟩:=oq a;have j:=Ea a;unfold iO;simp only[C,u,aa,fx,SL r a];cases b with
 | false=>exact ⟨(r,false),rfl,a,(fun h=>by cases h),fun _=>rfl⟩
 | true =>
  have j:=j.1 u;simp only[if_true];by_cases d:k≥0
  ·exact ⟨(r,false),by simp[d],a,(fun h=>by cases h),fun _=>rfl⟩
  ·have O:=SM a J;have d:decide (k≥0)=false:=by simpa using d
   simp only[d,Bool.false_eq_true,if_false];have G: ∀f:Int->Option (Out (pZ×Bool) Int),(∀s,f s=if decide (s<(r.2.length:Int)) then ((aO r.2 s).bind fun H=>if decide (H.1<id) then (some (.nxt (i64.wrap (s+1)))) else (some (.brk s))) else (some (.brk s)))-> ∃i:Nat,i<=r.2.length/\ah f aR 0=some (.brk (i:Int)):=by
    intro f z;obtain ⟨o,e,i,l,rfl⟩:=bW (f:=f) (fun i s=>s=(i:Int)) (fun o=> ∃i:Nat,i<=r.2.length/\o= .brk (i:Int)) r.2.length (fun i s l K=>by
     subst K;rw[z];by_cases n:i<r.2.length
     ·simp only[bu n,if_true,aC n,aa,ae (show i<9223372036854775807 by omega)];by_cases q:r.2[i].1<id
      ·exact .inl ⟨n,_,by simp[q],rfl⟩
      ·exact .inr ⟨.brk (i:Int),by simp[q],(fun M e=>by cases e),i,l,rfl⟩
     ·obtain rfl:i=r.2.length:=by omega
      exact .inr ⟨.brk (r.2.length:Int),by simp only[bE,Bool.false_eq_true,if_false],(fun M e=>by cases e),_,l,rfl⟩) (s:=0) rfl (cX _ (by omega))
    exact ⟨i,l,e⟩
   obtain ⟨i,l,v⟩:=G (pv r id) (fun s=>rfl);simp only[v,aM];have L:Data.sm ((id,e,(0:Int)):QT):=⟨trivial,B,trivial⟩;have F:=No (y:=((id,e,(0:Int)):QT)) a.2 L i (by omega);obtain ⟨x,c,t,S,D⟩:=Cg F;have m:=t;have N:(chk (0<=(i:Int)/\(i:Int)<=(r.2.length:Int)))=some ():=if_pos (by omega);have A:bC 40 ([] :List QT) (r.2.take i)=some (r.2.take i):=by rw[al (by simp only[aD,az];omega)];rfl
   have I:bC 40 (r.2.take i) [((id,e,(0:Int)):QT)] =some (r.2.take i++ [(id,e,0)]):=al (by simp only[az,aw,aD];omega);have E:bC 40 (r.2.take i++ [((id,e,(0:Int)):QT)]) (r.2.drop i)=some (r.2.take i++([(id,e,0)] ++r.2.drop i)):=by
    rw[al (by simp only[au,az,bq,aw,aD];omega),aH]
   simp only[N,aa,Int.toNat_natCast,A,I,E,t];by_cases p:((r.2.take i++([((id,e,(0:Int)):QT)] ++r.2.drop i)).length:Int)>4
   ·have g: ¬((r.2.take i++([((id,e,(0:Int)):QT)] ++r.2.drop i)).length:Int)<=4:=by omega
    simp only[p,if_true,aa,Bool.false_eq_true,if_false,g,decide_false,Bool.and_false];exact ⟨_,rfl,a,(fun h=>by cases h),fun _=>rfl⟩
   ·have g:((r.2.take i++([((id,e,(0:Int)):QT)] ++r.2.drop i)).length:Int)<=4:=by omega
    rw[if_neg p] at m;simp only[p,if_false,aa,g,decide_true,Bool.and_true];cases c with
    | true=>exact ⟨_,rfl,D.1,fun _=>⟨j,i,l,m⟩,fun c=>by cases c⟩
    | false=>exact ⟨_,rfl,a,(fun h=>by cases h),fun _=>rfl⟩
theorem Np {qs:List QT} (c:Data.sm qs) {x:pZ} (e:cQ qs=some (x,true)):x.2.map prQ=qs.map prQ/\x.2.length=qs.length/\cQ x.2=some (x,true):=by
 obtain ⟨-,b⟩:=HG c e;have a:=b.pr;rw[List.take_length] at a;refine ⟨a,by simpa using congrArg List.length a,?_⟩;rw[Wg a];exact e
theorem Lx {l:List Tok} (h:l.length<=1048576):Data.sm l:=⟨h,fun _ _=>⟨trivial,trivial,trivial,trivial⟩⟩
section
variable {xs:List Int} {i h:Int}
theorem JG (j:xs.length<=1048576) {p:List Int×Int×Int} (hp:p.1=xs): ∀(n:Nat) (f:Nat) {i h:Int} {r:pZ},n<900->n<f->jE xs i->Data.sm r->r.1.length<=4->r.2.length<=4-> ∃s:Int×Int×pZ,ah (jV p) f ((n:Int),i,h,r.1,r.2)=some (.brk (0,s.1,s.2.1,s.2.2.1,s.2.2.2))/\jE xs s.1/\Data.sm s.2.2/\s.2.2.1.length<=4
 | 0,f+1,i,h,r,_,_,hc,hr,hb,_=>by
  refine ⟨(i,h,r),?_,hc,hr,hb⟩
  rfl
 | n+1,f+1,i,h,r,hn,hf,hc,hr,hb,hb2=>by
  obtain ⟨g,D,-,z⟩:=bN (h:=h) j hc (n:=6) (by omega);have ⟨b,C,G,u⟩:=Lm (h:=g.2.2) j z;have ⟨x,F,m,d,q⟩:=SN hr (i64.wrap (1+g.1)) (e:=b.1) (Lx (by omega));have c:x.1.1.length<=4/\x.1.2.length<=4:=by
   cases w:x.2 with
   | false=>grind
   | true =>
    obtain ⟨-,v,A,k⟩:=d w;have l:Data.sm b.1:=Lx (by omega);have a:=No (y:=((i64.wrap (1+g.1),b.1,(0:Int)):QT)) hr.2 ⟨trivial,l,trivial⟩ v (by omega);have ⟨I,o⟩:=HG a k
    have:=o.len
    have:=(Np a k).2.1
    omega
  have ⟨t,H,E,B⟩:=JG j hp n f (h:=b.2.2) (r:=x.1) (by omega) (by omega) u m c.1 c.2
  have:jV p (((n+1:Nat):Int),i,h,r.1,r.2)=some (.nxt ((n:Int),b.2.1,b.2.2,x.1.1,x.1.2)):=by
   unfold jV;grind[bd]
  grind[ah]
theorem aan:Data.sm (([],[]):pZ):=⟨⟨Nat.zero_le _,fun _ h=>by cases h⟩,Nat.zero_le _,fun _ h=>by cases h⟩
theorem O0 (a:xs.length<=1048576) (f:jE xs i): ∃r:pZ×Int×Int,nf (xs,i,h)=some r/\(Data.sm r.1/\r.1.1.length<=4)/\jE xs r.2.1:=by
 unfold nf;have ⟨r,e,m,b⟩:=bN (h:=h) a f (n:=3) (by omega);have ⟨k,c⟩: ∃k:Nat,i64.wrap (1+r.1)=(k:Int):=⟨(1+r.1).toNat,by grind[bd]⟩;have d:k<=3:=by
  rw[bd (by omega) (by omega)] at c;omega
 have ⟨s,l,g,j⟩:=JG a (p:=(xs,i,h)) rfl k aR (h:=r.2.2) (r:=([],[])) (by omega) (by unfold aR;omega) b aan (Nat.zero_le _) (Nat.zero_le _);simp_all[af]
theorem acT (m:xs.length<=1048576) (H:jE xs i): ∃r:pZ×Int×Int,v7 (xs,i,h)=some r/\Data.sm r.1/\jE xs r.2.1:=by
 unfold v7;have ⟨f,x,D,A⟩:=O0 (h:=h) m H;rw[x];simp only[aa];obtain ⟨g,C,-,e⟩:=bN (h:=f.2.2) m A (n:=16) (by omega);rw[C];simp only[aa];have ⟨⟨d,k⟩,L⟩:=D;have ⟨M,j⟩:=aP k;have b: ∀y:QT,Data.sm y->Data.sm (f.1.2.set 0 y):=fun y O=>⟨by grind,fun q h=>by
  grind⟩
 by_cases v:(g.1==0)=true
 ·rw[if_pos v];by_cases c:(f.1.2.length:Int)>0
  ·rw[if_pos (decide_eq_true c)];obtain ⟨K,G,-,E⟩:=bN (h:=g.2.2) m e (n:=3) (by omega);rw[G];rw[ai (by omega) c];have o:=j _ (bG (xs:=f.1.2) (i:=0) (by omega) c);exact ⟨_,rfl,⟨d,b _ ⟨trivial,o.2.1,trivial⟩⟩,E⟩
  ·rw[if_neg (by grind)];exact ⟨_,rfl,⟨d,k⟩,e⟩
 ·rw[if_neg v];by_cases w:(g.1==1)=true
  ·rw[if_pos w];by_cases c:(f.1.2.length:Int)>0
   ·rw[if_pos (decide_eq_true c)];obtain ⟨N,z,-,F⟩:=fc (h:=g.2.2) m e (l:=[0,100,99]) (by simp);rw[z];rw[ai (by omega) c];have o:=j _ (bG (xs:=f.1.2) (i:=0) (by omega) c);exact ⟨_,rfl,⟨d,b _ ⟨trivial,o.2.1,o.2.2⟩⟩,F⟩
   ·rw[if_neg (by grind)];exact ⟨_,rfl,⟨d,k⟩,e⟩
  ·rw[if_neg w];by_cases u:(g.1==2)=true
   ·rw[if_pos u];have ⟨B,t,p,s⟩:=aem (h:=g.2.2) m e;rw[t];simp only[aa];have ⟨J,I⟩:=aP d;rw[al (by grind)];refine ⟨_,rfl,⟨⟨?_,fun a h=>?_⟩,k⟩,s⟩
    ·grind
    ·rcases aI h with h | h
     ·grind
     ·rw[aq h];exact p.sm
   ·rw[if_neg u];exact ⟨_,rfl,⟨d,k⟩,e⟩
end
theorem wJ {c:Prop} [Decidable c] (h:c):chk c=some ():=if_pos h
theorem AQ {α:Type} {xs:List α} {i n:Nat} {z:α} (h:i<=xs.length):(tk xs i n z).take i=xs.take i:=by
 unfold tk;rw[List.take_append_of_le_length (by rw[az];omega),List.take_take,Nat.min_self]
theorem Eb {α:Type} {xs:List α} {i:Nat} {z:α} (h:i<=xs.length):(tk xs i xs.length z).length=xs.length:=A2 h (ay _)
theorem HH {α:Type} {ys:List α} {i:Nat} {x:α} (h:i<ys.length):(ys.set i x).take (i+1)=ys.take i++ [x]:=by
 rw[List.take_succ_eq_append_getElem (by simpa using h)];simp[List.take_set_of_le]
theorem set_drop {α:Type} {ys:List α} {i j:Nat} {x:α} (h:i<j):(ys.set i x).drop j=ys.drop j:=by
 apply List.ext_getElem?;intro q;rw[List.getElem?_drop,List.getElem?_drop,List.getElem?_set_ne (by omega)]
theorem zL {α:Type} {ys xs:List α} {j:Nat} (h:ys.drop j=xs.drop j):ys.drop (j+1)=xs.drop (j+1):=by
 rw[<-List.drop_drop,h,List.drop_drop]
theorem zM {α:Type} {ys xs:List α} {j q:Nat} (h:ys.drop j=xs.drop j) (b:j<=q) (h1:q<ys.length) (a:q<xs.length):ys[q] =xs[q]:=by
 have e:=congrArg (fun l=>l[q - j]?) h;simp only[List.getElem?_drop,show j+(q - j)=q from by omega] at e;rw[List.getElem?_eq_getElem h1,List.getElem?_eq_getElem a] at e;exact ad e
section
variable {α:Type} [DecidableEq α]
def uy:List α->List α
 | [] =>[]
 | [a] =>[a]
 | a::b::l=>if a=b then uy (b::l) else a::uy (b::l)
theorem Ci {x:α} : ∀ {l:List α},x∈uy l↔x∈l
 | [] =>Iff.rfl
 | [a] =>Iff.rfl
 | a::b::l=>by
  rw[uy];split
  ·rename_i e;subst e;rw[Ci];simp
  ·rw[List.mem_cons,Ci,List.mem_cons (l:=b::l)]
theorem JH: ∀(l:List α) (b:α),l≠ [] ->uy (l++ [b])=if l.getLast? =some b then uy l else uy l++ [b]
 | [],b,h=>absurd rfl h
 | [a],b,_=>by
  by_cases e:a=b
  ·subst e;simp[uy]
  ·simp[uy,e]
 | a::c::l,b,_=>by
  have f:=JH (c::l) b (by simp);have d:(a::c::l).getLast? =(c::l).getLast? :=by simp[List.getLast?_cons_cons]
  rw[d];show uy (a::c::(l++ [b]))=_;rw[uy,uy];rw[show c::(l++ [b])=(c::l)++ [b] from rfl,f];by_cases e:a=c
  ·rw[if_pos e,if_pos e]
  ·rw[if_neg e,if_neg e];split <;> simp
theorem Ec {xs:List α} {j:Nat} (c:0<j) (h:j<xs.length):uy (xs.take (j+1))=if xs[j - 1] =xs[j] then uy (xs.take j) else uy (xs.take j)++ [xs[j]]:=by
 rw[List.take_succ_eq_append_getElem h,JH _ _ (by
  intro e;have b:=congrArg List.length e;rw[az,Nat.min_eq_left (Nat.le_of_lt h),aD] at b;omega)]
 have a:(xs.take j).getLast? =some xs[j - 1]:=by
  rw[List.getLast?_eq_getElem?,az,Nat.min_eq_left (Nat.le_of_lt h),List.getElem?_take,if_pos (show j - 1<j by omega),List.getElem?_eq_getElem (show j - 1<xs.length by omega)]
 rw[a];by_cases e:xs[j - 1] =xs[j]
 ·rw[if_pos (by rw[e]),if_pos e]
 ·rw[if_neg (by simpa using e),if_neg e]
theorem JI {xs:List α} : ∀(j:Nat),j<=xs.length->(∀q (b:q<j) (f:0<q) (g:j<=xs.length),xs[q - 1]'(by omega)≠xs[q]'(by omega))->uy (xs.take j)=xs.take j
 | 0,_,_=>by simp[uy]
 | 1,h,_=>by
  cases xs with
  | nil=>simp[uy]
  | cons a l=>simp[uy]
 | j+2,h,b=>by
  rw[Ec (by omega) (by omega),if_neg (b (j+1) (by omega) (by omega) h),JI (j+1) (by omega) (fun q d c e=>b q (by omega) c h),<-List.take_succ_eq_append_getElem]
end
theorem HI: ∀ {l:List Int},l.Pairwise (fun a b=>a<=b)->(uy l).Pairwise (fun a b=>a<b)
 | [],_=>List.Pairwise.nil
 | [a],_=>by simp[uy]
 | a::b::l,h=>by
  obtain ⟨f,d⟩:=List.pairwise_cons.1 h;rw[uy];split
  ·exact HI d
  ·rename_i g;refine List.pairwise_cons.2 ⟨fun x e=>?_,HI d⟩;have c:a<b:=by have:=f b (List.mem_cons_self ..);omega
   rcases aB (Ci.1 e) with rfl | e
   ·exact c
   ·have:=(List.pairwise_cons.1 d).1 x e
    omega
theorem JJ: ∀ {l m:List Int},l.Pairwise (fun a b=>a<b)->m.Pairwise (fun a b=>a<b)->(∀x,x∈l↔x∈m)->l=m
 | [],[],_,_,_=>rfl
 | [],b::m,_,_,h=>absurd ((h b).2 (by simp)) (by simp)
 | a::l,[],_,_,h=>absurd ((h a).1 (by simp)) (by simp)
 | a::l,b::m,h1,h2,h=>by
  obtain ⟨j,n⟩:=List.pairwise_cons.1 h1;obtain ⟨i,k⟩:=List.pairwise_cons.1 h2;have f:a=b:=by
   have d:=(h a).1 (by simp);have g:=(h b).2 (by simp);rcases aB d with e | d
   ·exact e
   ·rcases aB g with e | g
    ·exact e.symm
    ·have:=j b g;have:=i a d;omega
  subst f;rw[JJ n k fun x=>?_]
  have:=h x
  rw[List.mem_cons,List.mem_cons] at this;constructor
  ·intro c;rcases this.1 (.inr c) with e | e
   ·subst e;have:=j x c;omega
   ·exact e
  ·intro c;rcases this.2 (.inr c) with e | e
   ·subst e;have:=i x c;omega
   ·exact e
theorem afl {a b:Int} :(a==b)=decide (a=b):=by rw[Bool.eq_iff_iff];simp
theorem Ly (xs:List Int) (Y:xs.length<=1073741824):dM xs=some (uy xs):=by
 unfold dM;by_cases I:xs.length<2
 ·rw[if_pos (by simp;omega)];cases xs with
  | nil=>rfl
  | cons a l =>
   cases l with
   | nil=>rfl
   | cons b l=>simp only[aw] at I;omega
 rw[if_neg (by simp;omega)];have key:(ah (b9 xs) aR 1=some (.ret (uy xs)))\/(∃s,ah (b9 xs) aR 1=some (.brk s)/\uy xs=xs):=by
  obtain ⟨o,e,T⟩:=bW (f:=b9 xs) (fun t s=>s=((t+1:Nat):Int)/\uy (xs.take (t+1))=xs.take (t+1)) (fun o=>o= .ret (uy xs)\/ ∃s,o= .brk s/\uy xs=xs) (xs.length - 1) (fun t s W i=>by
   obtain ⟨rfl,i⟩:=i;unfold b9;by_cases y:t+1<xs.length
   ·have hp:((t+1:Nat):Int) - 1=((t:Nat):Int):=by omega
    rw[bu y,if_pos rfl,aC y,bd (n:=((t+1:Nat):Int) - 1) (by omega) (by omega),hp,aC (show t<xs.length by omega)];simp only[aa,afl];have k:=Ec (xs:=xs) (j:=t+1) (by omega) y;rw[i] at k;simp only[Nat.add_sub_cancel] at k;by_cases A:xs[t+1] =xs[t]
    ·rw[if_pos (decide_eq_true A),wJ (by omega),aa];rw[if_pos A.symm] at k;have m:(xs.take (t+1)).length=t+1:=by rw[az];omega
     obtain ⟨s,O,c,rfl,B,d,x,g⟩:=fb (f:=c8 xs ((t+1:Nat):Int)) (fun u s=> ∃c:List Int,s=(((uy (xs.take (t+2+u))).length:Int),((u+1:Nat):Int),c)/\c.length=xs.length/\c.take (uy (xs.take (t+2+u))).length=uy (xs.take (t+2+u))/\c.drop (t+1+u)=xs.drop (t+1+u)/\(uy (xs.take (t+2+u))).length<=t+1+u) (xs.length - (t+2)) (fun u s V i=>by
      obtain ⟨c,rfl,B,d,x,g⟩:=i;have H:t+2+u<xs.length:=by clear g d;omega
      have D:t+1+u<xs.length:=by clear g d;omega
      have p:t+2+u<c.length:=by clear g d;omega
      have w:t+1+u<c.length:=by clear g d;omega
      have J:(0+((t+1:Nat):Int))+((u+1:Nat):Int)=((t+2+u:Nat):Int):=by omega
      have R:((u+1:Nat):Int) - 1=((u:Nat):Int):=by omega
      have N:(0+((t+1:Nat):Int))+((u:Nat):Int)=((t+1+u:Nat):Int):=by omega
      unfold c8;dsimp only;rw[if_pos (by simp;omega),wJ (by omega)];simp only[aa];rw[bd (n:=((u+1:Nat):Int) - 1) (by omega) (by omega),J,R,N,aC (xs:=c) p,aC (xs:=c) w,wJ (by omega),zM x (by omega) p H,zM x (ay _) w D];simp only[aa,afl,fx];have M:t+2+u - 1=t+1+u:=by clear g d;omega
      have L:0<t+2+u:=by clear g d;omega
      have r:=Ec (xs:=xs) (j:=t+2+u) L H;simp only[M] at r;have E:=zL x;rw[show t+1+u+1=t+1+(u+1) from by omega] at E;rw[show t+2+(u+1)=t+2+u+1 from by omega,r];generalize uy (xs.take (t+2+u))=K at *;by_cases C:xs[t+2+u] =xs[t+1+u]
      ·rw[if_neg (by simpa using C),if_pos C.symm];simp only[aa];rw[ae (by omega)];exact ⟨_,rfl,c,rfl,B,d,E,by omega⟩
      ·rw[if_pos (by simpa using C),if_neg (fun e=>C e.symm),aC (xs:=c) (show K.length<c.length by omega)];simp only[aa];rw[ae (by omega),ae (by omega)];refine ⟨_,rfl,c.set K.length xs[t+2+u],?_,by simpa using B,?_,?_,?_⟩
       ·rw[au,List.length_singleton];rfl
       ·rw[au,List.length_singleton,HH (by omega),d]
       ·rw[set_drop (by omega)];exact E
       ·rw[au,List.length_singleton];omega) (fun s i=>by
      obtain ⟨c,rfl,B,d,x,g⟩:=i;unfold c8;rw[if_neg (by simp;omega)]) (s:=(((t+1:Nat):Int),1,xs)) ⟨xs,by rw[Nat.add_zero,k,m];rfl,rfl,by rw[Nat.add_zero,k,m],rfl,by rw[Nat.add_zero,k,m];omega⟩ (cX _ (by omega))
     refine .inr ⟨.ret (uy xs),?_,fun U F=>(by simp at F),.inl rfl⟩;rw[af O];have v:xs.take (t+2+(xs.length - (t+2)))=xs:=List.take_of_length_le (by omega);rw[v] at d g⊢;generalize uy xs=K at *;have G:K.length<=c.length:=by omega
     have S:((0:Int)+((K.length:Nat):Int)).toNat=K.length:=by omega
     have Q:((0:Int)+(((c.length:Nat):Int) - 0)).toNat=c.length:=by omega
     simp only[S,Q];have P:=Eb (z:=(0:Int)) G;rw[wJ (by omega),aa,wJ (by omega),aa,wJ (by rw[P];omega),aa,AQ G,d,List.drop_zero]
    ·rw[if_neg (by simpa using A),ae (by omega)];rw[if_neg (fun e=>A e.symm),<-List.take_succ_eq_append_getElem y] at k;exact .inl ⟨by omega,_,rfl,rfl,k⟩
   ·refine .inr ⟨.brk ((t+1:Nat):Int),?_,fun U F=>(by simp at F),.inr ⟨_,rfl,?_⟩⟩
    ·rw[if_neg (by simp;omega)]
    ·rw[List.take_of_length_le (by omega)] at i;exact i) (s:=1) ⟨rfl,JI 1 (by omega) (fun q y X=>by omega)⟩ (cX _ (by omega))
  rcases T with rfl | ⟨s,rfl,h⟩
  ·exact .inl e
  ·exact .inr ⟨s,e,h⟩
 rcases key with e | ⟨s,e,h⟩
 ·rw[aW e]
 ·rw[af e,h]
theorem Ed (m:Nat): ∀k,(gY m k).Pairwise (fun a b=>a<b)
 | 0=>List.Pairwise.nil
 | k+1=>by
  rw[mP];split
  ·refine List.pairwise_append.2 ⟨Ed m k,List.pairwise_singleton _ _,fun a c b d=>?_⟩;obtain ⟨i,e,_,rfl⟩:=vE.1 c;obtain rfl:b=(k:Int):=by simpa using d
   omega
  ·exact Ed m k
theorem aao {X:List Int} {m:Nat} (h: ∀x∈X,∃i:Nat,i<30/\x=(i:Int)) (e: ∀i:Nat,i<30->(m.testBit i=true↔(i:Int)∈X)):uy (X.mergeSort fun x y=>decide (x<=y))=gY m 30:=by
 have hp:(X.mergeSort fun x y=>decide (x<=y)).Pairwise (fun a b=>a<=b):=by
  have:=List.pairwise_mergeSort (le:=fun (x y:Int)=>decide (x<=y)) (fun a b c f g=>by
   have f:=of_decide_eq_true f;have g:=of_decide_eq_true g;exact decide_eq_true (by omega)) (fun a b=>by
   rw[Bool.or_eq_true,decide_eq_true_eq,decide_eq_true_eq];omega) X
  exact this.imp fun h=>of_decide_eq_true h
 refine JJ (HI hp) (Ed m 30) fun x=>?_;rw[Ci,List.mem_mergeSort,vE];constructor
 ·intro j;obtain ⟨i,d,rfl⟩:=h x j;exact ⟨i,d,(e i d).2 j,rfl⟩
 ·rintro ⟨i,d,k,rfl⟩;exact (e i d).1 k
theorem XL {p:Prop} [Decidable p] (h:p):chk p=some ():=by unfold chk;rw[if_pos h]
theorem aeC {m:Nat} (c:m<2 ^ 30):yI (m:Int)=some (gY m 30):=by
 have a:m<2 ^ 62:=aG c (Nat.pow_le_pow_right (by decide) (by decide));unfold yI
 have:=aQ (f:=oQ (m:Int)) (fun i=>(gY m i,(i:Int))) 30 (fun i e=>by
  have d:=o8 m i;unfold oQ;simp only;rw[if_pos (by simp;omega),XL (by omega),D2 a (by omega),ae (by omega),mP];simp only[aa];by_cases b:m.testBit i=true
  ·rw[if_pos b,if_pos b,al (by simp;omega)];rfl
  ·rw[if_neg b,if_neg b];rfl) (by unfold oQ;simp) (by unfold aR;omega)
 have this:ah (oQ (m:Int)) aR (([] :List Int),0)=_:=this;rw[af this]
theorem Lz (xs:List Int) (h:xs.length<=1000000):nr xs=some (uy (xs.mergeSort fun x y=>decide (x<=y))):=by
 unfold nr kL ir R.Vv;rw[al (by simp;omega)];simp only[aa,List.nil_append];rw[XL (by omega)];simp only[aa];rw[Ly _ (by rw[List.length_mergeSort];omega)];rfl
def Pe (a:AutT) (s v:Int):Bool:=decide (∃q∈gY (cS a s v) 30,nth a.2.1 q=true)
section
variable {a:AutT} {n:Nat} (V:VA a n) (hn:n<=12)
include V hn
theorem LA {s v:Int} (hs:0<=s/\s<n) (hv:0<=v/\v<=2):np a (yj 1 s) v=some (Pe a s v):=by
 obtain ⟨t,rfl⟩: ∃t:Nat,s=(t:Int):=⟨s.toNat,by omega⟩;obtain ⟨g,l⟩:=JB V hn hs hv;have o:cS a (t:Int) v<2 ^ 30:=aG l (Nat.pow_le_pow_right (by decide) (by omega));unfold np;rw[AP (by omega),vF (Nat.pow_lt_pow_right (by decide) (by omega)),Jy (by omega)];simp only[aa];have k:=o8 (cS a (t:Int) v) 30;have p:gD a v [(t:Int)] 0=some (if Pe a (t:Int) v=true then .ret true else .nxt 1):=by
  unfold gD;rw[if_pos (by simp),show aO [(t:Int)] 0=some (t:Int) from rfl];simp only[aa];have g:mx (a.1,a.2.1,a.2.2) (t:Int) v=_:=g;rw[g];simp only[aa];rw[vF o];simp only[aa];rcases scan (f:=ma a (gY (cS a (t:Int) v) 30)) (gY (cS a (t:Int) v) 30) (fun q=> ¬nth a.2.1 q=true) true (by omega) (fun i r=>by
   have d:=zD V hn l _ (bG (xs:=gY (cS a (t:Int) v) 30) (i:=(i:Int)) (by omega) (by omega));unfold ma;rw[if_pos (by simp;omega),ai (by omega) (by omega)];simp only[aa];rw[V.acc d.1 d.2,ae (by omega)];simp only[aa];cases nth a.2.1 (nth (gY (cS a (t:Int) v) 30) (i:Int)) <;> rfl) (by unfold ma;simp) with ⟨e,h⟩ | ⟨e,h⟩
  ·rw[af e,if_neg (by unfold Pe;rw[decide_eq_true_eq];rintro ⟨q,d,b⟩;exact h q d b)];rfl
  ·rw[aW e,if_pos (by
    unfold Pe;rw[decide_eq_true_eq];by_cases c: ∃q∈gY (cS a (t:Int) v) 30,nth a.2.1 q=true
    ·exact c
    ·exact absurd (fun q d b=>c ⟨q,d,b⟩) h)]
 have j:gD a v [(t:Int)] 1=some (.brk 1):=by
  unfold gD;rw[if_neg (by simp)]
 rcases Ln (f:=gD a v [(t:Int)]) 1 (fun _=> ¬Pe a (t:Int) v=true) true (by decide) (fun i r=>by
  obtain rfl:i=0:=by omega
  rw[show ((0:Nat):Int)=0 from rfl,p];cases Pe a (t:Int) v <;> rfl) j with ⟨e,h⟩ | ⟨e,h⟩
 ·rw[af e]
  have:=h 0 (by decide)
  rw[Bool.not_eq_true] at this;rw[this]
 ·rw[aW e]
  have:Pe a (t:Int) v=true:=by
   cases m:Pe a (t:Int) v with
   | true=>rfl
   | false=>exact absurd (fun _ _=>by rw[m];decide) h
  rw[this]
theorem JK {C:Nat} (l:C<2 ^ n):aM (ah (iP a (C:Int)) aR 0) (fun r=>some r) (fun _=>some false)=some (decide (∃q∈gY C 30,nth a.2.1 q=true)):=by
 have d:C<2 ^ 62:=aG l (p62 (by omega));rcases Ln (f:=iP a (C:Int)) n (fun i=> ¬(C.testBit i=true/\nth a.2.1 (i:Int)=true)) true (by omega) (fun i j=>by
  unfold iP;rw[V.len,if_pos (by simp;omega),mQ (by omega),D2 d (by omega),V.acc (by omega) (by omega),ae (by omega)];simp only[aa];cases C.testBit i <;> cases nth a.2.1 (i:Int) <;> rfl) (by unfold iP;rw[V.len];simp) with ⟨e,h⟩ | ⟨e,h⟩
 ·rw[af e,decide_eq_false];rintro ⟨q,k,b⟩;have o:=zD V hn l q k;obtain ⟨i,j,m,rfl⟩:=vE.1 k;exact h i (by omega) ⟨m,b⟩
 ·rw[aW e,decide_eq_true];by_cases c: ∃q∈gY C 30,nth a.2.1 q=true
  ·exact c
  ·exact absurd (fun (i:Nat) (j:i<n) (g:C.testBit i=true/\nth a.2.1 (i:Int)=true)=>c ⟨(i:Int),vE.2 ⟨i,by omega,g.1,rfl⟩,g.2⟩) h
end
section
variable {g:GrT} {a:AutT} (H:GOOD g a)
include H
theorem SO {x s:Nat} (d:x<g.1.length) (hs:s<a.2.1.length):lO g a (x:Int) (s:Int)=some (Pe a (s:Int) (nth g.1 (x:Int))):=by
 have hv:=H.1.val _ (bG (xs:=g.1) (i:=(x:Int)) (by omega) (by omega));have b:=D3 H.2.2 H.2.1 (s:=(s:Int)) ⟨by omega,by omega⟩ hv;have c:=V2 H.2.2 H.2.1 (s:=(s:Int)) ⟨by omega,by omega⟩ hv;unfold lO;rw[ai (by omega) (by omega)];simp only[aa];have b:dx (a.1,a.2.1,a.2.2) (s:Int) (nth g.1 (x:Int))=_:=b;rw[b];simp only[aa]
 have:=JK H.2.2 H.2.1 c
 exact this
end
def adD (g:GrT) (a:AutT) (R:List Int) (i:Nat):Bool:=decide (0<=nth R (i:Int))&&Pe a ((i % a.2.1.length:Nat):Int) (nth g.1 ((i / a.2.1.length:Nat):Int))
def O1 (g:GrT) (a:AutT) (R:List Int):Nat->List Int
 | 0=>[]
 | i+1=>if adD g a R i=true then O1 g a R i++ [((i / a.2.1.length:Nat):Int)] else O1 g a R i
def Pf (g:GrT) (a:AutT) (R:List Int):Nat->Nat
 | 0=>0
 | i+1=>if adD g a R i=true then Pf g a R i ||| 2 ^ (i / a.2.1.length) else Pf g a R i
theorem HJ (g:GrT) (a:AutT) (R:List Int): ∀i,(O1 g a R i).length<=i
 | 0=>by simp[O1]
 | i+1=>by
  have:=HJ g a R i
  rw[O1];split
  ·rw[au];simp;omega
  ·omega
theorem SP {x:Nat} {n:Nat} (a:x<=1000000):EZ (x:Int) (n:Int)=((x / n:Nat):Int)/\Int.tmod (x:Int) (n:Int)=((x % n:Nat):Int):=by
 refine ⟨?_,?_⟩
 ·unfold EZ;rw[Int.tdiv_eq_ediv_of_nonneg (Int.natCast_nonneg _),<-Int.natCast_ediv,zo (by have:=Nat.div_le_self x n;omega)]
 ·rw[Int.tmod_eq_emod_of_nonneg (Int.natCast_nonneg _),Int.natCast_emod]
section
variable {g:GrT} {a:AutT} (H:GOOD g a) {R:List Int} (hR:R.length=a.2.1.length*g.1.length)
include H
theorem Nq {i:Nat} (hi:i<a.2.1.length*g.1.length):i / a.2.1.length<g.1.length/\i % a.2.1.length<a.2.1.length/\0<a.2.1.length/\g.1.length<=5:=by
 obtain ⟨b,c⟩:=H.divmod (x:=(i:Int)) (by omega) (by omega);exact ⟨b,c,H.2.2.pos,H.1.n5⟩
theorem LB: ∀i,i<=a.2.1.length*g.1.length->Pf g a R i<2 ^ 5
 | 0,_=>by simp[Pf]
 | i+1,hi=>by
  have h:=LB i (by omega);obtain ⟨d,e,b,c⟩:=Nq H (i:=i) (by omega);rw[Pf];split
  ·exact zC h (by omega)
  ·exact h
theorem SQ: ∀i,i<=a.2.1.length*g.1.length-> ∀j:Nat,((Pf g a R i).testBit j=true↔(j:Int)∈O1 g a R i)
 | 0,_,j=>by simp[Pf,O1]
 | i+1,hi,j=>by
  have h:=SQ i (by omega) j;rw[Pf,O1];split
  ·rw[xn,Bool.or_eq_true,h,List.mem_append,List.mem_singleton,decide_eq_true_eq];constructor
   ·rintro (h | h)
    ·exact .inl h
    ·exact .inr (by rw[h])
   ·rintro (h | h)
    ·exact .inl h
    ·exact .inr (Int.ofNat_inj.1 h).symm
  ·exact h
theorem LC: ∀i,i<=a.2.1.length*g.1.length-> ∀x∈O1 g a R i,∃j:Nat,j<30/\x=(j:Int)
 | 0,_,x,b=>by cases b
 | i+1,hi,x,b=>by
  obtain ⟨e,f,c,d⟩:=Nq H (i:=i) (by omega);rw[O1] at b;split at b
  ·rcases aI b with b | b
   ·exact LC i (by omega) x b
   ·exact ⟨_,by omega,aq b⟩
  ·exact LC i (by omega) x b
include hR
theorem acU:ah (lP g a R) aR (0,0)=some (.brk ((Pf g a R (a.2.1.length*g.1.length):Int),((a.2.1.length*g.1.length:Nat):Int))):=by
 have o:=nN H.1 H.2.2 H.2.1
 have:=aQ (f:=lP g a R) (fun i=>((Pf g a R i:Int),(i:Int))) (a.2.1.length*g.1.length) (fun i j=>by
  obtain ⟨k,l,m,p⟩:=Nq H j;obtain ⟨h,b⟩:=SP (x:=i) (n:=a.2.1.length) (by omega);have e:=LB H (R:=R) i (by omega);unfold lP;simp only;rw[if_pos (by simp only[decide_eq_true_eq];omega),ai (by omega) (by omega),mQ (by omega),h,b,ae (by omega)];simp only[aa];have d:lO (g.1,g.2) (a.1,a.2.1,a.2.2) ((i / a.2.1.length:Nat):Int) ((i % a.2.1.length:Nat):Int)=_:=SO H k l;rw[d,Pf];simp only[aa];unfold adD;by_cases c:0<=nth R (i:Int)
  ·rw[if_pos (by simpa using c),decide_eq_true c,Bool.true_and];cases Pe a ((i % a.2.1.length:Nat):Int) (nth g.1 ((i / a.2.1.length:Nat):Int)) with
   | false=>rfl
   | true =>
    simp only[if_true];rw[mQ (Int.natCast_nonneg _),AP (by omega),Nh (aG e (Nat.pow_le_pow_right (by decide) (by decide))) (Nat.pow_lt_pow_right (by decide) (by omega))];rfl
  ·rw[if_neg (by simpa using c),decide_eq_false c,Bool.false_and];rfl) (by unfold lP;simp only;rw[if_neg (by simp;omega)]) (mB (by omega))
 exact this
theorem acV:ah (gS g a R) aR (([] :List Int),0)=some (.brk (O1 g a R (a.2.1.length*g.1.length),((a.2.1.length*g.1.length:Nat):Int))):=by
 have m:=nN H.1 H.2.2 H.2.1
 have:=aQ (f:=gS g a R) (fun i=>(O1 g a R i,(i:Int))) (a.2.1.length*g.1.length) (fun i j=>by
  obtain ⟨b,k,l,p⟩:=Nq H j;obtain ⟨h,d⟩:=SP (x:=i) (n:=a.2.1.length) (by omega);have o:=HJ g a R i;have hv:=H.1.val _ (bG (xs:=g.1) (i:=((i / a.2.1.length:Nat):Int)) (Int.natCast_nonneg _) (Int.ofNat_lt.2 b));unfold gS;simp only;rw[if_pos (by simp only[decide_eq_true_eq];omega),ai (by omega) (by omega),mQ (by omega),h,d,ae (by omega),mQ (Int.natCast_nonneg _)];simp only[aa];have e:np (a.1,a.2.1,a.2.2) (yj 1 ((i % a.2.1.length:Nat):Int)) (nth g.1 ((i / a.2.1.length:Nat):Int))=_:=LA H.2.2 H.2.1 ⟨Int.natCast_nonneg _,Int.ofNat_lt.2 k⟩ hv;rw[ai (xs:=g.1) (i:=((i / a.2.1.length:Nat):Int)) (Int.natCast_nonneg _) (Int.ofNat_lt.2 b)];simp only[aa];rw[e,O1];simp only[aa];unfold adD;by_cases c:0<=nth R (i:Int)
  ·rw[if_pos (by simpa using c),decide_eq_true c,Bool.true_and];cases Pe a ((i % a.2.1.length:Nat):Int) (nth g.1 ((i / a.2.1.length:Nat):Int)) with
   | false=>rfl
   | true =>
    simp only[if_true];rw[al (by simp;omega)];rfl
  ·rw[if_neg (by simpa using c),decide_eq_false c,Bool.false_and];rfl) (by unfold gS;simp only;rw[if_neg (by simp;omega)]) (mB (by omega))
 exact this
end
def XM (g:GrT) (a:AutT) (x:Int):List Int:=gY (Pf g a (RKs g a (x*(a.2.1.length:Int)+a.1)) (a.2.1.length*g.1.length)) 30
theorem Cj (g:GrT) (a:AutT) (x:Int):(XM g a x).length<=30:=o8 _ _
section
variable {g:GrT} {a:AutT} (H:GOOD g a) {x:Int} (hx:0<=x/\x<g.1.length)
include H hx
theorem Nr:qo g a x=some (XM g a x):=by
 unfold qo;have e:oP (g.1,g.2) (a.1,a.2.1,a.2.2) x=_:=aai H hx;have b:=Sx H hx;rw[e];simp only[aa];rw[af (acU H b),aeC (aG (LB H _ (ay _)) (Nat.pow_le_pow_right (by decide) (by decide)))];rfl
theorem acW (e:dw g a [x] =some true):kQ g a x=some (XM g a x):=by
 have f:=nN H.1 H.2.2 H.2.1;have hp:=H.2.2.pos;have d:=H.1.n1;have c:0<a.2.1.length*g.1.length:=Nat.mul_pos hp (by omega);unfold kQ;have e:iV (g.1,g.2) (a.1,a.2.1,a.2.2) x=_:=acM H hx e;have b:=Sx H hx;rw[e];simp only[aa];have h:=HJ g a (RKs g a (x*(a.2.1.length:Int)+a.1)) (a.2.1.length*g.1.length);rw[if_neg (by simp only[decide_eq_true_eq];omega),af (acV H b),Lz _ (by simp only;omega)];simp only[aa];unfold XM;rw[aao (LC H _ (ay _)) fun i _=>SQ H _ (ay _) i]
end
theorem Wi (g:GrT) (a:AutT) (m:Data.sm g) (p:Data.sm a): ∃b,il g a 0 0=some b/\dw g a [] =some b/\(b=true->GOOD g a/\ ∀x:Int,0<=x->x<g.1.length->dw g a [x] =some true):=by
 obtain ⟨b,c,C,A,E,u,s,B⟩:=aaf g a m p;obtain ⟨l,v,w,k⟩:=Sw g a m p 0;have d:bf (g.1,g.2)=_:=A;have e:cE (a.1,a.2.1,a.2.2)=_:=u;have F:=(aP m.1).1;have t:i64.wrap ((g.1.length:Int) - 1)=(g.1.length:Int) - 1:=bd (by omega) (by omega);have z:dw g a [] =some (b&&c):=by
  unfold dw
  have:ah (eR g []) aR 0=some (.brk 0):=by
   have:=aQ (f:=eR g []) (fun _=>(0:Int)) 0 (fun i r=>absurd r (Nat.not_lt_zero _)) (by unfold eR;simp) (by unfold aR;omega)
   exact this
  rw[af this,d,e];cases b <;> cases c <;> rfl
 have o: ∀x:Int,dw g a [x] =if 0<=x/\x<=(g.1.length:Int) - 1 then some (b&&c) else some false:=fun x=>by
  unfold dw;rcases Ln (f:=eR g [x]) 1 (fun _=>0<=x/\x<=(g.1.length:Int) - 1) false (by decide) (fun i r=>by
   obtain rfl:i=0:=by omega
   unfold eR;rw[if_pos (by simp),show aO [x] ((0:Nat):Int)=some x from rfl];simp only[aa];rw[Ep,t];simp only[aa,decide_eq_true_eq];split <;> rfl) (by unfold eR;simp) with ⟨k,h⟩ | ⟨k,h⟩
  ·rw[af k,d,e,if_pos (h 0 (by decide))];cases b <;> cases c <;> rfl
  ·rw[aW k,if_neg (fun c=>h fun _ _=>c)]
 have j:l=(b&&c):=by
  have h:=o 0;rw[w] at h;by_cases q:(0:Int)<=0/\(0:Int)<=(g.1.length:Int) - 1
  ·rw[if_pos q] at h;exact ad h
  ·rw[if_neg q] at h
   have:l=false:=ad h
   rw[this];cases b with
   | false=>rfl
   | true=>have:=(s rfl).n1;omega
 refine ⟨l,v,by rw[z,j],fun n=>⟨(k n).1,fun x y D=>?_⟩⟩;rw[o,if_pos ⟨y,by omega⟩,<-j,n]
def TL (g:GrT) (a:AutT):Nat->List (Int×Int)
 | 0=>[]
 | x+1=>TL g a x++(XM g a (x:Int)).map fun y=>((x:Int),y)
theorem wA (g:GrT) (a:AutT): ∀x,(TL g a x).length<=30*x
 | 0=>by simp[TL]
 | x+1=>by
  have b:=wA g a x;have c:=Cj g a (x:Int);rw[TL,au,List.length_map];omega
theorem HK {f:Yq7×Int->Option (Out Yq7 (Yq7×Int))} {l:List Int} {x:Int} {o:List (Int×Int)} (e:l.length<=30) (d:o.length<=1000)
  (b: ∀(o:List (Int×Int)) (j:Nat),j<l.length->o.length<=2000->f (o,(j:Int))=some (.nxt (o++ [(x,nth l (j:Int))],((j+1:Nat):Int)))) (c: ∀o,f (o,(l.length:Int))=some (.brk (o,(l.length:Int)))) :
  ah f aR (o,0)=some (.brk (o++l.map fun y=>(x,y),(l.length:Int))):=by
 have:=aQ (f:=f) (fun j=>(o++(l.take j).map fun y=>(x,y),(j:Int))) l.length (fun j a=>by
  rw[b _ j a (by rw[au,List.length_map,az];omega),ye a,aX,aH];rfl) (c _) (mB (by omega))
 rw[List.take_length] at this;simpa using this
theorem Wj (g:GrT) (a:AutT) (p:Data.sm g) (r:Data.sm a): ∃(b:Bool) (l:List (Int×Int)),dw g a [] =some b/\fG g a=some l/\iu g a=some l/\l.length<=150/\(b=false->l= [])/\(b=true->GOOD g a/\l=TL g a g.1.length):=by
 obtain ⟨b,d,e,q⟩:=Wi g a p r;refine ⟨b,?_⟩;have c:=e;have d:il (g.1,g.2) (a.1,a.2.1,a.2.2) 0 0=_:=d;have e:dw (g.1,g.2) (a.1,a.2.1,a.2.2) [] =_:=e;have z:=(aP p.1).1;unfold fG iu;rw[e];simp only[aa];cases b with
 | false =>
  refine ⟨[],(by first | exact c | trivial),?_,rfl,by decide,fun _=>rfl,fun h=>by cases h⟩
  have:=aQ (f:=bI g a) (fun _=>(([] :List (Int×Int)),(0:Int))) 0 (fun i w=>absurd w (Nat.not_lt_zero _)) (by
   unfold bI;rw[d];simp only[aa,Bool.false_eq_true,if_false];split <;> rfl) (by unfold aR;omega)
  rw[af this]
 | true =>
  obtain ⟨H,n⟩:=q rfl;have y:=H.1.n5;refine ⟨TL g a g.1.length,(by first | exact c | trivial),?_,?_,by have:=wA g a g.1.length;omega,(fun h=>by cases h),fun _=>⟨H,rfl⟩⟩
  ·have:=aQ (f:=bI g a) (fun x=>(TL g a x,(x:Int))) g.1.length (fun x t=>by
    have u:=wA g a x;have k:=Cj g a (x:Int);unfold bI;simp only;have m:qo (g.1,g.2) (a.1,a.2.1,a.2.2) (x:Int)=_:=Nr H (x:=(x:Int)) ⟨by omega,by omega⟩;rw[if_pos (by simp only[decide_eq_true_eq];omega),d,m];simp only[aa,if_true];rw[af (HK (x:=(x:Int)) (l:=XM g a (x:Int)) k (by omega) (fun o j v s=>by
     unfold iQ;simp only;rw[if_pos (by simp;omega),ai (by omega) (by omega)];simp only[aa];rw[al (by simp;omega),ae (by omega)];rfl) (fun o=>by unfold iQ;simp)),ae (by omega)]
    rfl) (by unfold bI;simp) (mB (by omega))
   have this:ah (bI g a) aR (([] :List (Int×Int)),0)=_:=this;rw[af this]
  ·simp only[if_true]
   have:=aQ (f:=iW g a) (fun x=>(TL g a x,(x:Int))) g.1.length (fun x t=>by
    have u:=wA g a x;have k:=Cj g a (x:Int);unfold iW;simp only;have m:kQ (g.1,g.2) (a.1,a.2.1,a.2.2) (x:Int)=_:=acW H (x:=(x:Int)) ⟨by omega,by omega⟩ (n _ (by omega) (by omega));rw[if_pos (by simp only[decide_eq_true_eq];omega),m];simp only[aa];rw[af (HK (x:=(x:Int)) (l:=XM g a (x:Int)) k (by omega) (fun o j v s=>by
     unfold nV;simp only;rw[if_pos (by simp;omega),ai (by omega) (by omega)];simp only[aa];rw[al (by simp;omega),ae (by omega)];rfl) (fun o=>by unfold nV;simp)),ae (by omega)]
    rfl) (by unfold iW;simp) (mB (by omega))
   have this:ah (iW g a) aR (([] :List (Int×Int)),0)=_:=this;rw[af this]
theorem Wk (g:GrT) (a:AutT) (h:Data.sm g) (c:Data.sm a): ∃l,fG g a=some l/\iu g a=some l/\l.length<=150:=by
 obtain ⟨b,l,-,e,f,d,-⟩:=Wj g a h c;exact ⟨l,e,f,d⟩
theorem acX (g:GrT) (a:AutT) (f:Data.sm g) (e:Data.sm a): ∃b,il g a 0 0=some b/\(b=true->GOOD g a):=by
 have ⟨b,d,m⟩:=rv g (aP f.1).1 (aP f.2).1;have l:=(aP e.2.1).1;have i:=(aP e.2.2).1;have ⟨c,k,j⟩:=Su a (by omega) (by omega);have d:aY (g.1,g.2)=some b:=by rw[lV];exact d
 unfold il;rw[d,k,xm,xm];cases b with
 | false=>grind
 | true =>
  cases c with
  | false=>grind
  | true =>
   by_cases h:(0:Int)<=0/\(0:Int)<=i64.wrap ((g.1.length:Int) - 1)
   ·rw[decide_eq_true h];exact ⟨_,rfl,fun _=>⟨(m.1 rfl).1,(j.1 rfl).1,(j.1 rfl).2⟩⟩
   grind
theorem aeD (g:GrT) (a:AutT) (h:Data.sm g) (e:Data.sm a): ∃l,fG g a=some l/\l.length<=150:=by
 have ⟨b,m,d⟩:=acX g a h e;unfold fG;cases b with
 | false =>
  refine ⟨[],?_,by decide⟩
  have:=aQ (f:=bI g a) (fun _=>(([] :List (Int×Int)),(0:Int))) 0 (fun i n=>absurd n (Nat.not_lt_zero _)) (by
   simp_all[bI,aa,Bool.false_eq_true,if_false]) (by unfold aR;omega)
  rw[af this]
 | true =>
  have H:=d rfl;have p:=H.1.n5;refine ⟨TL g a g.1.length,?_,by grind[wA]⟩
  have:=aQ (f:=bI g a) (fun x=>(TL g a x,(x:Int))) g.1.length (fun x r=>by
   have s:=wA g a x;have c:=Cj g a (x:Int);unfold bI;have k:=Nr H (x:=(x:Int)) ⟨by omega,by omega⟩;rw[if_pos (by grind),m,k];simp[aa,if_true];rw[af (HK (x:=(x:Int)) (l:=XM g a (x:Int)) c (by omega) (fun o j t q=>by
    unfold iQ;rw[if_pos (by grind),ai (by omega) (by omega)];simp[aa];rw[al (by simp;omega),ae (by omega)];rfl) (fun o=>by unfold iQ;simp)),ae (by omega)]
   rfl) (by unfold bI;simp) (mB (by omega))
  have this:ah (bI g a) aR (([] :List (Int×Int)),0)=_:=this;rw[af this]
theorem aeE {r:pZ} (o:Data.sm r) {g:GrT} (d:Data.sm g) (id:Int): ∃(l:List (Int×Int)) (b:Bool),bA r g id=some (l,b)/\l.length<=150:=by
 have ⟨k,j,y,h⟩:=sY r id (aP o.2).1;have ⟨b,v,B,hv⟩:=oq o;have f: ∃x:AutT×Bool,dk r id=some x/\Data.sm x.1:=by
  unfold dk;simp only[j,v,aa,fx];rcases h with rfl | ⟨i,n,rfl⟩
  ·simp_all[tM]
  ·have h:decide ((i:Int)<0)=false:=by simp
   cases b with
   | false=>grind[tM]
   | true =>
    have ⟨u,f⟩:=hv rfl;have ⟨p,m⟩:=f _ (List.getElem_mem n);have e:=ai p m;have s:=(aP u.1).2 _ (bG p m);simp[if_true,h,Bool.false_eq_true,if_false,aC n,aa,e,fx,Lw _ s];grind
 have ⟨⟨a,q⟩,w,t⟩:=f;obtain ⟨c,e,-⟩:=rv g (aP d.1).1 (aP d.2).1;have z:aY (g.1,g.2)=some c:=by rw[lV];exact e
 have ⟨l,j,A⟩:=aeD g a d t;unfold bA;simp[aa];cases q with
 | false=>grind
 | true =>
  cases c with
  | false=>grind
  | true=>simp_all
theorem SR (h:rZ) (j:Data.sm h) {r:pZ} (y:Data.sm r) (id v:Int): ∃(g:GrT) (q:Bool) (l:List (Int×Int)) (b:Bool),eD h v=some (g,q)/\bA r g id=some (l,b)/\l.length<=150:=by
 suffices u: ∃(g:GrT) (q:Bool),eD h v=some (g,q)/\Data.sm g by
  have ⟨g,q,e,w⟩:=u;have ⟨l,b,t,A⟩:=aeE y w id;grind
 have ⟨b,f,x,k⟩:=jM h j;have d:=f;have z:Data.sm (([],[]):GrT):=⟨⟨by decide,fun _ a=>by cases a⟩,by decide,fun _ a=>by cases a⟩;unfold eD;rw[d];simp only[aa];cases b with
 | false=>grind
 | true =>
  have o:=k rfl;have s:=(jN f x o).1;simp only[if_true,s,aa,xm,decide_eq_true_eq];by_cases c:h.1<=v/\v<=latV h
  ·have m:=c;unfold latV at m;have p:=(aP j.2).2 _ (bG (xs:=h.2) (i:=v - h.1) (by omega) (by omega));have t:=qS _ p;rw[if_pos c,bd (n:=v - h.1) (by omega) (by omega),ai (by omega) (by omega)];simp_all
  simp_all[if_neg]
theorem aap (l:List Pr) (p:Pr):(put l p).length<=l.length+1:=by
 have:=SD p l
 unfold put;split
 ·omega
 ·rw[au,az,aw,bq];omega
theorem zN: ∀(m l:List Pr),(Lu l m).length<=l.length+m.length
 | [],l=>ay _
 | p::m,l=>by
  have a:=zN m (put l p);have b:=aap l p;show (Lu (put l p) m).length<=_;rw[aw];omega
theorem SS (l m:List Pr) (p:Pr):Lu l (m++ [p])=put (Lu l m) p:=by simp[Lu]
theorem aeF (l:List Pr) (p:Pr) (u:l.length<=1073741824):vX l p=some (put l p):=by
 have t:=SD p l;have e:ah (pH l p) aR 0=some (.brk ((ahd p l:Nat):Int)):=by
  obtain ⟨o,e,rfl⟩:=bW (f:=pH l p) (fun i s=>s=(i:Int)) (fun o=>o= .brk ((ahd p l:Nat):Int)) (ahd p l) (fun i s v r=>by
   subst r;unfold pH;by_cases c:i<ahd p l
   ·obtain ⟨x,b,j⟩:=XH p l i c;have a:i<l.length:=by omega
    rw[List.getElem?_eq_getElem a] at b;obtain rfl:=ad b;refine .inl ⟨c,((i+1:Nat):Int),?_,rfl⟩;rw[bu a,if_pos rfl,aC a];simp only[aa,XJ,fx];rw[if_pos (decide_eq_true j),ae (by omega)]
   ·obtain rfl:i=ahd p l:=by omega
    refine .inr ⟨_,?_,fun w q=>(by simp at q),rfl⟩;by_cases a:ahd p l<l.length
    ·have g:=XI p l _ (List.getElem?_eq_getElem a);rw[bu a,if_pos rfl,aC a];simp only[aa,XJ,fx];rw[if_neg (by simpa using g)]
    ·rw[if_neg (by simp;omega)]) (s:=0) rfl (cX _ (by omega))
  exact e
 unfold vX;rw[af e];have m:chk ((0:Int)<=((ahd p l:Nat):Int)/\((ahd p l:Nat):Int)<=(l.length:Int))=some ():=if_pos (by omega);have d:bC 16 ([] :List Pr) ((l.take (ahd p l)).drop 0)=some (l.take (ahd p l)):=by
  rw[List.drop_zero,al (by simp only[aD,az];omega)];rfl
 have n:bC 16 (l.take (ahd p l)) [p] =some (l.take (ahd p l)++ [p]):=al (by simp only[List.length_singleton,az];omega);have k:bC 16 (l.take (ahd p l)++ [p]) ((l.take l.length).drop (ahd p l))=some (l.take (ahd p l)++p::l.drop (ahd p l)):=by
  rw[List.take_of_length_le (ay _),al (by simp only[au,List.length_singleton,az,bq];omega),aH];rfl
 simp only[m,aa,Int.toNat_natCast,d,n,k,fx];unfold put;by_cases a:ahd p l<l.length
 ·rw[bu a,if_pos rfl,aC a];simp only[aa,aex];rw[List.getElem?_eq_getElem a];by_cases h:l[ahd p l] =p
  ·rw[if_pos (decide_eq_true h),if_pos (by rw[h])]
  ·rw[if_neg (by simpa using h),if_neg (by simpa using h)]
 ·rw[if_neg (by simp;omega),List.getElem?_eq_none (by omega),if_neg (by simp)]
theorem wB {a b:List Pr} (k:a.length<=67108864) (m:b.length<=67108864):iR a b=some (Lu [] (a.filter fun x=> !decide (x∈b))):=by
 unfold iR;obtain ⟨l,j,rfl⟩:=fb (f:=iB a b) (fun i s=>s=(Lu [] ((a.take i).filter fun x=> !decide (x∈b)),(i:Int))) a.length (fun i s e d=>by
  subst d;have c:=zN ((a.take i).filter fun x=> !decide (x∈b)) [];have g:=List.length_filter_le (fun x=> !decide (x∈b)) (a.take i);rw[az] at g;refine ⟨_,?_,rfl⟩;unfold iB;rw[bu e,if_pos rfl,aC e];simp only[aa,fx];rw[aey (by omega)];simp only[aa];rw[ae (by omega),List.take_succ_eq_append_getElem e,List.filter_append];by_cases h:a[i] ∈ b
  ·rw[if_pos (decide_eq_true h)];simp[h]
  ·rw[if_neg (by simpa using h),aeF _ _ (by simp only[aD] at c;omega)];simp only[aa];rw[show [a[i]].filter (fun x=> !decide (x∈b))= [a[i]] from by simp[h],SS]) (fun s d=>by
  subst d;unfold iB;rw[bE];rfl) (s:=(([] :List Pr),0)) rfl (cX _ (by omega))
 rw[af j,List.take_of_length_le (ay _)]
def afm (m:SA):Prop:=m.2.2.1.length<=150/\m.2.2.2.length<=150
theorem acY (a b:List (Int×Int)) (c:a.length<=1000000) (g:b.length<=1000000): ∃d:Yq7×Yq7,gu a b=some d/\d.1.length<=b.length/\d.2.length<=a.length:=by
 unfold gu;rw[wB (by omega) (by omega),wB (by omega) (by omega)];have k: ∀(l:List (Int×Int)) (f:Int×Int->Bool),(Lu [] (l.filter f)).length<=l.length:=fun l f=>by
  have:=zN (l.filter f) []
  have e:=List.length_filter_le f l;simp at this;omega
 exact ⟨_,rfl,k _ _,k _ _⟩
theorem aeG (h:rZ) (p:Data.sm h) {r:pZ} (n:Data.sm r) (s:ux): ∃b,jq h r s=some b/\(b=true->aL h=some (latV h)):=by
 obtain ⟨b,m,o,k⟩:=jM h p;obtain ⟨c,g,-,-⟩:=oq n;obtain ⟨f,a,-,-⟩:=sY r s.2.1 (aP n.2).1;have i:m_s_IsValidHistory (h.1,h.2)=_:=m;have g:m_s_IsValidRegistry (r.1,r.2)=_:=g;have a:ct (r.1,r.2) s.2.1=_:=a;unfold jq;rw[i,g,a];simp only[aa];cases b with
 | false=>exact ⟨false,rfl,fun c=>by cases c⟩
 | true =>
  obtain ⟨j,q⟩:=jN m o (k rfl);have e:aL (h.1,h.2)=_:=j;cases c with
  | false=>exact ⟨false,rfl,fun c=>by cases c⟩
  | true =>
   rw[e];simp only[if_true,aa];by_cases d:f≥0
   ·by_cases l:s.2.2≥0
    ·simp only[decide_eq_true d,decide_eq_true l,if_true];exact ⟨_,rfl,fun _=>(by first | exact j | trivial)⟩
    ·simp only[decide_eq_true d,decide_eq_false l,if_true,Bool.false_eq_true,if_false];exact ⟨false,rfl,fun c=>by cases c⟩
   ·simp only[decide_eq_false d,Bool.false_eq_true,if_false];exact ⟨false,rfl,fun c=>by cases c⟩
theorem afM (h:rZ) (n:Data.sm h) {r:pZ} (o:Data.sm r) (s:ux) (e:Int): ∃m:SA,dy h r s e=some m/\afm m:=by
 obtain ⟨g,q,l,b,a,f,v⟩:=SR h n o s.2.1 e;have a:eD (h.1,h.2) e=_:=a;have f:bA (r.1,r.2) (g.1,g.2) s.2.1=_:=f;unfold dy;rw[a];simp only[aa];rw[f];simp only[aa];by_cases c:s.2.2<h.1
 ·rw[if_pos (decide_eq_true c)];exact ⟨_,rfl,v,Nat.zero_le _⟩
 ·rw[if_neg (by simpa using c)];obtain ⟨k,w,u,x,i,j,p⟩:=SR h n o s.2.1 s.2.2;have i:eD (h.1,h.2) s.2.2=_:=i;have j:bA (r.1,r.2) (k.1,k.2) s.2.1=_:=j;rw[i];simp only[aa];rw[j];simp only[aa];obtain ⟨d,t,y,z⟩:=acY u l (by omega) (by omega);rw[t];exact ⟨_,rfl,by show d.1.length<=150;omega,by show d.2.length<=150;omega⟩
theorem aeH (h:rZ) (d:Data.sm h) {r:pZ} (e:Data.sm r) (s:ux): ∃x:SA×ux×Bool,cR h r s=some x/\afm x.1:=by
 obtain ⟨b,c,-⟩:=aeG h d e s;have c:jq (h.1,h.2) (r.1,r.2) (s.1,s.2.1,s.2.2)=_:=c;unfold cR;rw[c];simp only[aa];cases b with
 | false=>exact ⟨_,rfl,Nat.zero_le _,Nat.zero_le _⟩
 | true =>
  simp only[if_true];obtain ⟨m,a,k⟩:=afM h d e s (Max.max h.1 (i64.wrap (s.2.2+1)));have a:dy (h.1,h.2) (r.1,r.2) (s.1,s.2.1,s.2.2) (Max.max h.1 (i64.wrap (s.2.2+1)))=_:=a;rw[a];exact ⟨_,rfl,k⟩
section
variable {xs:List Int} {i h:Int}
theorem Ns (e:xs.length<=1048576) {p:List Int×Int×Int} (hp:p.1=xs): ∀(n:Nat) (f:Nat) {i h:Int} {H:rZ},n<900->n<f->jE xs i->aa0 H-> ∃s:Int×Int×rZ,ah (gz p) f ((n:Int),i,h,H.1,H.2)=some (.brk (0,s.1,s.2.1,s.2.2.1,s.2.2.2))/\jE xs s.1/\aa0 s.2.2
 | 0,f+1,i,h,H,_,_,hc,hr=>by
  refine ⟨(i,h,H),?_,hc,hr⟩
  have:gz p (((0:Nat):Int),i,h,H.1,H.2)=some (.brk (0,i,h,H.1,H.2)):=by
   unfold gz;simp only;rw[if_neg (by simp)];rfl
  rw[ah,this]
 | n+1,f+1,i,h,H,hn,hf,hc,hr=>by
  obtain ⟨u,j⟩:=aP hr.1.2;have q:=hr.2;have k:=j _ (bG (xs:=H.2) (i:=(H.2.length:Int) - 1) (by omega) (by omega));obtain ⟨a,b,-,c⟩:=SH (h:=h) e hc k (m:=4) (by decide);have b:mu (xs,i,h) ((nth H.2 ((H.2.length:Int) - 1)).1,(nth H.2 ((H.2.length:Int) - 1)).2) 4=_:=b;obtain ⟨x,d,l⟩:=SG H hr a.1;have d:iS (H.1,H.2) a.1=_:=d;obtain ⟨t,r,o,g⟩:=Ns e hp n f (h:=a.2.2) (H:=x.1) (by omega) (by omega) c l;refine ⟨t,?_,o,g⟩
  have:gz p (((n+1:Nat):Int),i,h,H.1,H.2)=some (.nxt ((n:Int),a.2.1,a.2.2,x.1.1,x.1.2)):=by
   unfold gz;simp only;rw[if_pos (decide_eq_true (show ((n+1:Nat):Int)>0 by omega)),bd (n:=(H.2.length:Int) - 1) (by omega) (by omega),ai (by omega) (by omega)];simp only[aa];rw[hp,b];simp only[aa];rw[d];simp only[aa];rw[show i64.wrap (((n+1:Nat):Int) - 1)=(n:Int) from by rw[bd (by omega) (by omega)];omega]
  rw[ah,this];exact r
theorem acZ (c:xs.length<=1048576) (B:jE xs i): ∃r:rZ×Int×Int,pJ (xs,i,h)=some r/\aa0 r.1/\jE xs r.2.1:=by
 unfold pJ;simp only;obtain ⟨b,t,⟨j,G⟩,w⟩:=Ng (h:=h) c B;rw[t];simp only[aa];obtain ⟨a,y,K,u⟩:=bN (h:=b.2.2) c w (n:=4) (by omega);rw[y];simp only[aa];rw[bd (n:=1+a.1) (by omega) (by omega)];have f:=afk j G (v:=1+a.1) (by omega);have f:ig (b.1.1,b.1.2) (1+a.1)=_:=f;rw[f];simp only[aa];obtain ⟨d,I,m,D⟩:=fc (h:=a.2.2) c u (l:=[3,5,10]) (by simp);rw[I];simp only[aa];have m:3<=d.1/\d.1<=10:=by simp at m;omega
 obtain ⟨e,A,J,z⟩:=bN (h:=d.2.2) c D (n:=d.1) (by omega);rw[A];simp only[aa];obtain ⟨k,F⟩: ∃k:Nat,e.1=(k:Int):=⟨e.1.toNat,by omega⟩;have o:aa0 ((1+a.1,[b.1]):rZ):=⟨zK (by simp) (fun g x=>by rw[aq x];exact j),ay _⟩;obtain ⟨s,C,q,E⟩:=Ns c (p:=(xs,i,h)) rfl k aR (h:=e.2.2) (H:=((1+a.1,[b.1]):rZ)) (by omega) (by unfold aR;omega) z o;rw[F,af C];exact ⟨_,rfl,E,q⟩
theorem aaq (d:xs.length<=1048576) (y:jE xs i): ∃r:rZ×Int×Int,yK (xs,i,h)=some r/\Data.sm r.1/\jE xs r.2.1:=by
 unfold yK;simp only;obtain ⟨m,q,p,u⟩:=acZ (h:=h) d y;rw[q];simp only[aa];obtain ⟨b,v,-,c⟩:=bN (h:=m.2.2) d u (n:=14) (by omega);rw[v];simp only[aa];obtain ⟨e,f⟩:=aP p.1.2;have z:=p.2;by_cases k:(b.1==0)=true
 ·rw[if_pos k];obtain ⟨C,A,-,t⟩:=fc (h:=b.2.2) d c (l:=[0,999,998,1000]) (by simp);rw[A];exact ⟨_,rfl,zK e f,t⟩
 ·rw[if_neg k];by_cases o:(b.1==1)=true
  ·rw[if_pos o];obtain ⟨B,x,s,w⟩:=acC (h:=b.2.2) d c;rw[x];simp only[aa];rw[bd (n:=(m.1.2.length:Int) - 1) (by omega) (by omega),ai (by omega) (by omega)];refine ⟨_,rfl,zK (by rw[List.length_set];exact e) (fun g a=>?_),w⟩;rcases List.mem_or_eq_of_mem_set a with a | rfl
   ·exact f g a
   ·exact s
  ·rw[if_neg o];by_cases j:(b.1==2)=true
   ·rw[if_pos j];exact ⟨_,rfl,zK (Nat.zero_le _) (fun g a=>by cases a),c⟩
   ·rw[if_neg j];exact ⟨_,rfl,zK e f,c⟩
end
def mkB (l:List UInt8):ByteArray:=⟨l.toArray⟩
theorem aar (a b:List UInt8):mkB a++mkB b=mkB (a++b):=ByteArray.ext (by simp[mkB])
theorem aV (a:List UInt8):(mkB a).size=a.length:=by simp[mkB,ByteArray.size]
theorem gZ (a:List UInt8):(mkB a).data.toList=a:=by simp[mkB]
theorem zT (a b:List UInt8) (h:a.length+b.length<=9223372036854775807):lF (mkB a) (mkB b)=some (mkB (a++b)):=by
 unfold lF chk;rw[aV,aV,if_pos h,aa,aar]
theorem afN: ∀d:Fin 10,IntKind.u8.wrap (i64.wrap (48+(d.val:Int)))=48+(d.val:Int):=by decide
theorem afO {d:Nat} (h:d<10):A3 [IntKind.u8.wrap (i64.wrap (48+(d:Int)))] =mkB [UInt8.ofNat (48+d)]:=by
 rw[afN ⟨d,h⟩];show ByteArray.empty.push (UInt8.ofNat (48+(d:Int)).toNat)=_;rw[show (48+(d:Int)).toNat=48+d by omega];rfl
theorem afP (m:Int):(if decide ((Int.tmod m 10)<0) then (some (i64.wrap (-(Int.tmod m 10)))) else (some (Int.tmod m 10)):Option Int)=some ((m.natAbs % 10:Nat):Int):=by
 by_cases h:m<0
 ·obtain ⟨k,rfl⟩: ∃k:Nat,m= -(k:Int):=⟨m.natAbs,by omega⟩;have e:Int.tmod (-(k:Int)) 10= -((k % 10:Nat):Int):=by rw[Int.neg_tmod];rfl
  rw[e,Int.natAbs_neg,Int.natAbs_natCast];by_cases a:k % 10=0
  ·rw[a];rfl
  ·rw[if_pos (decide_eq_true (by omega)),Int.neg_neg,bd (by omega) (by omega)]
 ·obtain ⟨k,rfl⟩: ∃k:Nat,m=(k:Int):=⟨m.natAbs,by omega⟩;have e:Int.tmod (k:Int) 10=((k % 10:Nat):Int):=rfl;rw[e,if_neg (by simp;omega),Int.natAbs_natCast]
theorem afn {m:Int} (h:I64 m):EZ m 10=m.tdiv 10/\(m.tdiv 10).natAbs=m.natAbs / 10:=by
 have k:(m.tdiv 10).natAbs=m.natAbs / 10:=Int.natAbs_tdiv m 10;unfold I64 at h;refine ⟨?_,k⟩;unfold EZ;exact bd (by omega) (by omega)
theorem aas {m:Int} {out:List UInt8} (a:m≠0) (h:I64 m) (b:out.length<=1000):fh (m,mkB out)=some (.nxt (m.tdiv 10,mkB (UInt8.ofNat (48+m.natAbs % 10)::out))):=by
 unfold fh;simp only[];rw[if_pos (by simpa using a),afP,aa,afO (Nat.mod_lt _ (by omega)),zT _ _ (by simp;omega),aa,(afn h).1];rfl
theorem XN (u:Nat):1<=Lib.nDigits u:=by
 by_cases h:u<10
 ·rw[Lib.nDigits_small h];omega
 ·rw[Lib.nDigits_big h];omega
theorem SU: ∀(k:Nat) (m:Int) (out:List UInt8),m≠0->I64 m->Lib.nDigits m.natAbs<=k->out.length+Lib.nDigits m.natAbs<=100->ah fh (k+1) (m,mkB out)=some (.brk (0,mkB (Lib.decDigits m.natAbs++out)))
 | 0,m,out,_,_,h,_=>by have:=XN m.natAbs;omega
 | k+1,m,out,h0,hm,h,hl=>by
  rw[ah,aas h0 hm (by omega)];show ah fh (k+1) (m.tdiv 10,_)=_;have a:=(afn hm).2;by_cases b:m.natAbs<10
  ·have c:m.tdiv 10=0:=by
    have:(m.tdiv 10).natAbs=0:=by rw[a];omega
    omega
   rw[c,ah]
   have:fh (0,mkB (UInt8.ofNat (48+m.natAbs % 10)::out))=some (.brk (0,mkB (UInt8.ofNat (48+m.natAbs % 10)::out))):=rfl
   rw[this,Lib.decDigits_one b,Nat.mod_eq_of_lt b];rfl
  ·have c:m.tdiv 10≠0:=by
    intro e;rw[e] at a
    have:m.natAbs / 10=0:=by simpa using a.symm
    omega
   have f:=Lib.nDigits_big b;have d:I64 (m.tdiv 10):=by unfold I64 at hm⊢;omega
   rw[SU k _ _ c d (by rw[a];omega) (by rw[a,aw];omega),a]
   have:Lib.decDigits m.natAbs=Lib.decDigits (m.natAbs / 10)++ [UInt8.ofNat (48+m.natAbs % 10)]:=by rw[Lib.decDigits,dif_neg b]
   rw[this,aH];rfl
theorem uo {n:Int} (h:I64 n):(Lib.itoa n).length<=21:=Lib.itoa_length_le n h.1 h.2
theorem aeI {n:Int} (h:I64 n):Lib.nDigits n.natAbs<=21:=by
 have:=uo h
 unfold Lib.itoa at this;split at this
 ·rw[aw,Lib.decDigits_length] at this;omega
 ·rw[Lib.decDigits_length] at this;rw[show n.natAbs=n.toNat by omega];exact this
theorem ry {n:Int} (h:I64 n):cw n=some (mkB (Lib.itoa n)):=by
 unfold cw;by_cases b:n=0
 ·subst b;rw[if_pos (by rfl:((0:Int)==0)=true)]
  have:Lib.itoa 0= [48]:=by unfold Lib.itoa;rw[if_neg (by decide)];exact Lib.decDigits_one (by decide)
  rw[this];rfl
 rw[if_neg (by simpa using b)];have d:=aeI h;have g:=cX 100 (by omega);obtain ⟨k,c⟩: ∃k,aR=k+1:=⟨aR - 1,by omega⟩;have e:ah fh aR (n,(⟨#[]⟩:ByteArray))=some (.brk (0,mkB (Lib.decDigits n.natAbs++ []))):=by
  rw[c];exact SU k n [] b h (by omega) (by simp;omega)
 rw[af e,List.append_nil];have f:(Lib.decDigits n.natAbs).length<=21:=by rw[Lib.decDigits_length];exact d
 unfold Lib.itoa;by_cases a:n<0
 ·rw[if_pos (decide_eq_true a),if_pos a];show (lF (mkB [45]) _).bind _=_;rw[zT _ _ (by simp;omega)];rfl
 ·rw[if_neg (by simpa using a),if_neg a,show n.natAbs=n.toNat by omega]
theorem zO {n:Int} (h:I64 n):eQ n=some (mkB (Lib.itoa n)):=by
 unfold eQ pb R.Vy chk;rw[if_pos (show -9223372036854775808<=n/\n<=9223372036854775807 from h)];rfl
theorem SV (xs:List (List UInt8)) (y sep:List UInt8):Lib.join (xs++ [y]) sep=if xs= [] then y else Lib.join xs sep++sep++y:=by
 cases xs with
 | nil=>rw[if_pos rfl];exact Lib.join_one _ _
 | cons x r =>
  rw[if_neg (by simp),List.cons_append,Lib.join_cons,Lib.join_cons];simp[Lib.joinTail,aH]
theorem Ee: ∀(a:List UInt8) (acc:Nat) (b:List UInt8),Lib.decFrom acc (a++b)=(Lib.decFrom acc a).bind fun m=>Lib.decFrom m b
 | [],acc,b=>rfl
 | x::a,acc,b=>by
  rw[List.cons_append,Lib.decFrom,Lib.decFrom];cases Lib.digitVal x with
  | none=>rfl
  | some d=>exact Ee a _ b
theorem SX {d:Nat} (h:d<10):Lib.digitVal (UInt8.ofNat (48+d))=some d:=by
 have e:(UInt8.ofNat (48+d)).toNat=48+d:=by simp;omega
 unfold Lib.digitVal;rw[e,if_pos ⟨by omega,by omega⟩];congr 1;omega
theorem Ck {u:Nat} (h: ¬u<10):Lib.decDigits u=Lib.decDigits (u / 10)++ [UInt8.ofNat (48+u % 10)]:=by rw[Lib.decDigits,dif_neg h]
theorem LD (u:Nat):Lib.decFrom 0 (Lib.decDigits u)=some u:=by
 induction u using Nat.strongRecOn with
 | _ u a =>
  by_cases h:u<10
  ·rw[Lib.decDigits_one h,Lib.decFrom,SX h];simp[Lib.decFrom]
  ·rw[Ck h,Ee,a (u / 10) (by omega),aa,Lib.decFrom,SX (Nat.mod_lt _ (by omega))];simp only[Lib.decFrom];congr 1;omega
theorem ac0 (u:Nat):Lib.decDigits u≠ []:=fun h=>by
 have:=Lib.decDigits_length u
 rw[h] at this
 have:=XN u
 simp at *;omega
theorem F5 (u:Nat):Lib.decNat (Lib.decDigits u)=some u:=by
 unfold Lib.decNat;rw[if_neg (by simpa using ac0 u),LD]
theorem Nt (u:Nat): ∃d r,d<10/\Lib.decDigits u=UInt8.ofNat (48+d)::r:=by
 induction u using Nat.strongRecOn with
 | _ u b =>
  by_cases h:u<10
  ·exact ⟨u,[],h,Lib.decDigits_one h⟩
  ·obtain ⟨d,r,a,e⟩:=b (u / 10) (by omega);exact ⟨d,_,a,by rw[Ck h,e];rfl⟩
theorem LF {d:Nat} (h:d<10):(UInt8.ofNat (48+d)==45)=false/\(UInt8.ofNat (48+d)==43)=false:=by
 have: ∀d:Fin 10,(UInt8.ofNat (48+d.val)==45)=false/\(UInt8.ofNat (48+d.val)==43)=false:=by decide
 exact this ⟨d,h⟩
theorem SY (n:Int):Lib.atoi (Lib.itoa n)=some n:=by
 unfold Lib.itoa;by_cases h:n<0
 ·rw[if_pos h];show (Lib.decNat (Lib.decDigits n.natAbs)).map (fun (m:Nat)=> -(m:Int))=_;rw[F5];simp;omega
 ·rw[if_neg h];obtain ⟨d,r,a,e⟩:=Nt n.toNat;have k:=F5 n.toNat;rw[e] at k⊢;show (if (UInt8.ofNat (48+d)==45)=true then _ else if (UInt8.ofNat (48+d)==43)=true then _ else _)=_;rw[if_neg (by rw[(LF a).1];decide),if_neg (by rw[(LF a).2];decide),k];simp;omega
def dst (p:Nat×Nat) (b:UInt8):Nat×Nat:=if 48<=b.toNat/\b.toNat<=57 then (p.1*10+(b.toNat - 48),p.2+1) else p
theorem SZ {d:Nat} (h:d<10) (p:Nat×Nat):dst p (UInt8.ofNat (48+d))=(p.1*10+d,p.2+1):=by
 have e:(UInt8.ofNat (48+d)).toNat=48+d:=by simp;omega
 unfold dst;rw[e,if_pos ⟨by omega,by omega⟩,show 48+d - 48=d by omega]
theorem S4 (u:Nat):(Lib.decDigits u).foldl dst (0,0)=(u,Lib.nDigits u):=by
 induction u using Nat.strongRecOn with
 | _ u a =>
  by_cases h:u<10
  ·rw[Lib.decDigits_one h,List.foldl_cons,List.foldl_nil,SZ h,Lib.nDigits_small h];simp
  ·rw[Ck h,List.foldl_append,a (u / 10) (by omega),List.foldl_cons,List.foldl_nil,SZ (Nat.mod_lt _ (by omega)),Lib.nDigits_big h];congr 1;show u / 10*10+u % 10=u;omega
theorem Wl (n:Int):(Lib.itoa n).foldl dst (0,0)=(n.natAbs,Lib.nDigits n.natAbs):=by
 unfold Lib.itoa;split
 ·rw[List.foldl_cons,show dst (0,0) 45=(0,0) from rfl,S4]
 ·rw[S4,show n.toNat=n.natAbs by omega]
theorem XO: ∀(l:List UInt8) (p:Nat×Nat),p.1<10 ^ p.2->(l.foldl dst p).1<10 ^ (l.foldl dst p).2
 | [],p,h=>h
 | b::l,p,h=>by
  rw[List.foldl_cons];refine XO l _ ?_;unfold dst;split
  ·rename_i k;show p.1*10+(b.toNat - 48)<10 ^ (p.2+1);rw[Nat.pow_succ];omega
  ·exact h
theorem XP: ∀(l:List UInt8) (p:Nat×Nat),(l.foldl dst p).2<=p.2+l.length
 | [],p=>by simp
 | b::l,p=>by
  rw[List.foldl_cons]
  have:=XP l (dst p b)
  have h:(dst p b).2<=p.2+1:=by unfold dst;split <;> simp
  rw[aw];omega
theorem ac1: ∀(k u:Nat),1<=k->u<10 ^ k->Lib.nDigits u<=k
 | 0,u,h,_=>by omega
 | k+1,u,_,h=>by
  by_cases a:u<10
  ·rw[Lib.nDigits_small a];omega
  ·rw[Lib.nDigits_big a];have b:1<=k:=by
    rcases k with _ | k
    ·omega
    ·omega
   have:=ac1 k (u / 10) b (by omega)
   omega
theorem u8W: ∀d:Fin 10,i64.wrap (IntKind.u8.wrap (d.val:Int))=(d.val:Int):=by decide
theorem Cl {s:ByteArray} {i:Nat} (h:i<s.size):lD s (i:Int)=some (((s.data.toList[i]'(by simp_all)).toNat:Nat):Int):=by
 simp_all[lD,chk,if_pos,aa,List.getD_eq_getElem?_getD,List.getElem?_eq_getElem]
def dtk (s:ByteArray) (i:Nat):Nat×Nat:=(s.data.toList.take i).foldl dst (0,0)
theorem S5 (s:ByteArray) (i:Nat):(dtk s i).1<10 ^ (dtk s i).2/\(dtk s i).2<=i:=by
 grind[XO,XP,az,dtk]
theorem aat (s:ByteArray):ah (kz s) aR (0,0,0)=some (.brk (((dtk s (min s.size 11)).1:Int),((dtk s (min s.size 11)).2:Int),((min s.size 11:Nat):Int))):=by
 refine aQ (f:=kz s) (fun i=>(((dtk s i).1:Int),((dtk s i).2:Int),(i:Int))) (min s.size 11) (fun i m=>?_) ?_ (cX _ (by omega))
 ·have c:i<s.size:=by omega
  have g:i<s.data.toList.length:=by simpa using c
  have a:dtk s (i+1)=dst (dtk s i) (s.data.toList[i]):=by
   unfold dtk;rw[List.take_succ_eq_append_getElem g,List.foldl_append];rfl
  have ⟨o,k⟩:=S5 s i;have l:10 ^ (dtk s i).2<=10 ^ 10:=Nat.pow_le_pow_right (by omega) (by omega);unfold kz;simp only[];rw[if_pos (decide_eq_true (by omega)),if_pos (decide_eq_true (by omega)),Cl c,a];generalize s.data.toList[i] =b;generalize dtk s i=p at *;simp only[aa];unfold dst;by_cases h:48<=b.toNat
  ·rw[if_pos (decide_eq_true (by omega))];by_cases j:b.toNat<=57
   ·rw[if_pos (decide_eq_true (by omega)),if_pos ⟨h,j⟩];have ⟨d,a,e⟩: ∃d,d<10/\b.toNat=48+d:=⟨b.toNat - 48,by omega,by omega⟩;rw[e,show ((48+d:Nat):Int) - 48=(d:Int) by omega,u8W ⟨d,a⟩];simp only[aa];rw[bd (n:=(p.1:Int)*10) (by omega) (by omega),bd (by omega) (by omega),ae (by omega),ae (by omega)];congr 4;omega
   ·rw[if_neg (by grind),if_neg (by omega)];simp only[aa];rw[ae (by omega)]
  ·rw[if_neg (by grind),if_neg (by omega)];simp only[aa];rw[ae (by omega)]
 grind[kz]
def sgn (s:ByteArray):Int:=if s.data.toList.head? =some 45 then -((dtk s (min s.size 11)).1:Int) else ((dtk s (min s.size 11)).1:Int)
theorem XQ (s:ByteArray):(sgn s).natAbs<10 ^ (dtk s (min s.size 11)).2/\(sgn s).natAbs<10 ^ 11:=by
 have ⟨a,c⟩:=S5 s (min s.size 11);have b:10 ^ (dtk s (min s.size 11)).2<=10 ^ 11:=Nat.pow_le_pow_right (by omega) (by omega);grind[sgn,dtk,min]
theorem XR (s:ByteArray):jg s=if 9<(dtk s (min s.size 11)).2\/10<s.size then some (0,false) else if mkB (Lib.itoa (sgn s))=s then some (sgn s,true) else some (0,false):=by
 have k:=(XQ s).2;have h:I64 (sgn s):=by unfold I64;omega
 have ⟨m,o⟩:=S5 s (min s.size 11);have l:10 ^ (dtk s (min s.size 11)).2<=10 ^ 11:=Nat.pow_le_pow_right (by omega) (by omega);have fin: ∀z:Int,z=sgn s->(if decide (((dtk s (min s.size 11)).2:Int)>9) then (some (0,false)) else (if decide (((s.size:Nat):Int)>10) then (some (0,false)) else ((cw z).bind fun a=>if a !=s then (some (0,false)) else (some (z,true)))):Option (Int×Bool))=if 9<(dtk s (min s.size 11)).2\/10<s.size then some (0,false) else if mkB (Lib.itoa (sgn s))=s then some (sgn s,true) else some (0,false):=by
  rintro z rfl;by_cases n:9<(dtk s (min s.size 11)).2
  ·grind
  ·rw[if_neg (by grind)];by_cases j:10<s.size
   ·grind
   ·rw[if_neg (by grind),if_neg (by omega),ry h,aa];grind
 unfold jg;rw[af (aat s)];simp only[];by_cases b:0<s.size
 ·rw[if_pos (decide_eq_true (by omega))];have g:0<s.data.toList.length:=by simpa using b
  have f:lD s 0=some (((s.data.toList[0]).toNat:Nat):Int):=Cl (i:=0) b;have p:s.data.toList.head? =some s.data.toList[0]:=by rw[List.head?_eq_getElem?,List.getElem?_eq_getElem g]
  rw[f,aa];by_cases c:s.data.toList[0] =45
  ·rw[if_pos (by simp_all),aa,bd (by omega) (by omega)];simp_all[sgn,if_pos]
  ·have d:=fun e=>c (UInt8.toNat_inj.1 e);rw[if_neg (fun e=>d (by grind)),aa];grind[sgn]
 ·simp_all[sgn,if_neg]
theorem Wm {n:Int} (h: -999999999<=n/\n<=999999999):Lib.nDigits n.natAbs<=9/\(Lib.itoa n).length<=10:=by
 have k:Lib.nDigits n.natAbs<=9:=ac1 9 _ (by omega) (by omega);grind[Lib.itoa,aw,Lib.decDigits_length]
theorem S6 (n:Int):((Lib.itoa n).head? =some 45)↔n<0:=by
 unfold Lib.itoa;split
 ·grind
 ·have ⟨d,r,a,e⟩:=Nt n.toNat;grind[LF,List.head?_cons,Option.some.injEq]
theorem HL {n:Int} (h: -999999999<=n/\n<=999999999):jg (mkB (Lib.itoa n))=some (n,true)/\jh (mkB (Lib.itoa n))=some (n,true):=by
 have ⟨d,a⟩:=Wm h;constructor
 ·have b:dtk (mkB (Lib.itoa n)) (min (mkB (Lib.itoa n)).size 11)=(n.natAbs,Lib.nDigits n.natAbs):=by
   unfold dtk;grind[gZ,aV,Nat.min_eq_left,List.take_length,Wl]
  have e:sgn (mkB (Lib.itoa n))=n:=by
   unfold sgn;rw[b,gZ];by_cases c:n<0
   ·rw[if_pos ((S6 n).2 c)];omega
   ·rw[if_neg fun k=>c ((S6 n).1 k)];omega
  simp_all[XR,aV,if_neg,if_pos]
 ·unfold jh R.uM;rw[aV,gZ,if_neg (by omega),SY];show (if _ then _ else _)=_;rw[if_pos ⟨rfl,h.1,h.2⟩]
theorem Wn {s:ByteArray} (h: ¬ ∃n:Int,(-999999999<=n/\n<=999999999)/\s=mkB (Lib.itoa n)):jg s=some (0,false)/\jh s=some (0,false):=by
 constructor
 ·rw[XR];by_cases c:9<(dtk s (min s.size 11)).2\/10<s.size
  ·grind
  ·have d:=(XQ s).1;have b:10 ^ (dtk s (min s.size 11)).2<=10 ^ 9:=Nat.pow_le_pow_right (by omega) (by omega);grind
 ·unfold jh R.uM;by_cases c:10<s.size
  ·grind
  ·rw[if_neg c];cases a:Lib.atoi s.data.toList with
   | none=>rfl
   | some n =>
    show (if _ then _ else _)=_;rw[if_neg fun k=>h ⟨n,k.2,k.1.symm⟩]
theorem tN (s:ByteArray): ∃r:Int×Bool,jg s=some r/\jh s=some r/\((r.2=true/\(-999999999<=r.1/\r.1<=999999999)/\s=mkB (Lib.itoa r.1))\/r=(0,false)):=by
 grind[mkB,Lib.itoa,HL,Wn]
theorem HM (s:ByteArray):jf s=mH s:=by
 have e:iL s=qp s:=by
  funext p;unfold iL qp;rw[Int.mul_comm p.1 257]
 unfold jf mH;rw[e]
theorem Bs (s:ByteArray) (h:s.size<=9223372036854775806): ∃r:Int,jf s=some r/\mH s=some r/\0<=r/\r<=9972:=by
 obtain ⟨p,e,a,d,c⟩:=fb (f:=iL s) (fun i p=>p.2=(i:Int)/\0<=p.1/\p.1<=9972) s.size (fun i p l g=>by
  obtain ⟨n,j⟩:=p;obtain ⟨a,d,c⟩:=g;simp only at a d c;subst a;unfold iL;simp only[];rw[if_pos (decide_eq_true (by omega)),Cl l];simp only[aa];generalize s.data.toList[i] =b;have m:b.toNat<256:=b.toNat_lt;rw[bd (n:=((b.toNat:Nat):Int)) (by omega) (by omega),bd (n:=n*257) (by omega) (by omega),bd (n:=n*257+(b.toNat:Int)) (by omega) (by omega),bd (n:=n*257+(b.toNat:Int)+1) (by omega) (by omega),ae (by omega)];refine ⟨_,rfl,rfl,?_,?_⟩
  ·exact Int.tmod_nonneg _ (by omega)
  ·have:Int.tmod (n*257+(b.toNat:Int)+1) 9973<9973:=Int.tmod_lt_of_pos _ (by decide)
   show Int.tmod (n*257+(b.toNat:Int)+1) 9973<=9972;omega) (fun p g=>by
  obtain ⟨n,j⟩:=p;obtain ⟨a,-⟩:=g;simp only at a;subst a;unfold iL;simp only[];rw[if_neg (by simp)]) (s:=(1,0)) ⟨rfl,by decide,by decide⟩ (cX _ (by omega))
 have k:jf s=some p.1:=by
  unfold jf;rw[af e]
 exact ⟨p.1,k,by rw[<-HM];exact k,d,c⟩
def edOk (e:Int×Int×Int×Int):Prop:=(1<=e.1/\e.1<=99)/\(0<=e.2.1/\e.2.1<=4)/\(0<=e.2.2.1/\e.2.2.1<=4)/\(0<=e.2.2.2/\e.2.2.2<=2)
instance (e:Int×Int×Int×Int):Decidable (edOk e):=inferInstanceAs (Decidable (_/\_))
def vH (e:Int×Int×Int×Int):List UInt8:=Lib.itoa e.1++ [58] ++Lib.itoa e.2.1++ [UInt8.ofNat (97+e.2.2.2.toNat)] ++Lib.itoa e.2.2.1
theorem Wo: ∀k:Fin 3,gp (i64.wrap (2*(k.val:Int)))=some (mkB [UInt8.ofNat (97+k.val)]):=by
 intro k
 match k with
 | ⟨0,_⟩=>rfl
 | ⟨1,_⟩=>rfl
 | ⟨2,_⟩=>rfl
theorem Wp: ∀k:Fin 3,qT (⟨#[97,98,99]⟩) (k.val:Int) (i64.wrap ((k.val:Int)+1))=some (mkB [UInt8.ofNat (97+k.val)]):=by
 intro k
 match k with
 | ⟨0,_⟩=>rfl
 | ⟨1,_⟩=>rfl
 | ⟨2,_⟩=>rfl
theorem S7 (e:Int×Int×Int×Int):lN e=some (if edOk e then mkB (vH e) else mkB []):=by
 unfold lN;rw[xm,xm,xm,xm];simp only[aa];by_cases h:edOk e
 ·obtain ⟨m,f,n,j⟩:=h;rw[if_pos (decide_eq_true m),if_pos (decide_eq_true f),if_pos (decide_eq_true n),if_pos (decide_eq_true j),if_pos ⟨m,f,n,j⟩];have i:I64 e.1:=by unfold I64;omega
  have g:I64 e.2.1:=by unfold I64;omega
  have o:I64 e.2.2.1:=by unfold I64;omega
  have r:=uo i;have t:=uo g;have s:=uo o;obtain ⟨k,q,l⟩: ∃k:Nat,k<3/\e.2.2.2=(k:Int):=⟨e.2.2.2.toNat,by omega,by omega⟩;rw[ry i,ry g,ry o,l,Wo ⟨k,q⟩];simp only[aa];have p:lF (mkB (Lib.itoa e.1)) (⟨#[58]⟩)=some (mkB (Lib.itoa e.1++ [58])):=zT _ [58] (by simp;omega);rw[p];simp only[aa];rw[zT _ _ (by simp;omega)];simp only[aa];rw[zT _ _ (by simp;omega)];simp only[aa];rw[zT _ _ (by simp;omega)];simp only[aa];unfold vH;rw[l];rfl
 ·rw[if_neg h];split
  ·split
   ·split
    ·split
     ·rename_i a b c d;exact absurd ⟨of_decide_eq_true a,of_decide_eq_true b,of_decide_eq_true c,of_decide_eq_true d⟩ h
     ·rfl
    ·rfl
   ·rfl
  ·rfl
theorem S8 (e:Int×Int×Int×Int):lQ e=some (if edOk e then mkB (vH e) else mkB []):=by
 have m:i64.wrap (5 - 1)=4:=by decide
 have d:ln (e.1,e.2.1,e.2.2.1,e.2.2.2) 5=some (decide (edOk e)):=by
  unfold ln;rw[m,Ep,Ep,Ep,Ep];simp only[aa];by_cases b:1<=e.1/\e.1<=99
  ·rw[if_pos (decide_eq_true b)];by_cases a:0<=e.2.1/\e.2.1<=4
   ·rw[if_pos (decide_eq_true a)];by_cases c:0<=e.2.2.1/\e.2.2.1<=4
    ·rw[if_pos (decide_eq_true c)];congr 1;exact decide_eq_decide.2 ⟨fun i=>⟨b,a,c,i⟩,fun h=>h.2.2.2⟩
    ·rw[if_neg (by simpa using c),decide_eq_false (fun h:edOk e=>c h.2.2.1)]
   ·rw[if_neg (by simpa using a),decide_eq_false (fun h:edOk e=>a h.2.1)]
  ·rw[if_neg (by simpa using b),decide_eq_false (fun h:edOk e=>b h.1)]
 unfold lQ;rw[d];simp only[aa];by_cases h:edOk e
 ·rw[if_pos (decide_eq_true h),if_pos h];obtain ⟨b,a,c,i⟩:=h;have g:I64 e.1:=by unfold I64;omega
  have f:I64 e.2.1:=by unfold I64;omega
  have l:I64 e.2.2.1:=by unfold I64;omega
  have p:=uo g;have r:=uo f;have q:=uo l;obtain ⟨k,o,j⟩: ∃k:Nat,k<3/\e.2.2.2=(k:Int):=⟨e.2.2.2.toNat,by omega,by omega⟩;rw[zO g,zO f,zO l,j,Wp ⟨k,o⟩];simp only[aa];have n:lF (mkB (Lib.itoa e.1)) (⟨#[58]⟩)=some (mkB (Lib.itoa e.1++ [58])):=zT _ [58] (by simp;omega);rw[n];simp only[aa];rw[zT _ _ (by simp;omega)];simp only[aa];rw[zT _ _ (by simp;omega)];simp only[aa];rw[zT _ _ (by simp;omega)];simp only[aa];unfold vH;rw[j];rfl
 ·rw[if_neg (by simpa using h),if_neg h];rfl
end D
end Go.Proofs.YtphjdcoponilmaaGreatDoor
