/- FnContainment: for every input the law returns true and changes nothing that was there. Part 8 of 8. -/
import Derived.Test.YtfbgafccgaoepaaGreatKC6
set_option synthInstance.maxSize 20000
set_option synthInstance.maxHeartbeats 2000000
set_option linter.unusedVariables false
set_option linter.unusedSimpArgs false
set_option linter.unnecessarySimpa false
set_option linter.unusedSectionVars false
set_option maxRecDepth 1000000
namespace Go.Proofs.YtfbgafccgaoepaaGreat
open Go.IntKind (i64)
namespace D
open Go.RowKit
def bt (x:Int) (j:Nat):Prop:=x.toNat.testBit j=true
theorem zF {j:Nat} : ¬bt 0 j:=by unfold bt;simp
def BS (a b:Nat) (x:Int):Prop:=0<=x/\ ∀j,bt x j->a<=j/\j<b
theorem BS.nat {a b:Nat} {x:Int} (h:BS a b x) (hb:b<=30): ∃f:Nat,x=(f:Int)/\f<2 ^ 62:=by
 refine ⟨x.toNat,(Int.toNat_of_nonneg h.1).symm,aI (Nat.lt_pow_two_of_testBit (n:=b) x.toNat fun i hi=>?_) (Nat.pow_le_pow_right (by decide) (by omega))⟩
 cases hc:x.toNat.testBit i with
 | false=>rfl
 | true=>have:=(h.2 i hc).2;omega
theorem BS.zero {a b:Nat} :BS a b 0:=⟨by omega,fun j hj=>absurd hj zF⟩
theorem BS.mono {a b a' b':Nat} {x:Int} (h:BS a b x) (ha:a'<=a) (hb:b<=b'):BS a' b' x:=⟨h.1,fun j hj=>by have:=h.2 j hj;omega⟩
theorem BS.or {a b a' b':Nat} {x y:Int} (hx:BS a b x) (hy:BS a' b' y) (hb:b<=30) (hb':b'<=30):(∀j,bt (orI x y) j↔bt x j\/bt y j)/\0<=orI x y:=by
 obtain ⟨f,rfl,h1⟩:=hx.nat hb
 obtain ⟨g,rfl,h2⟩:=hy.nat hb'
 rw[SD h1 h2]
 refine ⟨fun j=>?_,by omega⟩
 unfold bt
 rw[Int.toNat_natCast,Int.toNat_natCast,Int.toNat_natCast,Nat.testBit_or,Bool.or_eq_true]
theorem BS.bit {a b:Nat} {x:Int} (h:BS a b x) (hb:b<=30) {j:Nat} (hj:j<64):zw x j=true↔bt x j:=by
 obtain ⟨f,rfl,h1⟩:=h.nat hb
 show ((nw (nr (f:Int) (j:Int)) 1)==1)=true↔_
 rw[Nw h1 hj];rfl
theorem Bk {n j:Nat} (hn:n<=30):bt (wU 1 (n:Int)) j↔j=n:=by
 rw[CD (by omega)]
 unfold bt
 rw[Int.toNat_natCast,Nat.testBit_two_pow,decide_eq_true_eq]
 exact eq_comm
theorem Ot {n:Nat} (hn:n<=30):BS n (n+1) (wU 1 (n:Int)):=⟨by rw[CD (by omega)];exact Int.natCast_nonneg _,fun j hj=>by rw[Bk hn] at hj;omega⟩
theorem Ou (F:List Int) (f t:Int): ∀n,n<=F.length-> ∀i:Nat,i<F.length->nth (lk F f t n) (i:Int)=if i<n/\zw f i=true then orI (nth F (i:Int)) t else nth F (i:Int)
 | 0,_,i,hi=>by rw[lk,if_neg (by omega)]
 | n+1,hn,i,hi=>by
  have ih:=Ou F f t n (by omega)
  rw[lk]
  by_cases c:zw f n=true
  ·rw[if_pos c]
   by_cases e:i=n
   ·subst e
    have h1:=rr (xs:=lk F f t i) (i:=(i:Int)) (x:=orI (nth (lk F f t i) (i:Int)) t) (by omega) (by rw[sU];omega)
    rw[Int.toNat_natCast] at h1
    rw[h1,ih i hi,if_neg (by omega),if_pos ⟨by omega,c⟩]
   ·have h1:=A5 (xs:=lk F f t n) (i:=(n:Int)) (j:=(i:Int)) (x:=orI (nth (lk F f t n) (n:Int)) t) (by omega) (by omega) (by omega)
    rw[Int.toNat_natCast] at h1
    rw[h1,ih i hi]
    by_cases c2:i<n/\zw f i=true
    ·rw[if_pos c2,if_pos ⟨by omega,c2.2⟩]
    ·rw[if_neg c2,if_neg (fun h=>c2 ⟨by omega,h.2⟩)]
  ·rw[if_neg c,ih i hi]
   by_cases c2:i<n/\zw f i=true
   ·rw[if_pos c2,if_pos ⟨by omega,c2.2⟩]
   ·rw[if_neg c2,if_neg (fun h=>c2 ⟨by
     by_cases e:i=n
     ·subst e;exact absurd h.2 c
     ·omega,h.2⟩)]
def FO (p:PosT) (i j:Nat):Prop:=bt (nth p.2.2.2.1 (i:Int)) j
def LT (p:PosT) (i:Nat):Nat:=(nth p.1 (i:Int)).toNat
structure Gl (p q:PosT) (nu:Bool) (fi la:Int) (A:Lg):Prop where
 le:p.1.length<=q.1.length
 len:q.2.2.2.1.length=q.1.length
 lets: ∀i:Nat,i<p.1.length->nth q.1 (i:Int)=nth p.1 (i:Int)
 keep: ∀i:Nat,i<p.1.length->nth q.2.2.2.1 (i:Int)=nth p.2.2.2.1 (i:Int)
 pos: ∀i:Nat,p.1.length<=i->i<q.1.length->0<=nth q.1 (i:Int)
 bfi:BS p.1.length q.1.length fi
 bla:BS p.1.length q.1.length la
 fo: ∀i:Nat,p.1.length<=i->i<q.1.length->BS p.1.length q.1.length (nth q.2.2.2.1 (i:Int))
 lang: ∀w,GL (nu=true) (bt fi) (bt la) (FO q) (LT q) w↔A w
theorem Gl.leaf {p:PosT} (hF:p.2.2.2.1.length=p.1.length) {nu:Bool} {A:Lg} (h: ∀w,(nu=true/\w= [])↔A w):Gl p p nu 0 0 A:=
 ⟨ay _,hF,fun _ _=>rfl,fun _ _=>rfl,fun i h1 h2=>by omega,.zero,.zero,fun i h1 h2=>by omega,fun w=>by
  rw[<-h w]
  exact ⟨fun h=>by
   rcases h with h | ⟨i,h,-⟩
   ·exact h
   ·exact absurd h zF,.inl⟩⟩
theorem zG {xs:List Int} {x:Int} {i:Nat} (h:i<xs.length):nth (xs++ [x]) (i:Int)=nth xs (i:Int):=by
 rw[br (by simp;omega),br h,List.getElem_append_left h]
theorem tM {xs:List Int} {x:Int} :nth (xs++ [x]) ((xs.length:Nat):Int)=x:=by
 rw[br (by simp)];simp
theorem Gl.letter {p:PosT} (hF:p.2.2.2.1.length=p.1.length) (hn:p.1.length<=30) {c:Int} (hc:0<=c) {A:Lg} (h: ∀w,A w↔w= [c.toNat]):Gl p (p.1++ [c],p.2.1,p.2.2.1,p.2.2.2.1++ [0],p.2.2.2.2) false (wU 1 (p.1.length:Int)) (wU 1 (p.1.length:Int)) A:=by
 have e0:nth (p.2.2.2.1++ [0]) (p.1.length:Int)=0:=by rw[<-hF];exact tM
 have hl:(p.1++ [c]).length=p.1.length+1:=by simp
 refine ⟨by simp,by simp[hF],fun i hi=>zG hi,fun i hi=>zG (by omega),fun i h1 h2=>?_,?_,?_,fun i h1 h2=>?_,fun w=>?_⟩
 ·obtain rfl:i=p.1.length:=by simp only[hl] at h2;omega
  show 0<=nth (p.1++ [c]) _
  rw[tM];exact hc
 ·rw[hl];exact Ot hn
 ·rw[hl];exact Ot hn
 ·obtain rfl:i=p.1.length:=by simp only[hl] at h2;omega
  show BS _ _ (nth (p.2.2.2.1++ [0]) _)
  rw[e0];exact .zero
 ·have eL:LT (p.1++ [c],p.2.1,p.2.2.1,p.2.2.2.1++ [0],p.2.2.2.2) p.1.length=c.toNat:=by
   show (nth (p.1++ [c]) _).toNat=_
   rw[tM]
  rw[h w]
  constructor
  ·rintro (⟨h1,-⟩ | ⟨i,h1,h2⟩)
   ·cases h1
   ·obtain rfl:=(Bk hn).1 h1
    cases h2 with
    | last _=>rw[eL]
    | cons h3 _ =>
     have h3:bt (nth (p.2.2.2.1++ [0]) (p.1.length:Int)) _:=h3
     rw[e0] at h3;exact absurd h3 zF
  ·rintro rfl
   refine .inr ⟨p.1.length,(Bk hn).2 rfl,?_⟩
   have h4:Pth (FO (p.1++ [c],p.2.1,p.2.2.1,p.2.2.2.1++ [0],p.2.2.2.2)) (LT (p.1++ [c],p.2.1,p.2.2.1,p.2.2.2.1++ [0],p.2.2.2.2)) (bt (wU 1 (p.1.length:Int))) p.1.length [LT (p.1++ [c],p.2.1,p.2.2.1,p.2.2.2.1++ [0],p.2.2.2.2) p.1.length]:=.last ((Bk hn).2 rfl)
   rw[eL] at h4;exact h4
section
variable {p q r:PosT} {nu nu2:Bool} {fi la fi2 la2:Int} {A B C:Lg} (a:Gl p q nu fi la A) (b:Gl q r nu2 fi2 la2 B) (hn:r.1.length<=30)
include a b hn
theorem Gl.first:(∀i:Nat,p.1.length<=i->i<q.1.length->nth r.2.2.2.1 (i:Int)=nth q.2.2.2.1 (i:Int))/\ ∀i:Nat,i<q.1.length->LT r i=LT q i:=
 ⟨fun i _ h=>b.keep i h,fun i h=>by unfold LT;rw[b.lets i h]⟩
theorem Gl.uni (hA: ∀w,A w\/B w↔C w):Gl p r (nu || nu2) (orI fi fi2) (orI la la2) C:=by
 have h1:=a.le
 have h2:=b.le
 obtain ⟨k1,k2⟩:=a.first b hn
 obtain ⟨f1,f2⟩:=a.bfi.or b.bfi (by omega) hn
 obtain ⟨l1,l2⟩:=a.bla.or b.bla (by omega) hn
 refine ⟨by omega,b.len,fun i hi=>(b.lets i (by omega)).trans (a.lets i hi),fun i hi=>(b.keep i (by omega)).trans (a.keep i hi),fun i h3 h4=>?_,⟨f2,fun j hj=>?_⟩,⟨l2,fun j hj=>?_⟩,fun i h3 h4=>?_,fun w=>?_⟩
 ·by_cases c:i<q.1.length
  ·rw[b.lets i c];exact a.pos i h3 c
  ·exact b.pos i (by omega) h4
 ·rcases (f1 j).1 hj with h | h
  ·have:=a.bfi.2 j h;omega
  ·have:=b.bfi.2 j h;omega
 ·rcases (l1 j).1 hj with h | h
  ·have:=a.bla.2 j h;omega
  ·have:=b.bla.2 j h;omega
 ·by_cases c:i<q.1.length
  ·rw[b.keep i c];exact (a.fo i h3 c).mono (ay _) h2
  ·exact (b.fo i (by omega) h4).mono h1 (ay _)
 ·have T:Two (fun i=>p.1.length<=i/\i<q.1.length) (fun i=>q.1.length<=i/\i<r.1.length) (FO r) (FO q) (FO r) (LT r) (LT q) (LT r) (bt fi) (bt fi2) (bt la) (bt la2):=⟨fun i j hs hf=>(a.fo i hs.1 hs.2).2 j hf,fun i j hs hf=>(b.fo i hs.1 hs.2).2 j hf,fun i hi=>a.bfi.2 i hi,fun i hi=>b.bfi.2 i hi,fun i hs=>k2 i hs.2,fun i hs=>rfl⟩
  have key:=Yk (la:=bt (orI la la2)) (fi:=bt (orI fi fi2)) (nuA:=nu=true) (nuB:=nu2=true) T (fun i j _=>Iff.rfl) (fun i hs=>by
   rw[l1]
   exact ⟨fun h=>h.resolve_left fun h=>by have:=(a.bla.2 i h).2;omega,.inr⟩) (fun i j hs=>by unfold FO;rw[k1 i hs.1 hs.2]) (fun i hs=>by
   rw[l1]
   exact ⟨fun h=>h.resolve_right fun h=>by have:=(b.bla.2 i h).1;omega,.inl⟩) (fun i=>f1 i) (w:=w)
  rw[a.lang,b.lang,hA] at key
  rw[<-key,Bool.or_eq_true]
theorem Gl.cat (hA: ∀w,tO A B w↔C w):Gl p (r.1,r.2.1,r.2.2.1,lk r.2.2.2.1 la fi2 r.2.2.2.1.length,r.2.2.2.2) (nu&&nu2) (if nu then orI fi fi2 else fi) (if nu2 then orI la la2 else la2) C:=by
 have h1:=a.le
 have h2:=b.le
 have hlen:=b.len
 obtain ⟨k1,k2⟩:=a.first b hn
 obtain ⟨f1,f2⟩:=a.bfi.or b.bfi (by omega) hn
 obtain ⟨l1,l2⟩:=a.bla.or b.bla (by omega) hn
 have nl: ∀i:Nat,i<r.1.length->nth (lk r.2.2.2.1 la fi2 r.2.2.2.1.length) (i:Int)=if zw la i=true then orI (nth r.2.2.2.1 (i:Int)) fi2 else nth r.2.2.2.1 (i:Int):=fun i hi=>by
  rw[Ou _ _ _ _ (ay _) i (by omega)]
  by_cases c:zw la i=true
  ·rw[if_pos c,if_pos ⟨by omega,c⟩]
  ·rw[if_neg c,if_neg (fun h=>c h.2)]
 have lb: ∀i:Nat,i<r.1.length->(zw la i=true↔bt la i):=fun i hi=>a.bla.bit (by omega) (by omega)
 have nA: ∀i:Nat,p.1.length<=i->i<q.1.length-> ∀j,(bt (nth (lk r.2.2.2.1 la fi2 r.2.2.2.1.length) (i:Int)) j↔bt (nth q.2.2.2.1 (i:Int)) j\/(bt la i/\bt fi2 j))/\0<=nth (lk r.2.2.2.1 la fi2 r.2.2.2.1.length) (i:Int):=fun i h3 h4 j=>by
  rw[nl i (by omega),k1 i h3 h4]
  obtain ⟨o1,o2⟩:=(a.fo i h3 h4).or b.bfi (by omega) hn
  by_cases c:zw la i=true
  ·rw[if_pos c,o1 j]
   have:=(lb i (by omega)).1 c
   exact ⟨⟨fun h=>h.imp id fun h=>⟨this,h⟩,fun h=>h.imp id (·.2)⟩,o2⟩
  ·rw[if_neg c]
   exact ⟨⟨.inl,fun h=>h.resolve_right fun h=>c ((lb i (by omega)).2 h.1)⟩,(a.fo i h3 h4).1⟩
 have nB: ∀i:Nat,q.1.length<=i->i<r.1.length->nth (lk r.2.2.2.1 la fi2 r.2.2.2.1.length) (i:Int)=nth r.2.2.2.1 (i:Int):=fun i h3 h4=>by
  rw[nl i h4,if_neg fun c=>by have:=(a.bla.2 i ((lb i h4).1 c)).2;omega]
 have nP: ∀i:Nat,i<p.1.length->nth (lk r.2.2.2.1 la fi2 r.2.2.2.1.length) (i:Int)=nth r.2.2.2.1 (i:Int):=fun i h3=>by
  rw[nl i (by omega),if_neg fun c=>by have:=(a.bla.2 i ((lb i (by omega)).1 c)).1;omega]
 have hfi: ∀j,bt (if nu then orI fi fi2 else fi) j↔bt fi j\/(nu=true/\bt fi2 j):=fun j=>by
  cases nu with
  | true=>rw[if_pos rfl,f1 j];simp
  | false=>rw[if_neg (by simp)];simp
 have hla: ∀j,bt (if nu2 then orI la la2 else la2) j↔bt la2 j\/(nu2=true/\bt la j):=fun j=>by
  cases nu2 with
  | true=>rw[if_pos rfl,l1 j];simp[or_comm]
  | false=>rw[if_neg (by simp)];simp
 refine ⟨by show p.1.length<=r.1.length;omega,by show (lk _ _ _ _).length=r.1.length;rw[sU];exact hlen,fun i hi=>(b.lets i (by omega)).trans (a.lets i hi),fun i hi=>(nP i hi).trans ((b.keep i (by omega)).trans (a.keep i hi)),fun i h3 h4=>?_,⟨?_,fun j hj=>?_⟩,⟨?_,fun j hj=>?_⟩,fun i h3 h4=>?_,fun w=>?_⟩
 ·by_cases c:i<q.1.length
  ·show 0<=nth r.1 (i:Int)
   rw[b.lets i c];exact a.pos i h3 c
  ·exact b.pos i (by omega) h4
 ·split
  ·exact f2
  ·exact a.bfi.1
 ·show p.1.length<=j/\j<r.1.length
  rcases (hfi j).1 hj with h | ⟨-,h⟩
  ·have:=a.bfi.2 j h;omega
  ·have:=b.bfi.2 j h;omega
 ·split
  ·exact l2
  ·exact b.bla.1
 ·show p.1.length<=j/\j<r.1.length
  rcases (hla j).1 hj with h | ⟨-,h⟩
  ·have:=b.bla.2 j h;omega
  ·have:=a.bla.2 j h;omega
 ·have h4:i<r.1.length:=h4
  show BS p.1.length r.1.length (nth (lk r.2.2.2.1 la fi2 r.2.2.2.1.length) (i:Int))
  by_cases c:i<q.1.length
  ·refine ⟨(nA i h3 c 0).2,fun j hj=>?_⟩
   rcases ((nA i h3 c j).1).1 hj with h | ⟨-,h⟩
   ·have:=(a.fo i h3 c).2 j h;omega
   ·have:=b.bfi.2 j h;omega
  ·rw[nB i (by omega) h4]
   exact (b.fo i (by omega) h4).mono h1 (ay _)
 ·have T:Two (fun i=>p.1.length<=i/\i<q.1.length) (fun i=>q.1.length<=i/\i<r.1.length) (FO (r.1,r.2.1,r.2.2.1,lk r.2.2.2.1 la fi2 r.2.2.2.1.length,r.2.2.2.2)) (FO q) (FO r) (LT (r.1,r.2.1,r.2.2.1,lk r.2.2.2.1 la fi2 r.2.2.2.1.length,r.2.2.2.2)) (LT q) (LT r) (bt fi) (bt fi2) (bt la) (bt la2):=⟨fun i j hs hf=>(a.fo i hs.1 hs.2).2 j hf,fun i j hs hf=>(b.fo i hs.1 hs.2).2 j hf,fun i hi=>a.bfi.2 i hi,fun i hi=>b.bfi.2 i hi,fun i hs=>k2 i hs.2,fun i hs=>rfl⟩
  have key:=Yj (la:=bt (if nu2 then orI la la2 else la2)) (fi:=bt (if nu then orI fi fi2 else fi)) (nuA:=nu=true) (nuB:=nu2=true) T (fun i j hs=>by
   show bt (nth (lk r.2.2.2.1 la fi2 r.2.2.2.1.length) (i:Int)) j↔_
   rw[nB i hs.1 hs.2];rfl) (fun i hs=>by
   rw[hla]
   exact ⟨fun h=>h.resolve_right fun h=>by have:=(a.bla.2 i h.2).2;omega,.inl⟩) (fun i j hs=>(nA i hs.1 hs.2 j).1) (fun i hs=>by
   rw[hla]
   exact ⟨fun h=>h.resolve_left fun h=>by have:=(b.bla.2 i h).1;omega,.inr⟩) hfi (w:=w)
  have e:tO (GL (nu=true) (bt fi) (bt la) (FO q) (LT q)) (GL (nu2=true) (bt fi2) (bt la2) (FO r) (LT r))=tO A B:=by
   rw[show GL (nu=true) (bt fi) (bt la) (FO q) (LT q)=A from funext fun w=>propext (a.lang w),show GL (nu2=true) (bt fi2) (bt la2) (FO r) (LT r)=B from funext fun w=>propext (b.lang w)]
  rw[e,hA] at key
  rw[<-key,ah]
end
theorem Gl.star {p q:PosT} {nu:Bool} {fi la:Int} {A C:Lg} (a:Gl p q nu fi la A) (hn:q.1.length<=30) (hA: ∀w,zi A w↔C w):Gl p (q.1,q.2.1,q.2.2.1,lk q.2.2.2.1 la fi q.2.2.2.1.length,q.2.2.2.2) true fi la C:=by
 have h1:=a.le
 have hlen:=a.len
 have lb: ∀i:Nat,i<q.1.length->(zw la i=true↔bt la i):=fun i hi=>a.bla.bit (by omega) (by omega)
 have nl: ∀i:Nat,i<q.1.length->nth (lk q.2.2.2.1 la fi q.2.2.2.1.length) (i:Int)=if zw la i=true then orI (nth q.2.2.2.1 (i:Int)) fi else nth q.2.2.2.1 (i:Int):=fun i hi=>by
  rw[Ou _ _ _ _ (ay _) i (by omega)]
  by_cases c:zw la i=true
  ·rw[if_pos c,if_pos ⟨by omega,c⟩]
  ·rw[if_neg c,if_neg (fun h=>c h.2)]
 have nA: ∀i:Nat,p.1.length<=i->i<q.1.length-> ∀j,(bt (nth (lk q.2.2.2.1 la fi q.2.2.2.1.length) (i:Int)) j↔bt (nth q.2.2.2.1 (i:Int)) j\/(bt la i/\bt fi j))/\0<=nth (lk q.2.2.2.1 la fi q.2.2.2.1.length) (i:Int):=fun i h3 h4 j=>by
  rw[nl i h4]
  obtain ⟨o1,o2⟩:=(a.fo i h3 h4).or a.bfi (by omega) (by omega)
  by_cases c:zw la i=true
  ·rw[if_pos c,o1 j]
   have:=(lb i h4).1 c
   exact ⟨⟨fun h=>h.imp id fun h=>⟨this,h⟩,fun h=>h.imp id (·.2)⟩,o2⟩
  ·rw[if_neg c]
   exact ⟨⟨.inl,fun h=>h.resolve_right fun h=>c ((lb i h4).2 h.1)⟩,(a.fo i h3 h4).1⟩
 refine ⟨a.le,by show (lk _ _ _ _).length=q.1.length;rw[sU];exact hlen,a.lets,fun i hi=>?_,a.pos,a.bfi,a.bla,fun i h3 h4=>⟨(nA i h3 h4 0).2,fun j hj=>?_⟩,fun w=>?_⟩
 ·show nth (lk q.2.2.2.1 la fi q.2.2.2.1.length) (i:Int)=_
  rw[nl i (by omega),if_neg fun c=>by have:=(a.bla.2 i ((lb i (by omega)).1 c)).1;omega]
  exact a.keep i hi
 ·rcases ((nA i h3 h4 j).1).1 hj with h | ⟨-,h⟩
  ·exact (a.fo i h3 h4).2 j h
  ·exact a.bfi.2 j h
 ·have key:=VN (F:=FO q) (F':=FO (q.1,q.2.1,q.2.2.1,lk q.2.2.2.1 la fi q.2.2.2.1.length,q.2.2.2.2)) (lt:=LT q) (fi:=bt fi) (la:=bt la) (S:=fun i=>p.1.length<=i/\i<q.1.length) (nu:=nu=true) (fun i j hs=>(nA i hs.1 hs.2 j).1) (fun i j hs hf=>(a.fo i hs.1 hs.2).2 j hf) (fun i hi=>a.bfi.2 i hi) (w:=w)
  rw[show GL (nu=true) (bt fi) (bt la) (FO q) (LT q)=A from funext fun w=>propext (a.lang w),hA] at key
  rw[<-key]
  exact ⟨fun h=>h.imp (fun h=>⟨trivial,h.2⟩) id,fun h=>h.imp (fun h=>⟨rfl,h.2⟩) id⟩
def cx (x:Tr Tok):Nat:=(flat x).countP fun t=>decide (t.1=3)
def N7 (x:Tr Tok):Prop:= ∀t∈flat x,t.1≠7
theorem cx0 (t:Tok):cx (.node t [])=if t.1=3 then 1 else 0:=by unfold cx;rw[rv];by_cases c:t.1=3 <;> simp[c]
theorem cx1 (t:Tok) (a:Tr Tok):cx (.node t [a])=cx a+if t.1=3 then 1 else 0:=by unfold cx;rw[pb,List.countP_append];by_cases c:t.1=3 <;> simp[c]
theorem cx2 (t:Tok) (a b:Tr Tok):cx (.node t [a,b])=cx a+cx b+if t.1=3 then 1 else 0:=by unfold cx;rw[kl,List.countP_append,List.countP_append];by_cases c:t.1=3 <;> simp[c]
theorem aaf {x:Tr Tok} (hx:N7 x): ∀(h:Nat) (low:Int),N7 (A7 x h low)
 | 0,low=>by unfold N7;rw[A7,rA];simp
 | h+1,low=>by
  have ih:=aaf hx h (max 0 (low - 1))
  unfold N7 at hx ih⊢
  rw[A7]
  split
  ·rw[kl]
   intro t ht
   simp only[List.mem_append,List.mem_singleton] at ht
   rcases ht with (ht | ht) | rfl
   ·exact hx t ht
   ·exact ih t ht
   ·simp
  ·rw[kl,kl,rA]
   intro t ht
   simp only[List.mem_append,List.mem_singleton] at ht
   rcases ht with (((ht | ht) | rfl) | rfl) | rfl
   ·exact hx t ht
   ·exact ih t ht
   all_goals simp
theorem aau {x:Tr Tok} (h:WT x):N7 (rz x):=by
 refine WT.ind (p:=fun x=>N7 (rz x)) ?_ ?_ ?_ h
 ·intro t e u hu
  have:=no7 (.inr e)
  rw[Wc this,rv] at hu
  rw[ak hu];exact this
 ·intro t a e wa ih
  rw[Wb]
  split
  ·exact aaf ih _ _
  ·rename_i c
   intro u hu
   rw[pb] at hu
   rcases aH hu with hu | hu
   ·exact ih u hu
   ·rw[ak hu];exact c
 ·intro t a b e wa wb iha ihb u hu
  have:=no7 (.inl e)
  rw[exp2 this,kl] at hu
  simp only[List.mem_append,List.mem_singleton] at hu
  rcases hu with (hu | hu) | rfl
  ·exact iha u hu
  ·exact ihb u hu
  ·exact this
theorem VQ {t:Tok} (h:0<=ar t) (k:t.1=3):0<=t.2.1/\t.2.1<=8:=by
 unfold ar at h
 grind
def BLa (x:Tr Tok):Prop:= ∀(n:Nat) (p:PosT),(flat x).length<=n->(flat x).length<=100000->p.2.2.2.1.length=p.1.length->p.1.length+cx x<=20->N7 x->
 ∃(nu:Bool) (fi la:Int) (q:PosT),bR n p (flat x)=some ((nu,fi,la),q)/\q.1.length=p.1.length+cx x/\Gl p q nu fi la (LX x)
theorem J8 {x:Tr Tok} (h:WT x):BLa x:=by
 refine WT.ind (p:=BLa) ?_ ?_ ?_ h
 ·intro t e n p hn hl hF hc h7
  rw[cx0] at hc⊢
  rw[rv] at hn hl⊢
  match n,hn with
  | n+1,_ =>
   rw[bR]
   have:=(eH (A:=[]) (t:=t) (by simp)).1
   rw[List.nil_append] at this
   rw[this];simp only[aa,jB]
   rcases dY (show 0<=ar t by omega) with ⟨k,_⟩ | ⟨k,_⟩ | ⟨_,k⟩
   ·omega
   ·omega
   rcases k with k | k | k
   ·refine ⟨false,0,0,p,by simp[k],by simp[k],Gl.leaf hF fun w=>?_⟩
    rw[LX0];simp[opL,k]
   ·refine ⟨true,0,0,p,by simp[k],by simp[k],Gl.leaf hF fun w=>?_⟩
    rw[LX0];simp[opL,k]
   ·have h3:=VQ (show 0<=ar t by omega) k
    rw[if_pos k] at hc
    refine ⟨false,wU 1 (p.1.length:Int),wU 1 (p.1.length:Int),(p.1++ [t.2.1],p.2.1,p.2.2.1,p.2.2.2.1++ [0],p.2.2.2.2),?_,by simp[k],Gl.letter hF (by omega) h3.1 fun w=>?_⟩
    ·rw[if_neg (by simp[k]),if_pos (by simp[k]),aJ (by simp;omega)];simp only[aa]
     rw[aJ (by simp;omega)];rfl
    ·rw[LX0];simp[opL,k]
 ·intro t a e wa ih n p hn hl hF hc h7
  rw[cx1] at hc⊢
  rw[pb] at hn hl⊢
  simp only[al,aB,aA] at hn hl
  match n,hn with
  | n+1,hn =>
   rw[bR]
   obtain ⟨l1,l2⟩:=eH (A:=flat a) (t:=t) (by omega)
   rw[l1];simp only[aa]
   have h7a:N7 a:=fun u hu=>h7 u (by rw[pb];exact aT _ hu)
   have h7t:t.1≠7:=h7 t (by rw[pb];simp)
   obtain ⟨nu,fi,la,q,hs,hq,hg⟩:=ih n p (by omega) (by omega) hF (by omega) h7a
   rcases Ep e with ⟨k1,k2⟩ | ⟨k1,k2,k3⟩
   ·have g2:(t.1==2)=false:=by simp[k2]
    have g3:(t.1==3)=false:=by simp[k2]
    have g4:(t.1==4)=false:=by simp[k2]
    have g5:(t.1==5)=false:=by simp[k2]
    simp only[g2,g3,g4,g5,k1,Bool.false_eq_true,if_false,if_true]
    rw[l2,Int.toNat_natCast,List.take_left,dZ (by simp only[al,aB,aA];omega)];simp only[aa]
    rw[hs];simp only[aa,jB]
    have hql:=hg.len
    rw[Iw (by omega)];simp only[aa]
    refine ⟨true,fi,la,_,rfl,?_,hg.star (by omega) fun w=>?_⟩
    ·rw[if_neg (by omega)];exact hq
    ·rw[LX1];simp[opL,k2]
   ·exact absurd k3 h7t
 ·intro t a b e wa wb iha ihb n p hn hl hF hc h7
  rw[cx2] at hc⊢
  rw[kl] at hn hl⊢
  have hl2:((flat a++flat b)++ [t]).length<=1000000:=by omega
  obtain ⟨p1,p2,p3,p4⟩:=pc (a:=a) (t:=t) wb hl2
  simp only[al,aB,aA] at hn hl
  match n,hn with
  | n+1,hn =>
   have hpa:=wa.pos
   have hpb:=wb.pos
   have h7a:N7 a:=fun u hu=>h7 u (by rw[kl];simp[hu])
   have h7b:N7 b:=fun u hu=>h7 u (by rw[kl];simp[hu])
   rw[bR]
   obtain ⟨l1,l2⟩:=eH (A:=flat a++flat b) (t:=t) (by rw[al];omega)
   rw[l1];simp only[aa]
   obtain ⟨nu,fi,la,q,hs,hq,hg⟩:=iha n p (by omega) (by omega) hF (by omega) h7a
   have hql:=hg.len
   obtain ⟨nu2,fi2,la2,q2,hs2,hq2,hg2⟩:=ihb n q (by omega) (by omega) hql (by omega) h7b
   have hql2:=hg2.len
   have hc3:(if t.1=3 then 1 else 0)=0:=if_neg (by
    rcases dY (show 0<=ar t by omega) with ⟨_,k | k⟩ | ⟨k,_⟩ | ⟨k,_⟩ <;> omega)
   rcases dY (show 0<=ar t by omega) with ⟨_,k⟩ | ⟨k,_⟩ | ⟨k,_⟩
   ·rcases k with k | k
    ·have g2:(t.1==2)=false:=by simp[k]
     have g3:(t.1==3)=false:=by simp[k]
     have g4:(t.1==4)=true:=by simp[k]
     have g5:(t.1==5)=false:=by simp[k]
     simp only[g2,g3,g4,g5,Bool.false_eq_true,if_false,if_true]
     rw[l2,p1,p2,dZ (by simp only[al,aB,aA];omega)];simp only[aa]
     rw[dZ (by simp only[al,aB,aA];omega),p3,p4,hs];simp only[aa]
     rw[dZ (by simp only[al,aB,aA];omega)];simp only[aa,jB]
     rw[hs2];simp only[aa,jB]
     rw[Iw (by omega)];simp only[aa]
     refine ⟨nu&&nu2,if nu then orI fi fi2 else fi,if nu2 then orI la la2 else la2,(q2.1,q2.2.1,q2.2.2.1,lk q2.2.2.2.1 la fi2 q2.2.2.2.1.length,q2.2.2.2.2),?_,?_,hg.cat hg2 (by omega) fun w=>?_⟩
     ·cases nu <;> cases nu2 <;> rfl
     ·rw[hc3];show q2.1.length=_;omega
     ·rw[LX2];simp[opL,k]
    ·have g2:(t.1==2)=false:=by simp[k]
     have g3:(t.1==3)=false:=by simp[k]
     have g4:(t.1==4)=false:=by simp[k]
     have g5:(t.1==5)=true:=by simp[k]
     simp only[g2,g3,g4,g5,Bool.false_eq_true,if_false,if_true]
     rw[l2,p1,p2,dZ (by simp only[al,aB,aA];omega)];simp only[aa]
     rw[dZ (by simp only[al,aB,aA];omega),p3,p4,hs];simp only[aa]
     rw[dZ (by simp only[al,aB,aA];omega)];simp only[aa,jB]
     rw[hs2];simp only[aa,jB]
     refine ⟨nu || nu2,orI fi fi2,orI la la2,q2,?_,?_,hg.uni hg2 (by omega) fun w=>?_⟩
     ·cases nu <;> simp
     ·rw[hc3];omega
     ·rw[LX2];simp[opL,k]
   ·omega
   ·omega
end D
namespace D
open Go.RowKit
section
variable {a:AutT} (V:VA a a.2.1.length) (hn:a.2.1.length<=12) (hs:Data.sm a)
include V hn hs
end
end D
namespace D
open Go.RowKit
def Step (a:AutT) (x y:Int):Prop:= ∃k:Nat,k<9/\mv a x k=y/\0<=y
section
variable {a:AutT} {n:Nat}
theorem Ov (V:VA a n) {x y:Int} (h0:0<=x) (h1:x<n) (h:Step a x y):0<=y/\y<n:=by
 obtain ⟨k,hk,rfl,hy⟩:=h
 exact ⟨hy,(V.mv h0 h1 hk).2⟩
theorem RB (V:VA a n) {x y:Int} (h0:0<=x) (h1:x<n) (h:Relation.TransGen (Step a) x y):0<=y/\y<n:=by
 induction h with
 | single h=>exact Ov V h0 h1 h
 | tail _ h ih=>exact Ov V ih.1 ih.2 h
end
section
variable {a:AutT} {n:Nat}
end
end D
namespace D
open Go.RowKit
theorem EO {a:AutT} {out:List Bool} {s:Nat} : ∀d,s+d<=out.length->cnt (fV a out s)<=cnt (fV a out (s+d))
 | 0,_=>ay _
 | d+1,hd=>by
  have ih:=EO (a:=a) (out:=out) (s:=s) d (by omega)
  rw[show s+(d+1)=(s+d)+1 from rfl,fV]
  rcases rF (a:=a) (out:=fV a out (s+d)) (s:=s+d) (by rw[iT];omega) with ⟨e,-⟩ | ⟨e,-,-⟩
  ·rw[e];exact ih
  ·omega
section
variable {a:AutT} {n:Nat}
theorem zH (V:VA a n) {s t:Int} (s0:0<=s) (s1:s<n) (h:Step a s t) (ht:nth (live a) t=true):nth (live a) s=true:=by
 have hn:=V.len
 have hll:=pQ a
 have hf:fV a (live a) a.2.1.length=live a:=NT a
 have same: ∀i,i<=a.2.1.length->fV a (live a) i=live a:=fun i hi=>by
  rcases sk (a:=a) (out:=live a) i (by omega) with e | e
  ·exact e.1
  ·have:=EO (a:=a) (out:=live a) (s:=i) (a.2.1.length - i) (by omega)
   rw[show i+(a.2.1.length - i)=a.2.1.length by omega,hf] at this
   omega
 have h1:=same (s.toNat+1) (by omega)
 rw[fV,same s.toNat (by omega)] at h1
 have hh:hit (live a) (nth a.2.2 ((s.toNat:Nat):Int))=true:=by
  rw[show ((s.toNat:Nat):Int)=s by omega]
  obtain ⟨k,hk,e,h0⟩:=h
  unfold hit
  rw[List.any_eq_true]
  refine ⟨t,?_,?_⟩
  ·rw[<-e];exact cO (by omega) (by rw[V.rowAt s0 s1];omega)
  ·unfold Kh;simp[h0,ht]
 unfold rE at h1
 rw[if_pos hh] at h1
 rw[<-h1]
 exact rr s0 (by omega)
theorem J9 (V:VA a n) {s t:Int} (s0:0<=s) (s1:s<n) (h:Relation.TransGen (Step a) s t):nth (live a) t=true->nth (live a) s=true:=by
 induction h with
 | single h=>exact fun ht=>zH V s0 s1 h ht
 | tail h k ih =>
  have hb:=RB V s0 s1 h
  exact fun ht=>ih (zH V hb.1 hb.2 k ht)
end
end D
namespace D
open Go.RowKit
section
variable {a:AutT} {n:Nat}
def In1 (n:Nat) (s:Int):Prop:= -1<=s/\s<n
theorem VR (V:VA a n) {s:Int} (h:In1 n s) {k:Nat} (hk:k<9):In1 n (mvn a s k):=by
 unfold mvn
 split
 ·exact ⟨Int.le_refl _,by omega⟩
 ·exact V.mv (by omega) h.2 hk
theorem SS (V:VA a n): ∀(w:List Nat) {x:Int},(∀k∈w,k<9)->0<=x->x<n->0<=qq a x w->qq a x w=x/\w= [] \/Relation.TransGen (Step a) x (qq a x w)
 | [],x,_,_,_,_=>.inl ⟨rfl,rfl⟩
 | k::w,x,hw,h0,h1,h=>by
  have hk:k<9:=hw k (by simp)
  have em:mvn a x k=mv a x k:=by unfold mvn;rw[if_neg (by omega)]
  have e:qq a x (k::w)=qq a (mv a x k) w:=by show qq a (mvn a x k) w=_;rw[em]
  rw[e] at h⊢
  have hm:0<=mv a x k:=by
   rcases Int.lt_or_le (mv a x k) 0 with q | q
   ·have:=CT a w _ q;omega
   ·exact q
  have st:Step a x (mv a x k):=⟨k,hk,rfl,hm⟩
  rcases SS V w (x:=mv a x k) (fun j hj=>hw j (ba _ hj)) hm (V.mv h0 h1 hk).2 h with ⟨q,-⟩ | q
  ·right;rw[q];exact .single st
  ·right;exact Relation.TransGen.trans (.single st) q
theorem GM {out:List Bool} {s:Nat} {t:Int} (t0:0<=t) (h:nth out t=true):nth (rE a out s) t=true:=by
 unfold rE
 split
 ·by_cases e:(s:Int)=t
  ·subst e
   by_cases hl:s<out.length
   ·rw[br (by rw[List.length_set];exact hl)];simp
   ·rw[List.set_eq_of_length_le (by omega)];exact h
  ·have:=A5 (xs:=out) (x:=true) (i:=(s:Int)) (j:=t) (by omega) t0 e
   have h2:nth (out.set s true) t=nth out t:=by simpa using this
   rw[h2];exact h
 ·exact h
theorem Ow {t:Int} (t0:0<=t) (h:nth a.2.1 t=true): ∀j,nth (it a j) t=true
 | 0=>h
 | j+1=>by
  have key: ∀m,nth (fV a (it a j) m) t=true:=by
   intro m
   induction m with
   | zero=>exact Ow t0 h j
   | succ m ih=>exact GM t0 ih
  exact key _
theorem EP (V:VA a n) {w:List Nat} {s:Int} (hw: ∀k∈w,k<9) (h0:0<=s) (h1:s<n) (h:acn a (qq a s w)=true):nth (live a) s=true:=by
 have hr:0<=qq a s w:=by
  unfold acn at h
  split at h
  ·cases h
  ·omega
 have hl:nth (live a) (qq a s w)=true:=Ow hr (by
  unfold acn at h
  rw[if_neg (by omega)] at h;exact h) _
 rcases SS V w hw h0 h1 hr with ⟨q,-⟩ | q
 ·rw[q] at hl;exact hl
 ·exact J9 V h0 h1 q hl
end
section
variable {a:AutT} {n:Nat}
end
end D
namespace D
open Go.RowKit
theorem Ka {a:AutT} {n:Nat} (V:VA a n) {c:List Int} {nx:Int->List (Option Int)} {ac:Int->Bool} (hnx: ∀r,good n (live a) r->nx (nth c r)=rG a c (live a) r) (hac: ∀r,good n (live a) r->ac (nth c r)=nth a.2.1 r):Quot a nx ac (fun s=>nth c s) (good n (live a)) (In1 n):=by
 have hs: ∀(s:Int) (k:Nat),k<9->nth (rG a c (live a) s) (k:Int)=if 0<=mv a s k/\nth (live a) (mv a s k)=true then some (nth c (mv a s k)) else none:=fun s k hk=>by
  unfold rG;rw[br (by simpa using hk)];simp
 refine ⟨⟨by have:=V.start;omega,V.start.2⟩,fun s k hi hk=>VR V hi hk,fun s h=>h.1,fun s k h hk hg=>?_,fun s k h hk hg=>?_,fun s h=>hac s h,fun s k hi hk hb hg=>?_,fun s hi hb=>?_⟩
 ·show nth (nx (nth c s)) (k:Int)=_
  rw[hnx s h,hs s k hk,if_pos ⟨hg.1,hg.2.2⟩]
 ·show nth (nx (nth c s)) (k:Int)=_
  rw[hnx s h,hs s k hk,if_neg fun q=>hg ⟨q.1,(V.mv h.1 h.2.1 hk).2,q.2⟩]
 ·rcases Int.lt_or_le s 0 with q | q
  ·have:mvn a s k= -1:=by unfold mvn;rw[if_pos q]
   rw[this] at hg
   have:=hg.1;omega
  ·have e:mvn a s k=mv a s k:=by unfold mvn;rw[if_neg (by omega)]
   rw[e] at hg
   exact hb ⟨q,hi.2,zH V q hi.2 ⟨k,hk,rfl,hg.1⟩ hg.2.2⟩
 ·rcases Int.lt_or_le s 0 with q | q
  ·unfold acn;rw[if_pos q]
  ·cases h:acn a s with
   | false=>rfl
   | true=>exact absurd ⟨q,hi.2,EP V (w:=[]) (fun k hk=>by cases hk) q hi.2 h⟩ hb
theorem Ox {a r:AutT} {n N:Nat} (V:VA a n) {c:List Int} {nx:Int->List (Option Int)} {ac:Int->Bool} (hnx: ∀r,good n (live a) r->nx (nth c r)=rG a c (live a) r) (hac: ∀r,good n (live a) r->ac (nth c r)=nth a.2.1 r) (hs:nth (live a) a.1=true) (H:NumA r nx (nth c a.1) ac N) {w:List Nat} (hw: ∀k∈w,k<9):acw r w=acw a w:=
 (Ka V hnx hac).acw ⟨V.start.1,V.start.2,hs⟩ H hw
theorem IE {a:AutT} {n:Nat} (V:VA a n) (hs:nth (live a) a.1=false) {w:List Nat} (hw: ∀k∈w,k<9):acw a w=false:=by
 cases h:acw a w with
 | false=>rfl
 | true =>
  have:=EP V hw V.start.1 V.start.2 h
  rw[hs] at this;cases this
end D
namespace D
open Go.RowKit
section
variable {a b:AutT} {n m:Nat}
end
section
variable {κ μ:Type} [DecidableEq κ] [DecidableEq μ] {f:κ->μ}
variable {nx:κ->List (Option κ)} {nx':μ->List (Option μ)} {first:κ}
end
end D
namespace D
open Go.RowKit
theorem GN {w:List Nat} (hw: ∀k∈w,k<9):acw nothing w=false:=IE Bh (by decide) hw
theorem VS {a r:AutT} {n:Nat} (V:VA a n) (h:aae a n r) {w:List Nat} (hw: ∀k∈w,k<9):acw r w=acw a w:=by
 rcases h with ⟨hs,rfl⟩ | ⟨hs,j,c,nx,ac,N,-,hnx,hac,hE,hl,rfl⟩
 ·rw[IE V hs hw,GN hw]
 ·exact Ox V hnx hac hs ⟨hE,rfl,rfl,rfl,hl⟩ hw
end D
namespace D
open Go.RowKit
structure PosOk (p:PosT):Prop where
 n20:p.1.length<=20
 len:p.2.2.2.1.length=p.1.length
 fi:BS 0 p.1.length p.2.1
 la:BS 0 p.1.length p.2.2.1
 fo: ∀i:Nat,i<p.1.length->BS 0 p.1.length (nth p.2.2.2.1 (i:Int))
 pos: ∀i:Nat,i<p.1.length->0<=nth p.1 (i:Int)
theorem ER {F:List Int} {n:Nat} (hn:n<=20) (hF:F.length=n) (hfo: ∀i:Nat,i<n->BS 0 n (nth F (i:Int))) {s m0:Int} (hs:BS 0 (n+1) s) (hm:BS 0 n m0): ∀i,i<=n->BS 0 n (GC F s m0 i)/\ ∀j,bt (GC F s m0 i) j↔bt m0 j\/ ∃i',i'<i/\bt s (i'+1)/\bt (nth F (i':Int)) j
 | 0,_=>⟨hm,fun j=>by
  show bt m0 j↔_
  constructor
  ·exact .inl
  ·rintro (h | ⟨i',h,-⟩)
   ·exact h
   ·omega⟩
 | i+1,hi=>by
  obtain ⟨h1,h2⟩:=ER hn hF hfo hs hm i (by omega)
  rw[GC]
  have hb:=hs.bit (j:=i+1) (by omega) (by omega)
  by_cases c:zw s (i+1)=true
  ·rw[if_pos c]
   obtain ⟨o1,o2⟩:=h1.or (hfo i (by omega)) (by omega) (by omega)
   have key: ∀j,bt (orI (GC F s m0 i) (nth F (i:Int))) j↔bt m0 j\/ ∃i',i'<i+1/\bt s (i'+1)/\bt (nth F (i':Int)) j:=fun j=>by
    rw[o1,h2]
    constructor
    ·rintro ((h | ⟨i',h,k⟩) | h)
     ·exact .inl h
     ·exact .inr ⟨i',by omega,k⟩
     ·exact .inr ⟨i,by omega,hb.1 c,h⟩
    ·rintro (h | ⟨i',h,k1,k2⟩)
     ·exact .inl (.inl h)
     ·by_cases e:i'=i
      ·subst e;exact .inr k2
      ·exact .inl (.inr ⟨i',by omega,k1,k2⟩)
   exact ⟨⟨o2,fun j hj=>by
    rcases (o1 j).1 hj with h | h
    ·exact h1.2 j h
    ·exact (hfo i (by omega)).2 j h⟩,key⟩
  ·rw[if_neg c]
   refine ⟨h1,fun j=>?_⟩
   rw[h2]
   constructor
   ·rintro (h | ⟨i',h,k⟩)
    ·exact .inl h
    ·exact .inr ⟨i',by omega,k⟩
   ·rintro (h | ⟨i',h,k1,k2⟩)
    ·exact .inl h
    ·by_cases e:i'=i
     ·subst e;exact absurd (hb.2 k1) c
     ·exact .inr ⟨i',by omega,k1,k2⟩
theorem ES {L:List Int} {n:Nat} (hn:n<=20) {m k:Int} (hm:BS 0 n m): ∀i,i<=n->BS 1 (n+1) (pick L m k i)/\ ∀j,bt (pick L m k i) (j+1)↔j<i/\nth L (j:Int)=k/\bt m j
 | 0,_=>⟨.zero,fun j=>by
  show bt 0 (j+1)↔_
  constructor
  ·intro h;exact absurd h zF
  ·rintro ⟨h,-⟩;omega⟩
 | i+1,hi=>by
  obtain ⟨h1,h2⟩:=ES hn hm i (by omega)
  rw[pick]
  have hb:=hm.bit (j:=i) (by omega) (by omega)
  by_cases c:nth L (i:Int)=k/\zw m i=true
  ·rw[if_pos c]
   have h3:BS (i+1) (i+1+1) (wU 1 ((i+1:Nat):Int)):=Ot (by omega)
   obtain ⟨o1,o2⟩:=h1.or h3 (by omega) (by omega)
   refine ⟨⟨o2,fun j hj=>?_⟩,fun j=>?_⟩
   ·rcases (o1 j).1 hj with h | h
    ·exact h1.2 j h
    ·have:=h3.2 j h;omega
   ·rw[o1,h2,Bk (by omega)]
    constructor
    ·rintro (⟨q1,q2⟩ | h)
     ·exact ⟨by omega,q2⟩
     ·obtain rfl:j=i:=by omega
      exact ⟨by omega,c.1,hb.1 c.2⟩
    ·rintro ⟨q1,q2⟩
     by_cases e:j=i
     ·exact .inr (by omega)
     ·exact .inl ⟨by omega,q2⟩
  ·rw[if_neg c]
   refine ⟨h1,fun j=>?_⟩
   rw[h2]
   constructor
   ·rintro ⟨q1,q2⟩
    exact ⟨by omega,q2⟩
   ·rintro ⟨q1,q2,q3⟩
    by_cases e:j=i
    ·subst e;exact absurd ⟨q2,hb.2 q3⟩ c
    ·exact ⟨by omega,q2,q3⟩
theorem aag {n:Nat} {s:Int} (hs:BS 0 n s) (hn:n<=30):((nw s 1)==1)=true↔bt s 0:=by
 obtain ⟨f,rfl,h1⟩:=hs.nat hn
 rw[show (1:Int)=((1:Nat):Int) from rfl,Gr h1 (by decide)]
 unfold bt
 rw[Int.toNat_natCast,Nat.testBit_zero,Nat.and_one_is_mod,decide_eq_true_eq]
 rw[beq_iff_eq]
 omega
theorem meet {n m:Nat} {s l:Int} (hs:BS 0 n s) (hl:BS 0 m l) (hn:n<=30) (hm:m<=30):((nw (nr s 1) l) !=0)=true↔ ∃i,bt s (i+1)/\bt l i:=by
 obtain ⟨f,rfl,h1⟩:=hs.nat hn
 obtain ⟨g,rfl,h2⟩:=hl.nat hm
 have h3:f >>> 1<2 ^ 62:=Nat.lt_of_le_of_lt (by rw[Nat.shiftRight_eq_div_pow];exact Nat.div_le_self _ _) h1
 rw[show (1:Int)=((1:Nat):Int) from rfl,Nv (by decide),Gr h3 h2]
 rw[bne_iff_ne]
 unfold bt
 simp only[Int.toNat_natCast]
 constructor
 ·intro h
  apply Classical.byContradiction
  intro hc
  refine h ?_
  have:f >>> 1 &&& g=0:=Nat.eq_of_testBit_eq fun i=>by
   rw[Nat.testBit_and,Nat.testBit_shiftRight,Nat.zero_testBit]
   cases c1:f.testBit (1+i) with
   | false=>rfl
   | true =>
    cases c2:g.testBit i with
    | false=>rfl
    | true=>exact absurd ⟨i,by rw[Nat.add_comm];exact c1,c2⟩ hc
  rw[this];rfl
 ·rintro ⟨i,k1,k2⟩ h
  have h:f >>> 1 &&& g=0:=by omega
  have:(f >>> 1 &&& g).testBit i=true:=by
   rw[Nat.testBit_and,Nat.testBit_shiftRight,Nat.add_comm,k1,k2];rfl
  rw[h] at this;simp at this
section
variable {p:PosT} (H:PosOk p)
include H
theorem RC {s k:Int} (hs:BS 0 (p.1.length+1) s):BS 1 (p.1.length+1) (aft p s k)/\ ∀j,bt (aft p s k) (j+1)↔j<p.1.length/\nth p.1 (j:Int)=k/\((bt s 0/\bt p.2.1 j)\/ ∃i,i<p.1.length/\bt s (i+1)/\FO p i j):=by
 have hn:=H.n20
 unfold aft
 have h0:=aag hs (by omega)
 have hm:BS 0 p.1.length (if (nw s 1)==1 then p.2.1 else 0):=by
  split
  ·exact H.fi
  ·exact .zero
 obtain ⟨g1,g2⟩:=ER hn H.len H.fo hs hm p.2.2.2.1.length (by rw[H.len];omega)
 obtain ⟨k1,k2⟩:=ES (L:=p.1) (k:=k) hn g1 p.1.length (ay _)
 refine ⟨k1,fun j=>?_⟩
 rw[k2,g2,H.len]
 have:bt (if (nw s 1)==1 then p.2.1 else 0) j↔bt s 0/\bt p.2.1 j:=by
  by_cases c:((nw s 1)==1)=true
  ·rw[if_pos c];exact ⟨fun h=>⟨h0.1 c,h⟩,(·.2)⟩
  ·rw[if_neg c];exact ⟨fun h=>absurd h zF,fun h=>absurd (h0.2 h.1) c⟩
 rw[this];rfl
theorem RD {s:Int} (hs:BS 0 (p.1.length+1) s):kK p s=true↔(bt s 0/\p.2.2.2.2=true)\/ ∃i,bt s (i+1)/\bt p.2.2.1 i:=by
 have hn:=H.n20
 unfold kK
 have h0:=aag hs (by omega)
 have h1:=meet hs H.la (by omega) (by omega)
 by_cases c:((nw s 1)==1)=true
 ·rw[if_pos c]
  cases hnu:p.2.2.2.2 with
  | true=>simp only[if_true];exact ⟨fun _=>.inl ⟨h0.1 c,trivial⟩,fun _=>trivial⟩
  | false=>simp only[Bool.false_eq_true,if_false,and_false,false_or];exact h1
 ·rw[if_neg c,h1]
  exact ⟨.inr,fun h=>h.resolve_left fun h=>c (h0.2 h.1)⟩
theorem Oy: ∀(w:List Nat) (s:Int),BS 0 (p.1.length+1) s->(kK p (Ki p s w)=true↔(bt s 0/\GL (p.2.2.2.2=true) (bt p.2.1) (bt p.2.2.1) (FO p) (LT p) w)\/ ∃i,i<p.1.length/\bt s (i+1)/\((w= [] /\bt p.2.2.1 i)\/ ∃j,FO p i j/\Pth (FO p) (LT p) (bt p.2.2.1) j w))
 | [],s,hs=>by
  show kK p s=true↔_
  rw[RD H hs]
  constructor
  ·rintro (⟨h1,h2⟩ | ⟨i,h1,h2⟩)
   ·exact .inl ⟨h1,.inl ⟨h2,rfl⟩⟩
   ·exact .inr ⟨i,(H.la.2 i h2).2,h1,.inl ⟨rfl,h2⟩⟩
  ·rintro (⟨h1,⟨h2,-⟩ | ⟨i,-,h2⟩⟩ | ⟨i,-,h1,⟨-,h2⟩ | ⟨j,-,h2⟩⟩)
   ·exact .inl ⟨h1,h2⟩
   ·exact absurd rfl h2.ne
   ·exact .inr ⟨i,h1,h2⟩
   ·exact absurd rfl h2.ne
 | k::w,s,hs=>by
  obtain ⟨a1,a2⟩:=RC H (k:=(k:Int)) hs
  show kK p (Ki p (aft p s (k:Int)) w)=true↔_
  rw[Oy w _ (a1.mono (by omega) (ay _))]
  have hk: ∀j,j<p.1.length->(nth p.1 (j:Int)=(k:Int)↔LT p j=k):=fun j hj=>by
   have:=H.pos j hj
   unfold LT;omega
  constructor
  ·rintro (⟨h1,-⟩ | ⟨j,h1,h2,h3⟩)
   ·have:=(a1.2 0 h1).1;omega
   ·obtain ⟨b1,b2,b3⟩:=(a2 j).1 h2
    have hp:Pth (FO p) (LT p) (bt p.2.2.1) j (k::w):=Pth.iff.2 ⟨(hk j h1).1 b2,h3⟩
    rcases b3 with ⟨b3,b4⟩ | ⟨i,b3,b4,b5⟩
    ·exact .inl ⟨b3,.inr ⟨j,b4,hp⟩⟩
    ·exact .inr ⟨i,b3,b4,.inr ⟨j,b5,hp⟩⟩
  ·have fin: ∀j,j<p.1.length->Pth (FO p) (LT p) (bt p.2.2.1) j (k::w)->((bt s 0/\bt p.2.1 j)\/ ∃i,i<p.1.length/\bt s (i+1)/\FO p i j)-> ∃j,j<p.1.length/\bt (aft p s (k:Int)) (j+1)/\((w= [] /\bt p.2.2.1 j)\/ ∃j',FO p j j'/\Pth (FO p) (LT p) (bt p.2.2.1) j' w):=fun j hj hp hc=>by
    obtain ⟨q1,q2⟩:=Pth.iff.1 hp
    exact ⟨j,hj,(a2 j).2 ⟨hj,(hk j hj).2 q1,hc⟩,q2⟩
   rintro (⟨h1,⟨-,h2⟩ | ⟨j,h2,h3⟩⟩ | ⟨i,h1,h2,⟨h3,-⟩ | ⟨j,h3,h4⟩⟩)
   ·cases h2
   ·exact .inr (fin j (H.fi.2 j h2).2 h3 (.inl ⟨h1,h2⟩))
   ·cases h3
   ·exact .inr (fin j ((H.fo i h1).2 j h3).2 h4 (.inr ⟨i,h1,h2,h3⟩))
theorem VT (w:List Nat):kK p (Ki p 1 w)=true↔GL (p.2.2.2.2=true) (bt p.2.1) (bt p.2.2.1) (FO p) (LT p) w:=by
 have h1: ∀j,bt 1 j↔j=0:=fun j=>by
  have:=Bk (n:=0) (j:=j) (by omega)
  rw[CD (by omega)] at this
  exact this
 rw[Oy H w 1 ⟨by omega,fun j hj=>by have:=(h1 j).1 hj;omega⟩]
 constructor
 ·rintro (⟨-,h⟩ | ⟨i,-,h,-⟩)
  ·exact h
  ·have:=(h1 _).1 h;omega
 ·intro h
  exact .inl ⟨(h1 0).2 rfl,h⟩
end
theorem Oz (e:List Tok): ∀i,i<=e.length->CY e i=(e.take i).countP fun t=>decide (t.1=3)
 | 0,_=>rfl
 | i+1,hi=>by
  rw[CY,Oz e i (by omega),uX (by omega),List.countP_append]
  by_cases c:(nth e (i:Int)).1=3 <;> simp[c]
theorem CU {e:List Tok} (he:e.length<=1048576) {p:PosT} (h:dJ e=some (p,true)): ∃x,WT x/\flat x=e/\e.length<=24/\PosOk p/\ ∀w,kK p (Ki p 1 w)=true↔LX x w:=by
 have hF:=fU
 obtain ⟨e1,e2⟩:=zg he
 unfold dJ at h
 rw[e1] at h;simp only[aa] at h
 by_cases c:(CA e).2=true
 ·have c':=c
  unfold CA at c'
  split at c'
  ·rename_i cx0
   have cx1:=cx0
   rw[ah] at cx1
   obtain ⟨x,h1,hw,hfl⟩:=A6 cx1.2
   have hexp:(CA e).1=flat (rz x)/\(flat (rz x)).length<=400:=by
    have hx:tL e=x:=by rw[<-hfl];exact fT hw
    unfold CA
    rw[if_pos cx0]
    rw[hx] at c'⊢
    split at c'
    ·cases c'
    ·rename_i c2
     rw[if_neg c2]
     split at c'
     ·cases c'
     ·rename_i c3
      rw[if_neg c3]
      exact ⟨rfl,by omega⟩
   have wy:=Ni hw
   rw[if_pos c,ai (XZ (by rw[hexp.1];omega))] at h
   simp only at h
   by_cases d:(CY (CA e).1 (CA e).1.length:Int)>20
   ·have d':decide ((CY (CA e).1 (CA e).1.length:Int)>20)=true:=decide_eq_true d
    simp only[d',if_true] at h
    cases h
   ·have d':decide ((CY (CA e).1 (CA e).1.length:Int)>20)=false:=decide_eq_false d
    have hc20:cx (rz x)<=20:=by
     rw[Oz _ _ (ay _),List.take_length,hexp.1] at d
     unfold cx;omega
    simp only[d',Bool.false_eq_true,if_false] at h
    rw[hexp.1] at h
    obtain ⟨nu,fi,la,q,hs,hq1,hg⟩:=J8 wy bP ([],0,0,[],false) (by omega) (by omega) rfl (by simpa using hc20) (aau hw)
    rw[hs] at h;simp only[aa] at h
    have hlen:=hg.len
    have hq1:q.1.length=0+cx (rz x):=hq1
    have hp:p=(q.1,fi,la,q.2.2.2.1,nu):=by
     have:=ae h
     exact (congrArg Prod.fst this).symm
    subst hp
    have P:PosOk (q.1,fi,la,q.2.2.2.1,nu):=⟨by show q.1.length<=20;omega,hlen,hg.bfi,hg.bla,fun i hi=>hg.fo i (Nat.zero_le _) hi,fun i hi=>hg.pos i (Nat.zero_le _) hi⟩
    refine ⟨x,hw,hfl,of_decide_eq_true cx1.1,P,fun w=>?_⟩
    rw[VT P,<-Xt hw]
    exact hg.lang w
  ·cases c'
 ·rw[if_neg c] at h
  simp at h
theorem ET {e:List Tok} (he:e.length<=1048576) {r:AutT} (h:eA e=some (r,true)): ∃x,WT x/\flat x=e/\e.length<=24/\(VA r r.2.1.length/\r.2.1.length<=12)/\ ∀w:List Nat,(∀k∈w,k<9)->(acw r w=true↔LX x w):=by
 obtain ⟨⟨p,b⟩,e1,e2,h1,h2⟩:=np he
 have h1:p.2.2.2.1.length=p.1.length:=h1
 have h2:p.1.length<=100000:=h2
 unfold eA at h
 rw[e1] at h;simp only[aa,jB] at h
 cases b with
 | false=>simp at h
 | true =>
  obtain ⟨x,hw,hfl,h24,P,hL⟩:=CU he e1
  have d1:=XY (p:=p) (most:=200) h1 (by omega) (by omega) (by omega)
  have d1:gG p 200=_:=d1
  rw[d1] at h;simp only[if_true,aa] at h
  rcases GG (nx:=nxS p) (first:=1) (acc:=kK p) (most:=200) (200+2) 0 (fun j hj=>by omega) (by simp[bfS]) with e | ⟨N,hN,hNm,e⟩
  ·rw[e] at h;simp at h
  ·rw[e] at h;simp only[if_true] at h
   have V:=Of (acc:=kK p) (wj p) hN
   obtain ⟨q,es,ei,hr,hv,-,hf⟩:=Bi V (by omega)
   rw[es] at h;simp only[aa,jB] at h
   by_cases c:(q.2.1.length:Int)>12
   ·have c':decide ((q.2.1.length:Int)>12)=true:=decide_eq_true c
    simp[c'] at h
   ·have c':decide ((q.2.1.length:Int)>12)=false:=decide_eq_false c
    simp only[c',Bool.false_eq_true,if_false,aa,Option.some.injEq,Prod.mk.injEq,and_true] at h
    have h:q=r:=by first | exact h | (obtain ⟨k1,k2,k3⟩:=h;exact Prod.ext k1 (Prod.ext k2 k3))
    subst h
    refine ⟨x,hw,hfl,h24,⟨hv,by omega⟩,fun w hw=>?_⟩
    rw[VS V hf hw,<-hL w]
    rw[VP (N:=N) ⟨hN,rfl,rfl,rfl,fun x _=>wj p x⟩ hw]
end D
namespace D
open Go.RowKit
section
variable {κ μ:Type} [DecidableEq κ] [DecidableEq μ] {F:κ->μ} {nx:κ->List (Option κ)} {ny:μ->List (Option μ)} {first:κ} {G:κ->Prop}
end
section
variable {a:AutT} {n:Nat}
end
section
variable {a:AutT} {n:Nat}
end
end D
namespace D
open Go.RowKit
section
variable {κ:Type} [DecidableEq κ] {nx:κ->List (Option κ)} {first:κ}
theorem zI: ∀(v w:List Nat) (x:Option κ),krun nx x (v++w)=krun nx (krun nx x v) w
 | [],w,x=>by cases x <;> rfl
 | k::v,w,none=>by rw[List.cons_append,pg,pg,pg]
 | k::v,w,some x=>zI v w (nth (nx x) (k:Int))
theorem sr (hl: ∀i,∀x∈bfS nx first i,(nx x).length=9): ∀i,∀y∈bfS nx first i,∃w:List Nat,(∀k∈w,k<9)/\krun nx (some first) w=some y
 | 0,y,h=>by
  obtain rfl:=ak h
  exact ⟨[],fun k hk=>(by cases hk),rfl⟩
 | i+1,y,h=>by
  rw[bfS] at h
  cases hx:(bfS nx first i)[i]? with
  | none=>rw[hx] at h;exact sr hl i y h
  | some x =>
   rw[hx] at h
   have h:y∈nbS (bfS nx first i) (nx x):=h
   rcases oz.1 h with q | q
   ·exact sr hl i y q
   ·have hxm:=List.mem_of_getElem? hx
    obtain ⟨w,hw,e⟩:=sr hl i x hxm
    obtain ⟨k,hk,ek⟩:=zf q
    rw[hl i x hxm] at hk
    refine ⟨w++ [k],fun j hj=>?_,?_⟩
    ·rcases aH hj with q | q
     ·exact hw j q
     ·obtain rfl:=ak q;exact hk
    ·rw[zI,e];exact ek
end
section
variable {a r:AutT} {n m N:Nat}
end
end D
namespace D
open Go.RowKit
theorem VU {a b:AutT} {N:Nat} (hE:bfE (nxP a b) (a.1,b.1) N) {w:List Nat} (hw: ∀k∈w,k<9):(qq a a.1 w,qq b b.1 w)∈bfS (nxP a b) (a.1,b.1) N:=by
 have H:NumA (0,(bfS (nxP a b) (a.1,b.1) N).map (fun _=>true),bfR (nxP a b) (a.1,b.1) N) (nxP a b) (a.1,b.1) (fun _=>true) N:=⟨hE,rfl,rfl,rfl,fun x _=>by simp[nxP]⟩
 have hf:(a.1,b.1)∈bfS (nxP a b) (a.1,b.1) N:=List.mem_of_getElem? (ru N)
 have hp:=zD (a:=a) (b:=b) w a.1 b.1 hw
 rcases H.run w _ hw hf with ⟨h1,-⟩ | ⟨y,hy,h1,-⟩
 ·rw[hp] at h1;cases h1
 ·rw[hp] at h1
  rw[ae h1];exact hy
theorem OA {a b:AutT} {N:Nat} {x:Int×Int} (hx:x∈bfS (nxP a b) (a.1,b.1) N): ∃w:List Nat,(∀k∈w,k<9)/\x=(qq a a.1 w,qq b b.1 w):=by
 obtain ⟨w,hw,h⟩:=sr (nx:=nxP a b) (first:=(a.1,b.1)) (fun i y _=>by simp[nxP]) N x hx
 rw[zD w a.1 b.1 hw] at h
 exact ⟨w,hw,(ae h).symm⟩
theorem RE {a b:AutT} {N:Nat} (hE:bfE (nxP a b) (a.1,b.1) N):(bfS (nxP a b) (a.1,b.1) N).any (wk a b)=false↔ ∀w:List Nat,(∀k∈w,k<9)->acw b w=true->acw a w=true:=by
 rw[List.any_eq_false]
 constructor
 ·intro h w hw hb
  have h1:=h _ (VU hE hw)
  have h2: ¬(acw b w && !acw a w)=true:=h1
  cases ha:acw a w with
  | true=>rfl
  | false=>rw[hb,ha] at h2;exact absurd rfl h2
 ·intro h x hx
  obtain ⟨w,hw,rfl⟩:=OA hx
  show¬(acw b w && !acw a w)=true
  intro hc
  rw[ah] at hc
  rw[h w hw hc.1] at hc
  cases hc.2
theorem Kb {a b:AutT} {n m:Nat} (Va:VA a n) (Vb:VA b m) (hn:n<=12) (hm:m<=12): ∃w r,ga a a.1 b b.1 true=some (w,r)/\(r=false↔ ∀w:List Nat,(∀k∈w,k<9)->acw b w=true->acw a w=true):=by
 have h1:=Va.start
 have h2:=Vb.start
 obtain ⟨N,w,hE,hd⟩:=IA Va Vb hn hm (s0:=a.1) (t0:=b.1) ⟨⟨by omega,h1.2⟩,by show -1<=b.1;omega,h2.2⟩
 exact ⟨w,_,hd,RE hE⟩
end D
namespace D
open Go.RowKit
theorem OB {a:AutT} (sa:Data.sm a) (V:VA a a.2.1.length) (h:a.2.1.length<=12):bE a=some true:=by
 have h2:=(ze sa.2.2).1
 obtain ⟨b,e,k⟩:=NR a (by omega) (by omega)
 rw[e,k.2 ⟨h,V⟩]
theorem Yn {a b:AutT} (sa:Data.sm a) (sb:Data.sm b) (Va:VA a a.2.1.length) (Vb:VA b b.2.1.length) (ha:a.2.1.length<=12) (hb:b.2.1.length<=12): ∃c,bF a b=some c/\(c=true↔ ∀w:List Nat,(∀k∈w,k<9)->acw b w=true->acw a w=true):=by
 obtain ⟨w,r,e,k⟩:=Kb Va Vb ha hb
 unfold bF ic
 simp only[jB,OB sa Va ha,OB sb Vb hb,aa,if_true,e]
 refine ⟨_,rfl,?_⟩
 rw[<-k]
 cases r <;> simp
theorem OC {a b:AutT} (sa:Data.sm a) (sb:Data.sm b) (h:bF a b=some true):VA a a.2.1.length/\a.2.1.length<=12/\VA b b.2.1.length/\b.2.1.length<=12/\ ∀w:List Nat,(∀k∈w,k<9)->acw b w=true->acw a w=true:=by
 obtain ⟨va,e1,-,ka⟩:=pS a sa
 obtain ⟨vb,e3,-,kb⟩:=pS b sb
 have h0:=h
 unfold bF ic at h
 simp only[jB] at h
 rw[e1,e3] at h;simp only[aa] at h
 cases va with
 | false=>cases h
 | true =>
  cases vb with
  | false=>cases h
  | true =>
   obtain ⟨hn,Va⟩:=ka rfl
   obtain ⟨hm,Vb⟩:=kb rfl
   obtain ⟨c,e,k⟩:=Yn sa sb Va Vb hn hm
   rw[h0] at e
   exact ⟨Va,hn,Vb,hm,k.1 (ae e).symm⟩
end D
namespace D
open Go.RowKit
def pwB (g:GrT):Nat->List Nat->Nat->Bool
 | x,[],y=>x==y
 | x,k::w,y=>(k==(6+nth g.1 (x:Int)).toNat&&pwB g x w y) || ((arcL g.2 x).any fun z=>z.2.1.toNat==k&&pwB g z.2.2.toNat w y)
theorem OD {g:GrT} : ∀(w:List Nat) (x y:Nat),pwB g x w y=true->PW g x y w
 | [],x,y,h=>by
  obtain rfl:x=y:=by simpa [pwB] using h
  exact .nil x
 | k::w,x,y,h=>by
  unfold pwB at h
  rw[Bool.or_eq_true] at h
  rcases h with h | h
  ·rw[ah,beq_iff_eq] at h
   rw[h.1];exact .test (OD w x y h.2)
  ·obtain ⟨z,hz,h⟩:=List.any_eq_true.1 h
   rw[ah,beq_iff_eq] at h
   rw[<-h.1];exact .step z hz (OD w _ y h.2)
def vm (w:List Int):Bool:=match dm w with
 | some g=> !g.2 || (decide (0<g.1.1.length)&&pwB g.1 0 (w.map Int.toNat) (g.1.1.length - 1))
 | none=>false
theorem aav:(wds lets 0).all vm=true:=by decide +kernel
theorem aaw:(wds lets 1).all vm=true:=by decide +kernel
theorem aax:(wds lets 2).all vm=true:=by decide +kernel
theorem aay:(wds lets 3).all vm=true:=by decide +kernel
theorem Yo {n:Nat} (hn:n<=3): ∀w∈wds lets n,vm w=true:=fun w hw=>by
 have h:n=0\/n=1\/n=2\/n=3:=by omega
 rcases h with rfl | rfl | rfl | rfl
 ·exact List.all_eq_true.1 aav w hw
 ·exact List.all_eq_true.1 aaw w hw
 ·exact List.all_eq_true.1 aax w hw
 ·exact List.all_eq_true.1 aay w hw
theorem zJ {x:Tr Tok} (h:WT x) (hx:(flat x).length<=24) {w:List Int} (hw:rJ w=true) {g:GrT} (e1:dm w=some (g,true)): ∃r:List Pr,bm g (flat x)=some (r,true)/\bh bP g (flat x)=some r/\r.length<=25/\(GOk g/\aQ g=some true)/\g.1.length<=9/\cE w=some (g,true)/\aV (flat x) w=some (decide (((0:Int),(g.1.length:Int) - 1)∈r)):=by
 unfold rJ at hw
 rw[e1] at hw
 split at hw
 ·rename_i g' k h1 e2
  obtain rfl:=ae h1
  rw[ah,decide_eq_true_eq] at hw
  obtain ⟨rfl,hv⟩:=hw
  rw[Bool.not_true,Bool.false_or,ah,decide_eq_true_eq] at hv
  obtain ⟨hv,l1,l2⟩:=hv
  have l1:g.1.length<=9:=l1
  have l2:g.2.length<=9:=l2
  have vx:(decide ((flat x).length<=24)&&isX (flat x))=true:=by rw[nW h,decide_eq_true hx];rfl
  have vi:=dO (e:=flat x) (by omega)
  rw[vx] at vi
  obtain ⟨bv,g1,k1⟩:=xy g (by omega) (by omega)
  have hv:(match aQ g with | some b=>b | none=>false)=true:=hv
  rw[g1] at hv
  obtain rfl:bv=true:=hv
  have g2:bj g=some true:=(rD g).trans g1
  have hfu:=fU
  obtain ⟨r,e3,e4,hr⟩:=CK (k1 rfl) g1 g2 h bP bP (by omega) (by omega) (by omega)
  have hl25:=hr.len
  have hl:r.length<=1073741824:=by omega
  have ew:i64.wrap ((g.1.length:Int) - 1)=(g.1.length:Int) - 1:=cZ (by omega) (by omega)
  have ev:bm g (flat x)=some (r,true):=by
   unfold bm
   have g1:aQ (g.1,g.2)=_:=g1
   have e3:aW bP x (g.1,g.2)=_:=e3
   rw[g1];simp only[aa,if_true]
   rw[vi];simp only[aa,if_true]
   rw[pO (by omega),fT h];simp only[aa]
   rw[e3];rfl
  refine ⟨r,ev,e4,hl25,⟨k1 rfl,g1⟩,l1,e2,?_⟩
  unfold aV
  have ev:bm (g.1,g.2) (flat x)=_:=ev
  rw[e2];simp only[aa,if_true]
  rw[ev];simp only[aa,if_true]
  rw[Rb hl,ew];rfl
 ·cases hw
theorem EU {x:Tr Tok} (h:WT x) (hx:(flat x).length<=24) {w:List Int} (hp:vm w=true) {g:GrT} (e1:dm w=some (g,true)) (G:GOk g/\aQ g=some true) {r:List Pr} (e4:bh bP g (flat x)=some r) (hL:LX x (w.map Int.toNat)):((0:Int),(g.1.length:Int) - 1)∈r:=by
 unfold vm at hp
 rw[e1] at hp
 have hp:(!true || (decide (0<g.1.length)&&pwB g 0 (w.map Int.toNat) (g.1.length - 1)))=true:=hp
 rw[Bool.not_true,Bool.false_or,ah,decide_eq_true_eq] at hp
 have hfu:=fU
 obtain ⟨r',f1,-,f2⟩:=CS G.1 G.2 ((rD g).trans G.2) h bP (by omega) (by omega)
 rw[e4] at f1
 obtain rfl:=ae f1
 refine (f2 _).2 ⟨0,g.1.length - 1,w.map Int.toNat,?_,hp.1,OD _ _ _ hp.2,hL⟩
 rw[show ((g.1.length - 1:Nat):Int)=(g.1.length:Int) - 1 from by omega];rfl
end D
namespace D
open Go.RowKit
theorem OE (x:Tr Tok) {L:Nat} (hL:L<=3): ∀w∈upW x L,vm w=true/\mB x w=true/\w.length<=3/\ ∀k∈w,0<=k/\k<=8:=fun w hw=>by
 obtain ⟨j,hj,hw⟩:=List.mem_flatMap.1 hw
 have hj':=List.mem_range.1 hj
 obtain ⟨h1,h2⟩:=List.mem_filter.1 hw
 obtain ⟨h3,h4⟩:=Ba lets j w h1
 exact ⟨Yo (by omega) w h1,h2,by omega,fun k hk=>uZ.1 (h4 k hk)⟩
theorem Bl {x:Tr Tok} (hx:WT x) (lx:(flat x).length<=24) {w:List Int} (hw:rJ w=true) (hp:vm w=true) (hL:LX x (w.map Int.toNat)) {g:GrT} (e1:dm w=some (g,true)):aV (flat x) w=some true:=by
 obtain ⟨r,h1,h2,h3,G,h5,h6,h7⟩:=zJ hx lx hw e1
 rw[h7,decide_eq_true (EU hx lx hp e1 G h2 hL)]
theorem EV {x y:Tr Tok} (hx:WT x) (hy:WT y) (lx:(flat x).length<=24) (ly:(flat y).length<=24) (hin: ∀w:List Nat,(∀k∈w,k<9)->LX x w->LX y w) {L:Nat} (hL:L<=3): ∀w∈upW x L,E7 y w=false:=fun w hw=>by
 obtain ⟨p1,p2,p3,p4⟩:=OE x hL w hw
 have hl:=CR x hL w hw
 have hlx:=(Nz hx lx (by omega) (fun k hk=>(p4 k hk).1)).2.2.1 p2
 have hly:=hin _ (fun k hk=>by
  obtain ⟨c,hc,rfl⟩:=List.mem_map.1 hk
  have:=p4 c hc;omega) hlx
 obtain ⟨g,ok,b,h1,h2,h3,h4⟩:=so hy ly hl
 unfold E7
 rw[h1,h3]
 cases ok with
 | false=>rfl
 | true =>
  rw[Bl hy ly hl p1 hly h1] at h4
  obtain rfl:=ae h4
  rfl
end D
namespace D
open Go.RowKit
end D
namespace D
open Go.RowKit
end D
namespace D
open Go.RowKit
end D
namespace D
open Go.RowKit
end D
namespace D
open Go.RowKit
end D
namespace D
open Go.RowKit
theorem IF (x:Int):0<=nw x 255/\nw x 255<=255:=by
 have h:(BitVec.ofInt 64 x &&& BitVec.ofInt 64 255).toNat<=255:=by
  rw[BitVec.toNat_and]
  exact Nat.le_trans Nat.and_le_right (by decide)
 unfold nw
 rw[cZ (by omega) (by omega)]
 omega
def sD (xs:List Int) (i:Int):Prop:=0<=i/\i<=(xs.length:Int)
section
variable {xs:List Int} {i h:Int}
theorem Yp (hl:xs.length<=1048576): ∃r:Int×Int,qP xs=some r/\sD xs r.1:=by
 have key: ∃s,ax (nI xs) aR (i64.wrap (10101+(xs.length:Int)),0)=some (.brk s):=by
  obtain ⟨o,e,s,rfl⟩:=cj (f:=nI xs) (fun j s=>s.2=(j:Int)) (fun o=> ∃s,o= .brk s) xs.length (fun j s hj hb=>by
   obtain ⟨a,b⟩:=s
   obtain rfl:b=(j:Int):=hb
   unfold nI
   simp only
   rw[U6]
   by_cases c0:j<xs.length
   ·rw[if_pos (by simpa using c0)]
    by_cases c:((j:Nat):Int)<4000
    ·rw[if_pos (by simpa using c),aG (by omega) (by omega)];simp only[aa]
     exact .inl ⟨c0,_,rfl,by show i64.wrap ((j:Int)+1)=_;rw[cZ (by omega) (by omega)];omega⟩
    ·rw[if_neg (by simpa using c)]
     exact .inr ⟨_,rfl,(fun s' e=>by cases e),_,rfl⟩
   ·rw[if_neg (by simpa using c0)]
    exact .inr ⟨_,rfl,(fun s' e=>by cases e),_,rfl⟩) (s:=(i64.wrap (10101+(xs.length:Int)),0)) rfl (fW (by omega))
  exact ⟨s,e⟩
 obtain ⟨s,hs⟩:=key
 unfold qP
 rw[ai hs]
 exact ⟨_,rfl,by show (0:Int)<=0;omega,by show (0:Int)<=_;omega⟩
theorem EW (hl:xs.length<=1048576) (hc:sD xs i): ∃r:Int×Int×Int,jK (xs,i,h)=some r/\(0<=r.1/\r.1<=255)/\sD xs r.2.1:=by
 unfold jK
 simp only
 by_cases c:i<(xs.length:Int)
 ·rw[if_pos (by simpa using c),aG hc.1 c];simp only[aa]
  refine ⟨_,rfl,IF _,?_⟩
  show sD xs (i64.wrap (i+1))
  have:=hc.1
  rw[cZ (by omega) (by omega)]
  exact ⟨by omega,by omega⟩
 ·rw[if_neg (by simpa using c)];simp only[aa]
  exact ⟨_,rfl,IF _,hc⟩
theorem fm (hl:xs.length<=1048576) (hc:sD xs i) {n:Int} (hn:0<n): ∃r:Int×Int×Int,a8 (xs,i,h) n=some r/\(0<=r.1/\r.1<n)/\sD xs r.2.1:=by
 unfold a8
 simp only
 rw[if_neg (by simpa using hn)]
 have hck:chk (n≠0)=some ():=by unfold chk;rw[if_pos (by omega)]
 by_cases c:n<=256
 ·rw[if_pos (by simpa using c)]
  obtain ⟨r,e,h1,h2⟩:=EW (h:=h) hl hc
  rw[e,hck];simp only[aa]
  exact ⟨_,rfl,⟨Int.tmod_nonneg _ h1.1,Int.tmod_lt_of_pos _ hn⟩,h2⟩
 ·rw[if_neg (by simpa using c)]
  obtain ⟨r1,e1,h1,k1⟩:=EW (h:=h) hl hc
  rw[e1];simp only[aa]
  obtain ⟨r2,e2,h2,k2⟩:=EW (h:=r1.2.2) hl k1
  rw[e2];simp only[aa]
  obtain ⟨r3,e3,h3,k3⟩:=EW (h:=r2.2.2) hl k2
  rw[e3];simp only[aa]
  obtain ⟨r4,e4,h4,k4⟩:=EW (h:=r3.2.2) hl k3
  rw[e4,hck];simp only[aa]
  have w1:i64.wrap (r1.1*16777216)=r1.1*16777216:=cZ (by omega) (by omega)
  have w2:i64.wrap (r2.1*65536)=r2.1*65536:=cZ (by omega) (by omega)
  have w3:i64.wrap (r3.1*256)=r3.1*256:=cZ (by omega) (by omega)
  have w4:i64.wrap (r1.1*16777216+r2.1*65536)=r1.1*16777216+r2.1*65536:=cZ (by omega) (by omega)
  have w5:i64.wrap (r1.1*16777216+r2.1*65536+r3.1*256)=r1.1*16777216+r2.1*65536+r3.1*256:=cZ (by omega) (by omega)
  have w6:i64.wrap (r1.1*16777216+r2.1*65536+r3.1*256+r4.1)=r1.1*16777216+r2.1*65536+r3.1*256+r4.1:=cZ (by omega) (by omega)
  rw[w1,w2,w3,w4,w5,w6]
  exact ⟨_,rfl,⟨Int.tmod_nonneg _ (by omega),Int.tmod_lt_of_pos _ hn⟩,k4⟩
theorem EX (hl:xs.length<=1048576) (hc:sD xs i) {n:Int} (hn:0<n): ∃r:Bool×Int×Int,jL (xs,i,h) n=some r/\sD xs r.2.1:=by
 obtain ⟨r,e,-,k⟩:=fm (h:=h) hl hc hn
 unfold jL
 simp only
 rw[e]
 exact ⟨_,rfl,k⟩
theorem kg (hl:xs.length<=1048576) (hc:sD xs i) {l:List Int} (h0:l≠ []): ∃r:Int×Int×Int,cN (xs,i,h) l=some r/\r.1∈l/\sD xs r.2.1:=by
 have hp:0<(l.length:Int):=by have:=List.length_pos_iff.2 h0;omega
 obtain ⟨r,e,h1,k⟩:=fm (h:=h) hl hc hp
 unfold cN
 simp only
 rw[e];simp only[aa]
 rw[aG h1.1 h1.2];simp only[aa]
 exact ⟨_,rfl,cO h1.1 h1.2,k⟩
theorem Yq (hl:xs.length<=1048576) (hc:sD xs i) {l:List ByteArray} (h0:l≠ []): ∃r:ByteArray×Int×Int,rX (xs,i,h) l=some r/\r.1∈l/\sD xs r.2.1:=by
 have hp:0<(l.length:Int):=by have:=List.length_pos_iff.2 h0;omega
 obtain ⟨r,e,h1,k⟩:=fm (h:=h) hl hc hp
 unfold rX
 simp only
 rw[e];simp only[aa]
 rw[aG h1.1 h1.2];simp only[aa]
 exact ⟨_,rfl,cO h1.1 h1.2,k⟩
end
end D
namespace D
open Go.RowKit
end D
namespace D
open Go.RowKit
def IG:List ByteArray:=[⟨#[97]⟩,⟨#[97,32,98,32,46]⟩,⟨#[97,32,42]⟩,⟨#[97,32,98,32,124,32,42]⟩,⟨#[97,32,97,45,32,46]⟩,⟨#[97,32,42,32,98,32,46]⟩,⟨#[97,32,98,32,42,32,46,32,99,32,46]⟩,⟨#[97,32,97,32,124,32,42]⟩,⟨#[97,32,98,32,46,32,42]⟩,⟨#[48,32,97,32,46,32,42]⟩,⟨#[97,32,49,32,46,32,98,32,46]⟩,⟨#[97,32,123,48,44,50,125]⟩,⟨#[97,32,98,32,124,32,123,49,44,51,125]⟩,⟨#[40,41]⟩,⟨#[33]⟩,⟨#[97,45,32,42,32,97,32,46]⟩,⟨#[97,32,98,45,32,46,32,42,32,99,32,124]⟩,⟨#[97,32,42,32,97,32,42,32,46]⟩,⟨#[97,32,48,32,124,32,42,32,98,32,46]⟩,⟨#[97,32,97,32,46,32,42]⟩,⟨#[97,32,98,32,46,32,98,32,97,32,46,32,124,32,42]⟩]
def OF (t:ByteArray):Bool:=match iK t with
 | some r=>r.2&&Nat.ble 1 r.1.length&&Nat.ble r.1.length 24
 | none=>false
theorem OG:IG.all OF=true:=by kernel_rfl
theorem RF {t:ByteArray} (h:t∈IG): ∃r:List Tok×Bool,iK t=some r/\r.2=true/\1<=r.1.length/\r.1.length<=24:=by
 have h1:OF t=true:=List.all_eq_true.1 OG t h
 unfold OF at h1
 split at h1
 ·rename_i r hr
  rw[ah,ah] at h1
  exact ⟨r,hr,h1.1.1,bI h1.1.2,bI h1.2⟩
 ·cases h1
section
variable {xs:List Int} {i h:Int}
theorem GO (hl:xs.length<=1048576) (hc:sD xs i): ∃r:List Tok×Int×Int,kH (xs,i,h)=some r/\(1<=r.1.length/\r.1.length<=24)/\sD xs r.2.1:=by
 obtain ⟨r,e,h1,k⟩:=Yq (h:=h) hl hc (l:=IG) (by unfold IG;simp)
 obtain ⟨q,e2,-,h2⟩:=RF h1
 unfold kH
 have hb:=congrArg (fun o:Option (ByteArray×Int×Int)=>Option.bind o (fun r0:ByteArray×Int×Int=>(iK r0.1).bind fun r1=>some (r1.1,r0.2.1,r0.2.2))) e
 refine ⟨(q.1,r.2.1,r.2.2),hb.trans ?_,h2,k⟩
 show (iK r.1).bind _=_
 rw[e2];rfl
theorem EY (hl:xs.length<=1048576): ∀(d n:Nat) (i h:Int),d<n->d<=3->sD xs i-> ∃r:List Tok×Int×Int,dL n (xs,i,h) (d:Int)=some r/\(1<=r.1.length/\r.1.length+1<=2 ^ (d+1))/\sD xs r.2.1
 | 0,n+1,i,h,_,_,hc=>by
  rw[dL];simp only
  rw[if_pos (by decide)]
  obtain ⟨r,e,k⟩:=EX (h:=h) hl hc (n:=12) (by omega)
  rw[e];simp only[aa]
  by_cases c:r.1=true
  ·rw[if_pos c]
   obtain ⟨q,e2,-,k2⟩:=kg (h:=r.2.2) hl k (l:=[1,2]) (by simp)
   rw[e2];simp only[aa]
   exact ⟨_,rfl,⟨ay _,ay _⟩,k2⟩
  ·rw[if_neg c]
   obtain ⟨q,e2,-,k2⟩:=kg (h:=r.2.2) hl k (l:=[0,0,2,2,1,4,3,6,7]) (by simp)
   rw[e2];simp only[aa]
   exact ⟨_,rfl,⟨ay _,ay _⟩,k2⟩
 | d+1,n+1,i,h,hd,h3,hc=>by
  have hp:2 ^ (d+1+1)=2*2 ^ (d+1):=by rw[Nat.pow_succ,Nat.mul_comm]
  have hb:2 ^ (d+1)<=8:=by
   have:d<=2:=by omega
   match d,this with
   | 0,_=>decide
   | 1,_=>decide
   | 2,_=>decide
  rw[dL];simp only
  rw[if_neg (by simp;omega)]
  have hw:i64.wrap (((d+1:Nat):Int) - 1)=(d:Int):=by rw[cZ (by omega) (by omega)];omega
  rw[hw]
  obtain ⟨r,e,-,k⟩:=fm (h:=h) hl hc (n:=6) (by omega)
  rw[e];simp only[aa]
  have two: ∀(t:Tok) (i h:Int),sD xs i-> ∃r:List Tok×Int×Int,((dL n (xs,i,h) (d:Int)).bind fun r7=>(dL n (xs,r7.2.1,r7.2.2) (d:Int)).bind fun r8=>(dI r7.1 r8.1 t).bind fun r9=>some (r9,r8.2.1,r8.2.2))=some r/\(1<=r.1.length/\r.1.length+1<=2 ^ (d+1+1))/\sD xs r.2.1:=fun t i h hc=>by
   obtain ⟨r7,e7,h7,k7⟩:=EY hl d n i h (by omega) (by omega) hc
   rw[e7];simp only[aa]
   obtain ⟨r8,e8,h8,k8⟩:=EY hl d n r7.2.1 r7.2.2 (by omega) (by omega) k7
   rw[e8];simp only[aa]
   rw[wS (by omega)];simp only[aa]
   refine ⟨_,rfl,?_,k8⟩
   simp only[al,aB,aA]
   omega
  have one: ∀(t:Tok) (i h:Int),sD xs i-> ∃r:List Tok×Int×Int,((dL n (xs,i,h) (d:Int)).bind fun r14=>(dI r14.1 ([] :List Yq1) t).bind fun r15=>some (r15,r14.2.1,r14.2.2))=some r/\(1<=r.1.length/\r.1.length+1<=2 ^ (d+1+1))/\sD xs r.2.1:=fun t i h hc=>by
   obtain ⟨r7,e7,h7,k7⟩:=EY hl d n i h (by omega) (by omega) hc
   rw[e7];simp only[aa]
   rw[wS (by simp only[aA];omega)];simp only[aa]
   refine ⟨_,rfl,?_,k7⟩
   simp only[al,aB,aA]
   omega
  have if2: ∀(p q:Bool),(if p then (some p) else (some q):Option Bool)=some (p || q):=fun p q=>by cases p <;> rfl
  rw[if2];simp only[aa]
  by_cases c1:(r.1==0 || r.1==1)=true
  ·rw[if_pos c1]
   exact two _ _ _ k
  ·rw[if_neg c1,if2];simp only[aa]
   by_cases c2:(r.1==2 || r.1==3)=true
   ·rw[if_pos c2]
    exact two _ _ _ k
   ·rw[if_neg c2]
    by_cases c3:(r.1==4)=true
    ·rw[if_pos c3]
     exact one _ _ _ k
    ·rw[if_neg c3]
     obtain ⟨q,e2,h2,k2⟩:=fm (h:=r.2.2) hl k (n:=3) (by omega)
     rw[e2];simp only[aa]
     obtain ⟨r7,e7,h7,k7⟩:=EY hl d n q.2.1 q.2.2 (by omega) (by omega) k2
     rw[e7];simp only[aa]
     have w:i64.wrap (i64.wrap (1+q.1)+1)=q.1+2:=by
      rw[cZ (n:=1+q.1) (by omega) (by omega),cZ (by omega) (by omega)];omega
     obtain ⟨u,e3,-,k3⟩:=fm (h:=r7.2.2) hl k7 (n:=q.1+2) (by omega)
     rw[w,e3];simp only[aa]
     rw[wS (by simp only[aA];omega)];simp only[aa]
     refine ⟨_,rfl,?_,k3⟩
     simp only[al,aB,aA]
     omega
theorem SU (hl:xs.length<=1048576) (hc:sD xs i): ∃r:List Tok×Int×Int,oM (xs,i,h)=some r/\(1<=r.1.length/\r.1.length<=24)/\sD xs r.2.1:=by
 have hF:=fU
 unfold oM
 simp only
 obtain ⟨r,e,k⟩:=EX (h:=h) hl hc (n:=2) (by omega)
 rw[e];simp only[aa]
 by_cases c:r.1=true
 ·rw[if_pos c]
  obtain ⟨q,e2,h2,k2⟩:=GO (h:=r.2.2) hl k
  rw[e2]
  exact ⟨_,rfl,h2,k2⟩
 ·rw[if_neg c]
  obtain ⟨q,e2,h2,k2⟩:=fm (h:=r.2.2) hl k (n:=3) (by omega)
  rw[e2];simp only[aa]
  have w:i64.wrap (1+q.1)=(((q.1.toNat+1:Nat)):Int):=by rw[cZ (by omega) (by omega)];omega
  obtain ⟨u,e3,h3,k3⟩:=EY hl (q.1.toNat+1) bP q.2.1 q.2.2 (by omega) (by omega) k2
  rw[w,e3]
  refine ⟨_,rfl,⟨h3.1,?_⟩,k3⟩
  have:q.1.toNat<=2:=by omega
  have h4:=h3.2
  show u.1.length<=24
  generalize q.1.toNat=z at this h4
  match z,this with
  | 0,_=>simp at h4;omega
  | 1,_=>simp at h4;omega
  | 2,_=>simp at h4;omega
end
end D
namespace D
open Go.RowKit
theorem zK {l:List Tok} (h:l.length<=1048576):Data.sm l:=⟨h,fun _ _=>⟨trivial,trivial,trivial,trivial⟩⟩
theorem ZI {l:List Tok} (h1:1<=l.length) (h2:l.length<=24): ∃s:List Tok,ax (nJ) aR l=some (.brk s)/\s.length<=24:=by
 obtain ⟨o,e,s,hs,rfl⟩:=cj (f:=nJ) (fun i s=>s.length=l.length+i/\s.length<=24) (fun o=> ∃s:List Tok,s.length<=24/\o= .brk s) 24 (fun i s hi hI=>by
  unfold nJ
  by_cases c:(s.length:Int)<24
  ·grind[aJ]
  grind) (s:=l) ⟨by omega,h2⟩ (fW (by omega))
 grind
section
variable {xs:List Int} {i h:Int}
theorem SV (hl:xs.length<=1048576) (hc:sD xs i): ∃r:List Tok×Int×Int,mX (xs,i,h)=some r/\Data.sm r.1/\sD xs r.2.1:=by
 unfold mX
 have ⟨r0,e0,l0,k0⟩:=SU (h:=h) hl hc
 rw[e0];simp only[aa]
 obtain ⟨r1,e1,-,k1⟩:=fm (h:=r0.2.2) hl k0 (n:=14) (by omega)
 rw[e1];simp only[aa]
 by_cases c0:(r1.1==0)=true
 ·rw[if_pos c0,show chk (And ((0:Int)<=1) (1<=(r0.1.length:Int)))=some () from if_pos (by omega)]
  grind[zK,bC]
 ·rw[if_neg c0]
  by_cases c1:(r1.1==1)=true
  ·rw[if_pos c1]
   obtain ⟨r8,e8,-,k8⟩:=fm (h:=r1.2.2) hl k1 (n:=9) (by omega)
   rw[e8];simp only[aa]
   obtain ⟨r9,e9,-,k9⟩:=fm (h:=r8.2.2) hl k8 (n:=10) (by omega)
   rw[e9];simp only[aa]
   obtain ⟨r10,e10,-,k10⟩:=fm (h:=r9.2.2) hl k9 (n:=3) (by omega)
   rw[e10];simp only[aa]
   obtain ⟨r11,e11,-,k11⟩:=fm (h:=r10.2.2) hl k10 (n:=5) (by omega)
   rw[e11];rw[aG (by omega) (by omega)]
   exact ⟨_,rfl,zK (by simp[List.length_set];omega),k11⟩
  ·by_cases c2:(r1.1==2)=true
   ·have ⟨s,es,hs⟩:=ZI l0.1 l0.2
    rw[ai es]
    have ⟨q,eq,kq⟩:=EX (h:=r1.2.2) hl k1 (n:=2) (by omega)
    rw[eq];simp[aa]
    by_cases c3:q.1=true
    ·rw[if_pos c3,aJ (by grind)]
     grind[zK,al,aB,aA]
    ·grind[zK]
   ·grind[zK]
end
end D
namespace D
open Go.RowKit
section
variable {xs:List Int} {i h:Int}
theorem Yr (hl:xs.length<=1048576) {p:List Int×Int×Int} (hp:p.1=xs) (hc:sD xs i) {n:Int} (hn:0<=n/\n<=5): ∃s:Int×Int×Int×List Int×List Yq1,ax (jn p) aR (n,i,h,([] :List Int),([] :List Yq1))=some (.brk s)/\s.2.2.2.1.length=n.toNat/\s.2.2.2.2= [] /\sD xs s.2.1:=by
 obtain ⟨s,e,h1,h2,h3,h4⟩:=a7 (f:=jn p) (fun j s=>s.1=n - (j:Int)/\s.2.2.2.1.length=j/\s.2.2.2.2= [] /\sD xs s.2.1) n.toNat (fun j s hj hI=>by
  obtain ⟨h1,h2,h3,h4⟩:=hI
  unfold jn
  rw[h1,hp,if_pos (by simp;omega)]
  obtain ⟨r,e,-,k⟩:=fm (h:=s.2.2.1) hl h4 (n:=3) (by omega)
  rw[e];simp only[aa]
  rw[aJ (by simp only[aB,aA];omega)];simp only[aa]
  refine ⟨_,rfl,?_,by simp[h2],h3,k⟩
  show i64.wrap (n - (j:Int) - 1)=n - ((j+1:Nat):Int)
  rw[cZ (by omega) (by omega)];omega) (fun s hI=>by
  unfold jn
  rw[hI.1,if_neg (by simp;omega)]
  obtain ⟨a,b⟩:=s
  obtain rfl:a=_:=hI.1
  rfl) (s:=(n,i,h,([] :List Int),([] :List Yq1))) ⟨by show n=n - 0;omega,rfl,rfl,hc⟩ (fW (by omega))
 exact ⟨s,e,h2,h3,h4⟩
def GrD (g:GrT):Prop:=(1<=g.1.length/\g.1.length<=5)/\g.2.length<=11
theorem GrD.sm {g:GrT} (h:GrD g):Data.sm g:=⟨⟨by have:=h.1.2;omega,fun _ _=>trivial⟩,by have:=h.2;omega,fun _ _=>⟨trivial,trivial,trivial,trivial⟩⟩
theorem VV (hl:xs.length<=1048576) (hc:sD xs i): ∃r:GrT×Int×Int,pG (xs,i,h)=some r/\GrD r.1/\sD xs r.2.1:=by
 unfold pG
 simp only
 obtain ⟨r0,e0,h0,k0⟩:=kg (h:=h) hl hc (l:=[2,3,4,4,5]) (by simp)
 rw[e0];simp only[aa]
 have h0:2<=r0.1/\r0.1<=5:=by simp at h0;omega
 obtain ⟨s,e,h1,h2,h3⟩:=Yr (p:=(xs,i,h)) (h:=r0.2.2) hl rfl k0 (n:=r0.1) (by omega)
 rw[ai e]
 obtain ⟨r10,e10,h10,k10⟩:=kg (h:=s.2.2.1) hl h3 (l:=[4,8,11]) (by simp)
 rw[e10];simp only[aa]
 have h10:4<=r10.1/\r10.1<=11:=by simp at h10;omega
 obtain ⟨r11,e11,h11,k11⟩:=fm (h:=r10.2.2) hl k10 (n:=r10.1) (by omega)
 rw[e11];simp only[aa]
 obtain ⟨q,eq,q1,q2,q3,q4⟩:=a7 (f:=kU (xs,i,h)) (fun j z=>z.2.1=r11.1 - (j:Int)/\z.2.2.2.2.1=s.2.2.2.1/\z.2.2.2.2.2.length=j/\sD xs z.2.2.1) r11.1.toNat (fun j z hj hI=>by
  obtain ⟨z1,z2,z3,z4⟩:=hI
  unfold kU
  rw[z1,z2,if_pos (by simp;omega)]
  obtain ⟨a,ea,-,ka⟩:=fm (h:=z.2.2.2.1) hl z4 (n:=3) (by omega)
  rw[ea];simp only[aa]
  obtain ⟨b,eb,-,kb⟩:=fm (h:=a.2.2) hl ka (n:=(s.2.2.2.1.length:Int)) (by omega)
  rw[eb];simp only[aa]
  obtain ⟨c,ec,-,kc⟩:=fm (h:=b.2.2) hl kb (n:=(s.2.2.2.1.length:Int)) (by omega)
  rw[ec];simp only[aa]
  obtain ⟨d,ed,-,kd⟩:=kg (h:=c.2.2) hl kc (l:=[0,0,1,2]) (by simp)
  rw[ed];simp only[aa]
  rw[aJ (by simp only[aB,aA];omega)];simp only[aa]
  refine ⟨_,rfl,?_,rfl,by simp[z3],kd⟩
  show i64.wrap (r11.1 - (j:Int) - 1)=r11.1 - ((j+1:Nat):Int)
  rw[cZ (by omega) (by omega)];omega) (fun z hI=>by
  unfold kU
  rw[hI.1,if_neg (by simp;omega)]
  obtain ⟨a,b,c⟩:=z
  obtain rfl:b=_:=hI.1
  rfl) (s:=(0,r11.1,r11.2.1,r11.2.2,s.2.2.2.1,s.2.2.2.2)) ⟨by show r11.1=r11.1 - 0;omega,rfl,by rw[h2];rfl,k11⟩ (fW (by omega))
 rw[ai eq]
 refine ⟨_,rfl,⟨?_,?_⟩,q4⟩
 ·show 1<=q.2.2.2.2.1.length/\q.2.2.2.2.1.length<=5
  rw[q2];omega
 ·show q.2.2.2.2.2.length<=11
  omega
theorem Ys (hl:xs.length<=1048576) (hc:sD xs i): ∃r:GrT×Int×Int,uD (xs,i,h)=some r/\Data.sm r.1/\sD xs r.2.1:=by
 unfold uD
 simp only
 obtain ⟨g,e,hg,k⟩:=VV (h:=h) hl hc
 rw[e];simp only[aa]
 obtain ⟨q,e2,-,k2⟩:=fm (h:=g.2.2) hl k (n:=14) (by omega)
 rw[e2];simp only[aa]
 have hsm:=hg.sm
 obtain ⟨⟨hl1,hl2⟩,hl3⟩:=hg
 by_cases c0:(q.1==0)=true
 ·rw[if_pos c0]
  obtain ⟨r,e3,-,k3⟩:=kg (h:=q.2.2) hl k2 (l:=[(-1),3,2]) (by simp)
  rw[e3];simp only[aa]
  rw[aG (by omega) (by omega)];simp only[aa]
  exact ⟨_,rfl,⟨⟨by rw[List.length_set];omega,fun _ _=>trivial⟩,hsm.2⟩,k3⟩
 ·rw[if_neg c0]
  by_cases c1:(q.1==1)=true
  ·rw[if_pos c1]
   obtain ⟨r,e3,-,k3⟩:=kg (h:=q.2.2) hl k2 (l:=[0,1,99,100]) (by simp)
   rw[e3];simp only[aa]
   obtain ⟨r4,e4,-,k4⟩:=fm (h:=r.2.2) hl k3 (n:=6) (by omega)
   rw[e4];simp only[aa]
   obtain ⟨r5,e5,-,k5⟩:=fm (h:=r4.2.2) hl k4 (n:=6) (by omega)
   rw[e5];simp only[aa]
   obtain ⟨r6,e6,-,k6⟩:=fm (h:=r5.2.2) hl k5 (n:=4) (by omega)
   rw[e6];simp only[aa]
   rw[aJ (by simp only[aB,aA];omega)];simp only[aa]
   exact ⟨_,rfl,⟨hsm.1,by simp;omega,fun _ _=>⟨trivial,trivial,trivial,trivial⟩⟩,k6⟩
  ·rw[if_neg c1]
   by_cases c2:(q.1==2)=true
   ·rw[if_pos c2];simp only[aa]
    exact ⟨_,rfl,⟨⟨Nat.zero_le _,fun _ h=>by cases h⟩,hsm.2⟩,k2⟩
   ·rw[if_neg c2];simp only[aa]
    exact ⟨_,rfl,hsm,k2⟩
end
end D
namespace D
open Go.RowKit
def okX (e:List Tok):Bool:=decide (e.length<=24)&&isX e
theorem CV {e:List Tok} (h:okX e=true): ∃x,WT x/\flat x=e/\(flat x).length<=24:=by
 unfold okX at h
 rw[ah] at h
 obtain ⟨x,-,wx,rfl⟩:=A6 h.2
 exact ⟨x,wx,rfl,of_decide_eq_true h.1⟩
theorem OH {a:List Tok} (ha:a.length<=1048576) {n:Int} (h: ¬(okX a=true/\0<=n/\n<=3)):dV a n=some [] /\fe a n=some []:=by
 unfold dV fe
 rw[dj ha,dO ha];simp only[aa]
 by_cases ca:(decide (a.length<=24)&&isX a)=true
 ·rw[if_pos ca,if_pos ca,HZ,E6]
  have cn: ¬(0<=n/\n<=3):=fun c=>h ⟨ca,c⟩
  rw[decide_eq_false cn]
  exact ⟨rfl,rfl⟩
 ·rw[if_neg ca,if_neg ca];exact ⟨rfl,rfl⟩
theorem GP {a b:List Tok} (ha:a.length<=1048576) (hb:b.length<=1048576) {n:Int} (h: ¬(okX a=true/\okX b=true/\0<=n/\n<=3)):bU a b n=some ([],false)/\bV a b n=some ([],false):=by
 have hs:=dj hb
 have hi:=dO hb
 have two:(∃ws,dV a n=some ws/\(ws= [] \/okX b=false))/\(okX b=false\/fe a n=some []):=by
  by_cases c:okX a=true/\0<=n/\n<=3
  ·have cb:okX b=false:=by
    cases hb:okX b with
    | false=>rfl
    | true=>exact absurd ⟨c.1,hb,c.2⟩ h
   obtain ⟨x,wx,rfl,lx⟩:=CV c.1
   have:=EH wx lx (L:=n.toNat) (by omega)
   rw[show ((n.toNat:Nat):Int)=n from by omega] at this
   exact ⟨⟨_,this,.inr cb⟩,.inl cb⟩
  ·have:=OH ha c
   exact ⟨⟨_,this.1,.inl rfl⟩,.inr this.2⟩
 obtain ⟨⟨ws,w1,w2⟩,w3⟩:=two
 constructor
 ·unfold bU
  rw[w1];simp only[aa]
  have:bA b ws 0=some (.brk 0):=by
   unfold bA
   rcases w2 with rfl | w2
   ·rfl
   ·rw[hs]
    have w2:(decide (b.length<=24)&&isX b)=false:=w2
    rw[w2]
    simp
  have e:=aP (f:=bA b ws) (fun _=>(0:Int)) 0 (fun i hi=>absurd hi (Nat.not_lt_zero _)) this (fW (by omega))
  have e:ax (bA b ws) aR 0=_:=e
  rw[ai e]
 ·unfold bV
  rw[hi];simp only[aa]
  rcases w3 with w3 | w3
  ·have w3:(decide (b.length<=24)&&isX b)=false:=w3
   rw[w3];rfl
  ·rw[w3];simp only[aa]
   have this:bJ b [] 0=some (.brk 0):=rfl
   have e:=aP (f:=bJ b []) (fun _=>(0:Int)) 0 (fun i hi=>absurd hi (Nat.not_lt_zero _)) this (fW (by omega))
   have e:ax (bJ b []) aR 0=_:=e
   rw[ai e]
   split <;> rfl
theorem EZ {a b:List Tok} (ha:a.length<=1048576) (hb:b.length<=1048576) (n:Int): ∃(k:Int) (r:List Int×Bool),eP a b n=some k/\eU a b n=some k/\bU a b n=some r/\bV a b n=some r /\
  ((k=0/\r=([],false))\/ ∃(x y:Tr Tok) (L:Nat),WT x/\WT y/\flat x=a/\flat y=b/\(flat x).length<=24/\(flat y).length<=24/\L<=3/\(r.2=true->r.1∈upW x L/\E7 y r.1=true)/\(r.2=false->r.1= []) /\
   ((k=1/\ ∀w:List Nat,(∀k∈w,k<9)->LX x w->LX y w)\/(k=2/\r.2=true)\/(k=3/\r.2=false))):=by
 by_cases c:okX a=true/\okX b=true/\0<=n/\n<=3
 ·obtain ⟨ca,cb,cn⟩:=c
  have vas:=dj ha
  have vai:=dO ha
  have vbs:=dj hb
  have vbi:=dO hb
  have ca':(decide (a.length<=24)&&isX a)=true:=ca
  have cb':(decide (b.length<=24)&&isX b)=true:=cb
  rw[ca'] at vas vai
  rw[cb'] at vbs vbi
  obtain ⟨x,wx,hx,lx⟩:=CV ca
  obtain ⟨y,wy,hy,ly⟩:=CV cb
  obtain ⟨r,r1,r2,r3,r4⟩:=GK wx wy lx ly (L:=n.toNat) (by omega)
  rw[hx,hy,show ((n.toNat:Nat):Int)=n from by omega] at r1 r2
  obtain ⟨p,p1,p2,sp⟩:=wT ha
  obtain ⟨q,q1,q2,sq⟩:=wT hb
  obtain ⟨i,i1,i2⟩:=Ol q.1 p.1 sq sp
  have hin:p.2=true->q.2=true->i=true-> ∀w:List Nat,(∀k∈w,k<9)->LX x w->LX y w:=fun h1 h2 h3 w hw=>by
   obtain ⟨p,b1⟩:=p
   obtain ⟨q,b2⟩:=q
   obtain rfl:b1=true:=h1
   obtain rfl:b2=true:=h2
   subst h3
   obtain ⟨x',wx',hx',-,-,k1⟩:=ET ha p1
   obtain ⟨y',wy',hy',-,-,k2⟩:=ET hb q1
   obtain rfl:x'=x:=by rw[<-fT wx',<-fT wx,hx',hx]
   obtain rfl:y'=y:=by rw[<-fT wy',<-fT wy,hy',hy]
   obtain ⟨-,-,-,-,k3⟩:=OC sq sp i1
   rw[<-k1 w hw,<-k2 w hw]
   exact k3 w hw
  have i1:bF (q.1.1,q.1.2.1,q.1.2.2) (p.1.1,p.1.2.1,p.1.2.2)=_:=i1
  have i2:dR (q.1.1,q.1.2.1,q.1.2.2) (p.1.1,p.1.2.1,p.1.2.2)=_:=i2
  have key: ∃k:Int,eP a b n=some k/\eU a b n=some k/\((k=1/\ ∀w:List Nat,(∀k∈w,k<9)->LX x w->LX y w)\/(k=2/\r.2=true)\/(k=3/\r.2=false)):=by
   unfold eP eU
   rw[vas,vai];simp only[aa,if_true]
   rw[vbs,vbi];simp only[aa,if_true]
   rw[HZ,E6,decide_eq_true cn];simp only[aa,if_true]
   rw[p1,p2];simp only[aa]
   rw[q1,q2];simp only[aa]
   rw[r1,r2,i1,i2];simp only[aa]
   have no:r.2=true\/r.2=false:=by cases r.2 <;> simp
   cases hp:p.2 <;> cases hq:q.2 <;> cases hi:i <;> rcases no with hr | hr <;> simp only[hr,if_true,if_false,Bool.false_eq_true] <;> first
    | exact ⟨1,rfl,rfl,.inl ⟨rfl,hin hp hq hi⟩⟩
    | exact ⟨2,rfl,rfl,.inr (.inl ⟨rfl,trivial⟩)⟩
    | exact ⟨3,rfl,rfl,.inr (.inr ⟨rfl,trivial⟩)⟩
  obtain ⟨k,k1,k2,k3⟩:=key
  exact ⟨k,r,k1,k2,r1,r2,.inr ⟨x,y,n.toNat,wx,wy,hx,hy,lx,ly,by omega,r3,r4,k3⟩⟩
 ·obtain ⟨h1,h2⟩:=GP ha hb c
  refine ⟨0,([],false),?_,?_,h1,h2,.inl ⟨rfl,rfl⟩⟩
  ·unfold eP
   rw[dj ha,dj hb,HZ];simp only[aa]
   by_cases ca:(decide (a.length<=24)&&isX a)=true
   ·rw[if_pos ca]
    by_cases cb:(decide (b.length<=24)&&isX b)=true
    ·rw[if_pos cb,decide_eq_false fun cn=>c ⟨ca,cb,cn⟩];rfl
    ·rw[if_neg cb]
   ·rw[if_neg ca]
  ·unfold eU
   rw[dO ha,dO hb,E6];simp only[aa]
   by_cases ca:(decide (a.length<=24)&&isX a)=true
   ·rw[if_pos ca]
    by_cases cb:(decide (b.length<=24)&&isX b)=true
    ·rw[if_pos cb,decide_eq_false fun cn=>c ⟨ca,cb,cn⟩];rfl
    ·rw[if_neg cb]
   ·rw[if_neg ca]
theorem VW {g:GrT} (hg:Data.sm g) {x y:Tr Tok} (wx:WT x) (wy:WT y) (lx:(flat x).length<=24) (ly:(flat y).length<=24) (hin: ∀w:List Nat,(∀k∈w,k<9)->LX x w->LX y w) {p q:List Pr×Bool} (hp:cX g (flat x)=some p) (hq:cX g (flat y)=some q) (h1:p.2=true) (h2:q.2=true):(∀z∈p.1,z∈q.1)/\p.1.length<=1000/\q.1.length<=1000:=by
 obtain ⟨b,e1,k1⟩:=xy g (ze hg.1).1 (ze hg.2).1
 have e2:bj g=some b:=(rD g).trans e1
 have vx:(decide ((flat x).length<=24)&&isX (flat x))=true:=by rw[nW wx,decide_eq_true lx];rfl
 have vy:(decide ((flat y).length<=24)&&isX (flat y))=true:=by rw[nW wy,decide_eq_true ly];rfl
 have vsx:=dj (e:=flat x) (by omega)
 have vsy:=dj (e:=flat y) (by omega)
 rw[vx] at vsx
 rw[vy] at vsy
 have hfu:=fU
 unfold cX at hp hq
 simp only[jB] at hp hq
 rw[e2,vsx] at hp
 rw[e2,vsy] at hq
 simp only[aa,if_true] at hp hq
 cases b with
 | false =>
  simp only[Bool.false_eq_true,if_false] at hp
  obtain rfl:=ae hp
  cases h1
 | true =>
  simp only[if_true] at hp hq
  obtain ⟨r,f1,f2,f3⟩:=CS (k1 rfl) e1 e2 wx bP (by omega) (by omega)
  obtain ⟨r',g1,g2,g3⟩:=CS (k1 rfl) e1 e2 wy bP (by omega) (by omega)
  rw[f1] at hp
  rw[g1] at hq
  obtain rfl:=ae hp
  obtain rfl:=ae hq
  have:=f2.len
  have:=g2.len
  refine ⟨fun z hz=>?_,by show r.length<=1000;omega,by show r'.length<=1000;omega⟩
  obtain ⟨i,j,w,rfl,hi,hw,hl⟩:=(f3 z).1 hz
  exact (g3 _).2 ⟨i,j,w,rfl,hi,hw,hin w (hw.lt9 (k1 rfl) hi) hl⟩
theorem VX {x y:Tr Tok} (wx:WT x) (wy:WT y) (lx:(flat x).length<=24) (ly:(flat y).length<=24) {L:Nat} (hL:L<=3) {w:List Int} (hw:w∈upW x L) (hb:E7 y w=true): ∃g:GrT,cE w=some (g,true)/\cY g (flat x) (flat y) 0 (i64.wrap ((g.1.length:Int) - 1))=some true/\aV (flat x) w=some true/\aV (flat y) w=some false:=by
 obtain ⟨p1,p2,p3,p4⟩:=OE x hL w hw
 have hl:=CR x hL w hw
 have hlx:=(Nz wx lx (by omega) (fun k hk=>(p4 k hk).1)).2.2.1 p2
 obtain ⟨g,ok,b,h1,h2,h3,h4⟩:=so wy ly hl
 have hb':(ok && !b)=true:=by
  unfold E7 at hb
  rw[h1,h3] at hb
  exact hb
 rw[ah,Bool.not_eq_true'] at hb'
 obtain ⟨rfl,rfl⟩:=hb'
 obtain ⟨rx,ex1,ex2,ex3,G,l9,l1,ex4⟩:=zJ wx lx hl h1
 obtain ⟨ry,ey1,ey2,ey3,-,-,-,ey4⟩:=zJ wy ly hl h1
 have wl:=EU wx lx p1 h1 G ex2 hlx
 have ew:i64.wrap ((g.1.length:Int) - 1)=(g.1.length:Int) - 1:=cZ (by omega) (by omega)
 have ny: ¬((0:Int),(g.1.length:Int) - 1)∈ry:=fun c=>by
  rw[h4,decide_eq_true c] at ey4
  cases ey4
 refine ⟨g,h2,?_,Bl wx lx hl p1 hlx h1,h4⟩
 unfold cY
 have ex1:bm (g.1,g.2) (flat x)=_:=ex1
 have ey1:bm (g.1,g.2) (flat y)=_:=ey1
 simp only[ex1,ey1,aa,if_true,ew,Rb (show rx.length<=1073741824 by omega),Rb (show ry.length<=1073741824 by omega),decide_eq_true wl,decide_eq_false ny]
 rfl
theorem Kc {z x:List (Int×Int)} (h: ∀p∈z,p∈x):puts [] (z.filter fun p=> !decide (p∈x))= []:=by
 have:z.filter (fun p=> !decide (p∈x))= []:=by
  rw[List.filter_eq_nil_iff]
  intro p hp
  rw[decide_eq_true (h p hp)];simp
 rw[this];rfl
theorem Ke {l:List Int} (hl:l.length<=1048576):nK l l=some true:=by
 unfold nK
 rw[if_neg (by simp)]
 have:=aP (f:=iq l l) (fun i=>(i:Int)) l.length (fun i hi=>by
  unfold iq
  rw[fg hi,if_pos rfl,aZ hi];simp only[aa]
  rw[if_neg (by simp),af (by omega)]) (by
  unfold iq
  rw[eN];rfl) (fW (by omega))
 have this:ax (iq l l) aR 0=_:=this
 rw[ai this]
theorem VY {xs:List Int} (hl:xs.length<=1048576): ∃r:GrT×List Tok,fw xs=some r/\Data.sm r.1:=by
 unfold fw
 obtain ⟨r0,e0,k0⟩:=Yp hl
 rw[e0];simp only[aa]
 obtain ⟨r1,e1,s1,k1⟩:=Ys (h:=r0.2) hl k0
 rw[e1];simp only[aa]
 obtain ⟨r2,e2,s2,-⟩:=SV (h:=r1.2.2) hl k1
 rw[e2]
 exact ⟨_,rfl,s1⟩
theorem VZ {xs:List Int} (hl:xs.length<=1048576) (k:Int): ∃r,uE xs k=some r/\r.length<=601:=by
 obtain ⟨o,e,s,hs,rfl⟩:=cj (f:=qR xs k) (fun i s=>s.2=(i:Int)/\s.1.length=i+1) (fun o=> ∃s:List Int×Int,s.1.length<=601/\o= .brk s) 600 (fun i s hi hI=>by
  obtain ⟨l,j⟩:=s
  obtain ⟨rfl,h2⟩:=hI
  have h2:l.length=i+1:=h2
  unfold qR
  simp only
  by_cases c:(i:Int)<(xs.length:Int)
  ·rw[if_pos (decide_eq_true c)]
   by_cases c2:(i:Int)<600
   ·rw[if_pos (decide_eq_true c2),aG (by omega) c];simp only[aa]
    rw[aJ (by simp only[aB,aA];omega),af (by omega)]
    exact .inl ⟨by omega,_,rfl,rfl,by simp;omega⟩
   ·rw[if_neg (by simpa using c2)]
    exact .inr ⟨_,rfl,(fun s' h=>by cases h),_,(by show l.length<=601;omega),rfl⟩
  ·rw[if_neg (by simpa using c)]
   exact .inr ⟨_,rfl,(fun s' h=>by cases h),_,(by show l.length<=601;omega),rfl⟩) (s:=([IntKind.u8.wrap k],0)) ⟨rfl,rfl⟩ (fW (by omega))
 unfold uE
 rw[ai e]
 exact ⟨_,rfl,hs⟩
theorem SX {e:List Tok} (k:Int): ∃b,uC e k=some b:=by
 unfold uC
 by_cases c:(e.length:Int)=1
 ·obtain ⟨t,rfl⟩:=List.length_eq_one_iff.1 (show e.length=1 by omega)
  exact ⟨_,rfl⟩
 ·refine ⟨false,?_⟩
  simp[c]
theorem OI {a b:List Tok} (ha:a.length<=24) (hb:b.length<=24): ∃r,mq a b=some r/\r.length<=49:=by
 unfold mq
 obtain ⟨c1,e1⟩:=SX (e:=a) 1
 obtain ⟨c2,e2⟩:=SX (e:=b) 1
 have ca:gF a=some a:=by unfold gF;rw[aJ (by simp;omega)];rfl
 have cb:gF b=some b:=by unfold gF;rw[aJ (by simp;omega)];rfl
 rw[e1,Rw a b (by omega)];simp only[aa]
 rw[ca,cb,e2,wS (by omega)];simp only[aa]
 cases c1 <;> cases c2 <;> by_cases h:a=b <;> simp[h] <;> omega
theorem ZJ {xs:List Int} (hl:xs.length<=1048576): ∃r:List Tok×List Tok×Int,fv xs=some r/\r.1.length<=1048576/\r.2.1.length<=1048576:=by
 unfold fv vN
 obtain ⟨r0,e0,k0⟩:=Yp hl
 rw[e0];simp only[aa]
 obtain ⟨r1,e1,l1,k1⟩:=SU (h:=r0.2) hl k0
 rw[e1];simp only[aa]
 obtain ⟨r2,e2,k2⟩:=EX (h:=r1.2.2) hl k1 (n:=4) (by omega)
 rw[e2];simp only[aa]
 cases r2.1 with
 | true =>
  obtain ⟨r3,e3,l3,k3⟩:=GO (h:=r2.2.2) hl k2
  obtain ⟨u,e4,l4⟩:=OI (a:=r1.1) (b:=r3.1) (by omega) (by omega)
  obtain ⟨r5,e5,-,-⟩:=kg (h:=r3.2.2) hl k3 (l:=[0,1,2,2,3,4,(-1)]) (by simp)
  simp only[if_true]
  rw[e3];simp only[aa]
  rw[e4];simp only[aa]
  rw[e5]
  exact ⟨_,rfl,by show r1.1.length<=_;omega,by show u.length<=_;omega⟩
 | false =>
  simp only[Bool.false_eq_true,if_false]
  obtain ⟨r3,e3,k3⟩:=EX (h:=r2.2.2) hl k2 (n:=14) (by omega)
  rw[e3];simp only[aa]
  have two: ∃s:Int×Int×List Tok,(if r3.1 then ((mX (xs,r3.2.1,r3.2.2)).bind fun r7=>some (r7.2.1,r7.2.2,r7.1)) else (some (r3.2.1,r3.2.2,r1.1)):Option (Int×Int×List Tok))=some s/\sD xs s.1/\s.2.2.length<=1048576:=by
   cases r3.1 with
   | true =>
    obtain ⟨r4,e4,s4,k4⟩:=SV (h:=r3.2.2) hl k3
    simp only[if_true]
    rw[e4]
    exact ⟨_,rfl,k4,s4.1⟩
   | false=>exact ⟨_,rfl,k3,by show r1.1.length<=_;omega⟩
  obtain ⟨s,e4,k4,l4⟩:=two
  have e4:(if r3.1 then ((mX (xs,r3.2.1,r3.2.2)).bind fun r7=>some (r7.2.1,r7.2.2,r7.1)) else (some (r3.2.1,r3.2.2,r1.1)):Option (Int×Int×List Yq1))=some s:=e4
  rw[e4];simp only[aa]
  obtain ⟨r5,e5,l5,k5⟩:=GO (h:=s.2.1) hl k4
  rw[e5];simp only[aa]
  obtain ⟨r6,e6,-,-⟩:=kg (h:=r5.2.2) hl k5 (l:=[0,1,2,2,3,4,(-1)]) (by simp)
  rw[e6]
  exact ⟨_,rfl,l4,by show r5.1.length<=_;omega⟩
theorem xc (xs:List Int) (hx:Data.lim xs):iN xs=some true:=by
 unfold iN F6
 simp only[aa]
 by_cases c:(xs.length:Int)>1048576
 ·rw[if_pos (by simpa using c)]
 rw[if_neg (by simpa using c)]
 have hl:xs.length<=1048576:=by omega
 obtain ⟨⟨a,b,n⟩,e1,la,lb⟩:=ZJ hl
 have la:a.length<=1048576:=la
 have lb:b.length<=1048576:=lb
 rw[e1];simp only[aa,jB]
 obtain ⟨k,r,k1,k2,r1,r2,hk⟩:=EZ la lb n
 rw[k2,r2,r1,k1];simp only[aa]
 have lr:r.1.length<=1048576:=by
  rcases hk with ⟨-,rfl⟩ | ⟨x,y,L,wx,wy,rfl,rfl,lx,ly,hL,hr,hn,-⟩
  ·exact Nat.zero_le _
  ·cases h:r.2 with
   | true =>
    have:=(OE x hL _ (hr h).1).2.2.1
    omega
   | false=>rw[hn h];exact Nat.zero_le _
 rw[Ke lr]
 simp only[bne_self_eq_false,Bool.false_eq_true,if_false,aa,if_true]
 obtain ⟨ys,f1,f2⟩:=VZ hl 5
 rw[f1];simp only[aa]
 obtain ⟨⟨g,e⟩,g1,sg⟩:=VY (xs:=ys) (by omega)
 have sg:Data.sm g:=sg
 rw[g1];simp only[aa,jB]
 obtain ⟨p,p1,-,-⟩:=EA sg la
 obtain ⟨q,q1,-,-⟩:=EA sg lb
 rw[p1,q1];simp only[aa]
 rcases hk with ⟨rfl,rfl⟩ | ⟨x,y,L,wx,wy,rfl,rfl,lx,ly,hL,hr,-,hk⟩
 ·rfl
 rcases hk with ⟨rfl,hin⟩ | ⟨rfl,hr2⟩ | ⟨rfl,hr2⟩
 ·have hr2:r.2=false:=by
   cases h:r.2 with
   | false=>rfl
   | true =>
    obtain ⟨h1,h2⟩:=hr h
    rw[EV wx wy lx ly hin hL _ h1] at h2
    cases h2
  have ep:p.2=true->q.2=true->xr p.1 q.1=some true:=fun h1 h2=>by
   obtain ⟨hs,l1,l2⟩:=VW sg wx wy lx ly hin p1 q1 h1 h2
   unfold xr
   rw[JV (by omega) (by omega),Kc hs];rfl
  simp only[hr2]
  cases h1:p.2 with
  | false=>rfl
  | true =>
   cases h2:q.2 with
   | false=>rfl
   | true=>rw[ep h1 h2];rfl
 ·obtain ⟨h1,h2⟩:=hr hr2
  obtain ⟨f,f1,f2,f3,f4⟩:=VX wx wy lx ly hL h1 h2
  have f2:cY (f.1,f.2) (flat x) (flat y) 0 (i64.wrap ((f.1.length:Int) - 1))=some true:=f2
  simp only[show ((2:Int)==1)=false from rfl,show ((2:Int) !=2)=false from rfl,Bool.false_eq_true,if_false,f1,hr2,if_true,aa,f2,f3,f4]
 ·simp only[hr2];rfl
end D
open Go.ChangeShapes Go.WideShapes Go.ChangeAt Go.RowKit
namespace D
theorem op5:Opens Tryz.prog 5 rU8:=QT Tryz.underlying5
theorem aaz:Opens Tryz.prog 33 (aw 5 rU8):=Gn Tryz.underlying33 (by kernel_rfl) (by decide) op5
theorem ZK {W:World} {base:Nat} {z:Value} {H:Type} {enc:TypeId×Value->H} {d:DataW H} {p:List MemPlace} (hv:Value.okWide Tryz.prog W .any base 33 z) (h:DataW.Trod enc Tryz.prog W 0 (fun _=>true) true 33 z d p) :
  ∃(x:List Int) (v0:Value),z=v0/\Data.lim x/\(aw 5 rU8).rd (hp W) [v0] x:=by
 obtain ⟨fuel,hf⟩:=h
 obtain ⟨a,l,c,rfl⟩:=okWide_slice Tryz.underlying33 hv
 obtain ⟨x,hx,hl⟩:=aaz.out enc W _ _ _ hf
 exact ⟨x,_,rfl,hl,hx⟩
end D
open D (Data)
theorem wm (W:World) (args:Array Value) (H:Type) (enc:TypeId×Value->H) (base:Nat) (ds gs:List (DataW H)) (before:List MemPlace)
  (hval: ∀(j:Nat) t v,Tryz.f4.params[j]? =some t->args[j]? =some v->Value.okWide Tryz.prog W .any base t v)
  (hW:DataW.Whole enc Tryz.prog Tryz.f4.params.toList Rows.fnContainmentSpec.vars false W args.toList ds gs before) :
  Calls Tryz.prog 4 args W fun e W'=> ∃v,e= .returned v/\Rows.fnContainmentSpec.post enc Tryz.prog Tryz.f4 false true false false W args v W':=by
 have hW':=hW
 obtain ⟨p,q,hA,hV,rfl,hfz,hnd⟩:=hW
 rw[Tryz.params4] at hA hval
 obtain ⟨z0,vs0,d0,ds0,p0,q0,hargs,rfl,rfl,h0,r0⟩:=trodAll_cons hA
 obtain ⟨rfl,rfl,rfl⟩:=trodAll_nil r0
 obtain rfl:args= #[z0]:=by cases args;simp_all
 obtain ⟨rfl,rfl⟩:=trodVars_none hV
 obtain ⟨x0,v0_0,rfl,l0,r0_0⟩:=D.ZK (hval 0 _ _ rfl rfl) h0
 have hc:=D.wc x0 true (D.xc x0 l0) (I:=D.hp W) (w0:=W) z0 r0_0 D.Lay.all W [] (D.St.init W)
 refine hc.mono fun e W' ⟨v,he,hv,hs⟩=>?_
 subst he;subst hv
 exact ⟨_,rfl,Rv (f:=Tryz.f4) (s:=Rows.fnContainmentSpec) 4 Tryz.underlying4 rfl (by kernel_rfl) rfl hW' rfl rfl rfl (D.St.below hs)⟩
theorem sE (os:Os) (started:os.Started) (H:Type) (enc:TypeId×Value->H) :
  ReturnsInHanded {} Tryz.checked os 4 .any (Rows.fnContainmentSpec.pre6 enc Tryz.prog Tryz.f4 Rows.fnContainmentRow.domain false) (Rows.fnContainmentSpec.post enc Tryz.prog Tryz.f4 false true false false):=by
 refine returnsInHanded_of_change_sized (C:=Tryz.checked) own started (by kernel_rfl) Tryz.func4
  (ChangeSpec.witness6 (enc:=enc) (C:=Tryz.checked) false ⟨#[],#[.slice none 0 0],[]⟩ 8 (by kernel_rfl) (by kernel_rfl) (by kernel_rfl) (by kernel_rfl)) ?_
 intro W base args ds gs before hval hW hcnd hsz _
 exact wm W args H enc base ds gs before hval hW
set_option maxHeartbeats 4000000 in
theorem sF:joinedFacts Tryz.pinned.checked.prog 4 Tryz.f4 Rows.fnContainmentSpec Rows.fnContainmentRow=true:=by
 unfold joinedFacts
 repeat' (with_reducible refine Bool.and_eq_true_iff.2 ⟨?_,?_⟩)
 all_goals as_aux_lemma=>kernel_rfl
theorem holdsLFnContainment:Rows.FnContainmentSaid:=
 OpenClaim.holds_of_wide 4 Tryz.f4 rfl rfl rfl rfl rfl rfl rfl ⟨rfl,rfl,rfl,rfl,rfl⟩ rfl rfl rfl rfl rfl (by kernel_rfl) Tryz.func4 sF
  (of_decide_eq_true (by kernel_rfl)) (by unfold Func.isWrapper;first | (rw[if_pos (by decide +kernel)];kernel_rfl) | (rw[if_neg (by decide +kernel)];exact ⟨rfl,rfl⟩))
  (fun os started H enc _=>sE os started H enc)
end Go.Proofs.YtfbgafccgaoepaaGreat
