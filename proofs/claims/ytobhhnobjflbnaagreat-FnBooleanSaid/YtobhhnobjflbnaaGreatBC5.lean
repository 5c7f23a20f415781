/- FnBoolean: for every input the law returns true and changes nothing that was there. Part 6 of 6. -/
import Derived.Test.YtobhhnobjflbnaaGreatBC4
set_option linter.unusedVariables false
set_option linter.unusedSimpArgs false
set_option linter.unnecessarySimpa false
set_option linter.unusedSectionVars false
set_option maxRecDepth 1000000
namespace Go.Proofs.YtobhhnobjflbnaaGreat
namespace D
open Go.RowKit
instance trInh {α:Type} :Inhabited (Tr α):=⟨.nil⟩
def szX:Tr Tok->Int
 | .nil=>0
 | .node t ks=>min (szL t 1 ks) 100000
where szL (t:Tok) (acc:Int):List (Tr Tok)->Int
 | [] =>acc
 | k::ks=>szL t (acc+(if t.1=7 then (szX k+3)*t.2.2.2 else szX k)) ks
theorem eL {x:Tr Tok} (h:WT x):1<=szX x/\szX x<=100000:=by
 refine WT.ind (p:=fun x=>1<=szX x/\szX x<=100000) ?_ ?_ ?_ h
 ·intro t _
  show 1<=min (1:Int) 100000/\min (1:Int) 100000<=100000
  omega
 ·intro t a e _ ih
  show 1<=min ((1:Int)+(if t.1=7 then (szX a+3)*t.2.2.2 else szX a)) 100000/\min ((1:Int)+(if t.1=7 then (szX a+3)*t.2.2.2 else szX a)) 100000<=100000
  split
  ·rename_i k
   have hr:=vZ (show 0<=ar t by omega) k
   have:0<=(szX a+3)*t.2.2.2:=Int.mul_nonneg (by omega) (by omega)
   omega
  ·omega
 ·intro t a b e _ _ iha ihb
  have k:t.1≠7:=by
   rcases jY (show 0<=ar t by omega) with ⟨_,k⟩ | ⟨k,_⟩ | ⟨k,_⟩ <;> omega
  show 1<=min ((1:Int)+(if t.1=7 then (szX a+3)*t.2.2.2 else szX a)+(if t.1=7 then (szX b+3)*t.2.2.2 else szX b)) 100000/\min ((1:Int)+(if t.1=7 then (szX a+3)*t.2.2.2 else szX a)+(if t.1=7 then (szX b+3)*t.2.2.2 else szX b)) 100000<=100000
  rw[if_neg k,if_neg k]
  omega
theorem C8 {a h:Int} (h1:1<=a/\a<=100000) (h2:1<=h/\h<=3):IntKind.i64.wrap ((IntKind.i64.wrap (a+3))*h)=(a+3)*h:=by
 rw[dh (n:=a+3) (by omega) (by omega)]
 have k1:0<=(a+3)*h:=Int.mul_nonneg (by omega) (by omega)
 have k2:(a+3)*h<=100003*3:=Int.mul_le_mul (by omega) (by omega) (by omega) (by omega)
 exact dh (by omega) (by omega)
theorem Jp {a h:Int} (h1:1<=a/\a<=100000) (h2:1<=h/\h<=3):0<=(a+3)*h/\(a+3)*h<=300009:=by
 have k1:0<=(a+3)*h:=Int.mul_nonneg (by omega) (by omega)
 have k2:(a+3)*h<=100003*3:=Int.mul_le_mul (by omega) (by omega) (by omega) (by omega)
 omega
theorem gI {A:List Tok} {t:Tok} (h:A.length<=1000000):bm (A++ [t]) (IntKind.i64.wrap (((A++ [t]).length:Int) - 1))=some t/\IntKind.i64.wrap (((A++ [t]).length:Int) - 1)=(A.length:Int):=by
 have e:IntKind.i64.wrap (((A++ [t]).length:Int) - 1)=(A.length:Int):=by
  rw[dh (by simp only[aw,az,aG];omega) (by simp only[aw,az,aG];omega)]
  simp only[aw,az,aG];omega
 refine ⟨?_,e⟩
 rw[e,aF (by omega) (by simp only[aw,az,aG];omega),bd (by simp)]
 simp
theorem M3 {t:Tok} (h:ar t=2):(if t.1==4 then (some (t.1==4)) else (some (t.1==5)):Option Bool)=some true:=by
 rcases jY (show 0<=ar t by omega) with ⟨_,k | k⟩ | ⟨e,_⟩ | ⟨e,_⟩
 ·simp[k]
 ·simp[k]
 ·omega
 ·omega
theorem FZ {t:Tok} (h:ar t=1\/ar t=0):(if t.1==4 then (some (t.1==4)) else (some (t.1==5)):Option Bool)=some false:=by
 rcases jY (show 0<=ar t by omega) with ⟨e,k⟩ | ⟨e,k | k⟩ | ⟨e,k | k | k⟩
 ·omega
 all_goals simp[k]
theorem K7 {t:Tok} (h:ar t=0):(t.1==6)=false/\(t.1==7)=false:=by
 rcases jY (show 0<=ar t by omega) with ⟨e,k⟩ | ⟨e,k | k⟩ | ⟨e,k | k | k⟩
 ·omega
 ·omega
 ·omega
 all_goals simp[k]
theorem Jq {t:Tok} (h:ar t=1):((t.1==6)=true/\t.1=6)\/((t.1==6)=false/\(t.1==7)=true/\t.1=7):=by
 rcases jY (show 0<=ar t by omega) with ⟨e,k⟩ | ⟨e,k | k⟩ | ⟨e,k | k | k⟩
 ·omega
 ·left;simp[k]
 ·right;simp[k]
 all_goals omega
theorem qF {a b:Tr Tok} {t:Tok} (wb:WT b) (hl:((flat a++flat b)++ [t]).length<=1000000) :
  (((flat a++flat b)++ [t]).take ((((flat a++flat b).length:Nat):Int)).toNat)=flat a++flat b /\
  dK (flat a++flat b)=some (((flat a).length:Nat):Int) /\
  (((flat a++flat b)++ [t]).take ((((flat a).length:Nat):Int)).toNat)=flat a /\
  (flat a++flat b).drop ((((flat a).length:Nat):Int)).toNat=flat b:=by
 refine ⟨?_,Jo wb (by simp only[aw,az,aG] at hl⊢;omega),?_,?_⟩
 ·rw[Int.toNat_natCast,List.take_left]
 ·rw[Int.toNat_natCast,ah,List.take_left]
 ·rw[Int.toNat_natCast,List.drop_left]
theorem K8 {x:Tr Tok} (h:WT x): ∀n,(flat x).length<=n->(flat x).length<=1000000->b9 n (flat x)=some (szX x):=by
 refine WT.ind (p:=fun x=> ∀n,(flat x).length<=n->(flat x).length<=1000000->b9 n (flat x)=some (szX x)) ?_ ?_ ?_ h
 ·intro t e n hn hl
  rw[xI] at hn hl⊢
  match n,hn with
  | n+1,_ =>
   have hk:=K7 e
   rw[b9]
   have:=(gI (A:=[]) (t:=t) (by simp)).1
   rw[List.nil_append] at this
   rw[this];simp only[ae]
   rw[FZ (.inr e)];simp only[ae,hk.1,hk.2,Bool.false_eq_true,if_false]
   rfl
 ·intro t a e wa ih n hn hl
  rw[AE] at hn hl⊢
  simp only[aw,az,aG] at hn hl
  match n,hn with
  | n+1,hn =>
   have hr:=eL wa
   rw[b9]
   obtain ⟨l1,l2⟩:=gI (A:=flat a) (t:=t) (by omega)
   rw[l1];simp only[ae]
   rw[FZ (.inl e)];simp only[ae,Bool.false_eq_true,if_false]
   rw[l2,Int.toNat_natCast,List.take_left,ix (by simp only[aw,az,aG];omega)];simp only[ae]
   rw[ih n (by omega) (by omega)];simp only[ae]
   rcases Jq e with ⟨k1,k2⟩ | ⟨k1,k2,k3⟩
   ·rw[if_pos k1,dh (by omega) (by omega)]
    show some (min 100000 (szX a+1))=some (min ((1:Int)+(if t.1=7 then (szX a+3)*t.2.2.2 else szX a)) 100000)
    rw[if_neg (by omega)]
    congr 1;omega
   ·have h7:=vZ (show 0<=ar t by omega) k3
    have hm:=Jp hr h7.2
    rw[if_neg (by simp[k1]),if_pos k2,C8 hr h7.2,dh (by omega) (by omega)]
    show some (min 100000 ((szX a+3)*t.2.2.2+1))=some (min ((1:Int)+(if t.1=7 then (szX a+3)*t.2.2.2 else szX a)) 100000)
    rw[if_pos k3]
    congr 1;omega
 ·intro t a b e wa wb iha ihb n hn hl
  rw[oK] at hn hl⊢
  obtain ⟨p1,p2,p3,p4⟩:=qF (a:=a) (t:=t) wb hl
  simp only[aw,az,aG] at hn hl
  match n,hn with
  | n+1,hn =>
   have hra:=eL wa
   have hrb:=eL wb
   have k:t.1≠7:=by
    rcases jY (show 0<=ar t by omega) with ⟨_,k⟩ | ⟨k,_⟩ | ⟨k,_⟩ <;> omega
   rw[b9]
   obtain ⟨l1,l2⟩:=gI (A:=flat a++flat b) (t:=t) (by rw[aw];omega)
   rw[l1];simp only[ae]
   rw[M3 e];simp only[ae,if_true]
   rw[l2,p1,p2,ix (by simp only[aw,az,aG];omega)];simp only[ae]
   rw[ix (by simp only[aw,az,aG];omega),p3,p4];simp only[ae]
   rw[iha n (by omega) (by omega),ix (by simp only[aw,az,aG];omega)];simp only[ae]
   rw[ihb n (by have:=wa.pos;omega) (by omega)];simp only[ae]
   rw[dh (n:=szX a+szX b) (by omega) (by omega),dh (by omega) (by omega)]
   show some (min 100000 (szX a+szX b+1))=some (min ((1:Int)+(if t.1=7 then (szX a+3)*t.2.2.2 else szX a)+(if t.1=7 then (szX b+3)*t.2.2.2 else szX b)) 100000)
   rw[if_neg k,if_neg k]
   congr 1;omega
def F5:Tr Tok:=.node (2,0,0,0) []
def AF (x:Tr Tok):Nat->Int->Tr Tok
 | 0,_=>F5
 | h+1,low=>if 0<low then .node (4,0,0,0) [x,AF x h (max 0 (low - 1))] else .node (5,0,0,0) [.node (4,0,0,0) [x,AF x h (max 0 (low - 1))],F5]
mutual
def n8:Tr Tok->Tr Tok
 | .nil=>.nil
 | .node t ks=>if t.1=7 then AF ((F6 ks).headD .nil) t.2.2.2.toNat t.2.2.1 else .node t (F6 ks)
def F6:List (Tr Tok)->List (Tr Tok)
 | [] =>[]
 | k::ks=>n8 k::F6 ks
end
theorem ar4:ar (4,0,0,0)=2:=by decide
theorem ar5:ar (5,0,0,0)=2:=by decide
theorem ar2:ar (2,0,0,0)=0:=by decide
theorem C9:WT F5:=.node ar2 fun k hk=>by cases hk
theorem nm:flat F5= [(2,0,0,0)]:=xI _
theorem WT.two {t:Tok} {a b:Tr Tok} (h:ar t=2) (ha:WT a) (hb:WT b):WT (.node t [a,b]):=.node h fun k hk=>by
 rcases ax hk with rfl | hk
 ·exact ha
 ·obtain rfl:=al hk
  exact hb
theorem WT.one {t:Tok} {a:Tr Tok} (h:ar t=1) (ha:WT a):WT (.node t [a]):=.node h fun k hk=>by
 obtain rfl:=al hk
 exact ha
theorem xK {x:Tr Tok} (hx:WT x): ∀(h:Nat) (low:Int),WT (AF x h low)
 | 0,_=>C9
 | h+1,low=>by
  rw[AF]
  split
  ·exact .two ar4 hx (xK hx h _)
  ·exact .two ar5 (.two ar4 hx (xK hx h _)) C9
theorem tU (x:Tr Tok): ∀(h:Nat) (low:Int),(flat (AF x h low)).length<=((flat x).length+3)*h+1
 | 0,_=>by rw[AF,nm];simp
 | h+1,low=>by
  have ih:=tU x h (max 0 (low - 1))
  rw[AF]
  split
  ·rw[oK];simp only[aw,az,aG]
   rw[Nat.mul_succ];omega
  ·rw[oK,oK,nm];simp only[aw,az,aG]
   rw[Nat.mul_succ];omega
theorem Ms {t:Tok} {a:Tr Tok} :n8 (.node t [a])=if t.1=7 then AF (n8 a) t.2.2.2.toNat t.2.2.1 else .node t [n8 a]:=by rw[n8,F6,F6];rfl
theorem exp2 {t:Tok} {a b:Tr Tok} (h:t.1≠7):n8 (.node t [a,b])= .node t [n8 a,n8 b]:=by rw[n8,if_neg h,F6,F6,F6]
theorem Mt {t:Tok} (h:t.1≠7):n8 (.node t [])= .node t []:=by rw[n8,if_neg h,F6]
theorem no7 {t:Tok} (h:ar t=2\/ar t=0):t.1≠7:=by
 rcases jY (show 0<=ar t by omega) with ⟨_,k⟩ | ⟨k,_⟩ | ⟨_,k⟩ <;> omega
theorem K9 {x:Tr Tok} (h:WT x):WT (n8 x):=by
 refine WT.ind (p:=fun x=>WT (n8 x)) ?_ ?_ ?_ h
 ·intro t e
  rw[Mt (no7 (.inr e))]
  exact .node e fun k hk=>by cases hk
 ·intro t a e _ ih
  rw[Ms]
  split
  ·exact xK ih _ _
  ·exact .one e ih
 ·intro t a b e _ _ iha ihb
  rw[exp2 (no7 (.inl e))]
  exact .two e iha ihb
theorem tV {x:Tr Tok} (h:WT x):szX x<100000->((flat (n8 x)).length:Int)<=szX x:=by
 refine WT.ind (p:=fun x=>szX x<100000->((flat (n8 x)).length:Int)<=szX x) ?_ ?_ ?_ h
 ·intro t e _
  rw[Mt (no7 (.inr e)),xI]
  show (1:Int)<=min 1 100000
  omega
 ·intro t a e wa ih hs
  have hr:=eL wa
  have hs':min ((1:Int)+(if t.1=7 then (szX a+3)*t.2.2.2 else szX a)) 100000<100000:=hs
  show _<=min ((1:Int)+(if t.1=7 then (szX a+3)*t.2.2.2 else szX a)) 100000
  rw[Ms]
  by_cases k:t.1=7
  ·rw[if_pos k] at hs'⊢
   rw[if_pos k]
   have h7:=vZ (show 0<=ar t by omega) k
   have hge:szX a+3<=(szX a+3)*t.2.2.2:=by
    have:=Int.mul_le_mul_of_nonneg_left (c:=szX a+3) h7.2.1 (by omega)
    omega
   have h1:=ih (by omega)
   have h2:=tU (n8 a) t.2.2.2.toNat t.2.2.1
   have h3:(((flat (n8 a)).length+3)*t.2.2.2.toNat:Int)<=(szX a+3)*t.2.2.2:=by
    rw[Int.toNat_of_nonneg (by omega)]
    exact Int.mul_le_mul_of_nonneg_right (by omega) (by omega)
   have h4:((flat (AF (n8 a) t.2.2.2.toNat t.2.2.1)).length:Int)<=(((flat (n8 a)).length+3)*t.2.2.2.toNat:Int)+1:=by exact_mod_cast h2
   omega
  ·rw[if_neg k] at hs'⊢
   rw[if_neg k,AE]
   have h1:=ih (by omega)
   simp only[aw,az,aG]
   omega
 ·intro t a b e wa wb iha ihb hs
  have hra:=eL wa
  have hrb:=eL wb
  have k:=no7 (.inl e)
  have hs':min ((1:Int)+(if t.1=7 then (szX a+3)*t.2.2.2 else szX a)+(if t.1=7 then (szX b+3)*t.2.2.2 else szX b)) 100000<100000:=hs
  show _<=min ((1:Int)+(if t.1=7 then (szX a+3)*t.2.2.2 else szX a)+(if t.1=7 then (szX b+3)*t.2.2.2 else szX b)) 100000
  rw[if_neg k,if_neg k] at hs'⊢
  rw[exp2 k,oK]
  have h1:=iha (by omega)
  have h2:=ihb (by omega)
  simp only[aw,az,aG]
  omega
theorem qG {a b:List Tok} {t:Tok} (h:a.length+b.length<=1000000):bZ a b t=some ((a++b)++ [t]):=by
 unfold bZ nP
 rw[aQ (by simp only[aw,az,aG];omega)];simp only[ae,List.nil_append]
 rw[aQ (by omega)];simp only[ae]
 rw[aQ (by simp only[aw,az,aG];omega)];rfl
theorem Da {x:Tr Tok} : ∀(h n:Nat) (low:Int),h<n->h<=3->0<=low->low<=3->(flat x).length<=100000->eZ n (flat x) low (h:Int)=some (flat (AF x h low))
 | 0,n+1,low,_,_,_,_,_=>by
  rw[eZ,if_pos (by rfl),AF,nm];rfl
 | h+1,n+1,low,h1,h2,h3,h4,h5=>by
  rw[eZ,if_neg (by simp;omega),dh (n:=low - 1) (by omega) (by omega),dh (n:=((h+1:Nat):Int) - 1) (by omega) (by omega)]
  rw[show ((h+1:Nat):Int) - 1=(h:Int) from by omega,Da h n (max 0 (low - 1)) (by omega) (by omega) (by omega) (by omega) h5];simp only[ae]
  have hl:=tU x h (max 0 (low - 1))
  have hl3:((flat x).length+3)*h<=100003*3:=Nat.mul_le_mul (by omega) (by omega)
  rw[qG (by omega),AF];simp only[ae]
  by_cases c:0<low
  ·rw[if_pos (by simpa using c),if_pos c,oK]
  ·rw[if_neg (by simpa using c),if_neg c,oK,oK,nm]
   show (gK 2).bind _=_
   unfold gK;simp only[ae]
   rw[qG (by simp only[aw,az,aG];omega)];rfl
theorem np:1000000000000<=iA:=by rw[Ef];unfold bt;omega
theorem F7 {x:Tr Tok} (h:WT x): ∀n,(flat x).length<=n->(flat x).length<=1000000->szX x<=50000->bu n (flat x)=some (flat (n8 x)):=by
 have hF:=np
 refine WT.ind (p:=fun x=> ∀n,(flat x).length<=n->(flat x).length<=1000000->szX x<=50000->bu n (flat x)=some (flat (n8 x))) ?_ ?_ ?_ h
 ·intro t e n hn hl hs
  rw[xI] at hn hl⊢
  match n,hn with
  | n+1,_ =>
   have hk:=K7 e
   rw[bu]
   have:=(gI (A:=[]) (t:=t) (by simp)).1
   rw[List.nil_append] at this
   rw[this];simp only[ae]
   rw[FZ (.inr e)];simp only[ae,hk.1,hk.2,Bool.false_eq_true,if_false]
   rw[Mt (no7 (.inr e)),xI]
 ·intro t a e wa ih n hn hl hs
  have hs':min ((1:Int)+(if t.1=7 then (szX a+3)*t.2.2.2 else szX a)) 100000<=50000:=hs
  rw[AE] at hn hl⊢
  simp only[aw,az,aG] at hn hl
  match n,hn with
  | n+1,hn =>
   have hr:=eL wa
   have hsa:szX a<=50000:=by
    by_cases k:t.1=7
    ·rw[if_pos k] at hs'
     have h7:=vZ (show 0<=ar t by omega) k
     have hge:szX a+3<=(szX a+3)*t.2.2.2:=by
      have:=Int.mul_le_mul_of_nonneg_left (c:=szX a+3) h7.2.1 (by omega)
      omega
     omega
    ·rw[if_neg k] at hs';omega
   have hla:=tV wa (by omega)
   rw[bu]
   obtain ⟨l1,l2⟩:=gI (A:=flat a) (t:=t) (by omega)
   rw[l1];simp only[ae]
   rw[FZ (.inl e)];simp only[ae,Bool.false_eq_true,if_false]
   rw[l2,Int.toNat_natCast,List.take_left,ix (by simp only[aw,az,aG];omega)];simp only[ae]
   rw[ih n (by omega) (by omega) hsa,Ms];simp only[ae]
   rcases Jq e with ⟨k1,k2⟩ | ⟨k1,k2,k3⟩
   ·rw[if_pos k1,if_neg (by omega),qG (by simp;omega),AE];simp
   ·have h7:=vZ (show 0<=ar t by omega) k3
    rw[if_neg (by simp[k1]),if_pos k2,if_pos k3]
    have:=Da (x:=n8 a) t.2.2.2.toNat iA t.2.2.1 (by omega) (by omega) (by omega) (by omega) (by omega)
    rw[Int.toNat_of_nonneg (by omega)] at this
    rw[this];rfl
 ·intro t a b e wa wb iha ihb n hn hl hs
  have k:=no7 (.inl e)
  have hs':min ((1:Int)+(if t.1=7 then (szX a+3)*t.2.2.2 else szX a)+(if t.1=7 then (szX b+3)*t.2.2.2 else szX b)) 100000<=50000:=hs
  rw[if_neg k,if_neg k] at hs'
  rw[oK] at hn hl⊢
  obtain ⟨p1,p2,p3,p4⟩:=qF (a:=a) (t:=t) wb hl
  simp only[aw,az,aG] at hn hl
  match n,hn with
  | n+1,hn =>
   have hra:=eL wa
   have hrb:=eL wb
   have hla:=tV wa (by omega)
   have hlb:=tV wb (by omega)
   rw[bu]
   obtain ⟨l1,l2⟩:=gI (A:=flat a++flat b) (t:=t) (by rw[aw];omega)
   rw[l1];simp only[ae]
   rw[M3 e];simp only[ae,if_true]
   rw[l2,p1,p2,ix (by simp only[aw,az,aG];omega)];simp only[ae]
   rw[ix (by simp only[aw,az,aG];omega),p3,p4];simp only[ae]
   rw[iha n (by omega) (by omega) (by omega),ix (by simp only[aw,az,aG];omega)];simp only[ae]
   rw[ihb n (by have:=wa.pos;omega) (by omega) (by omega)];simp only[ae]
   rw[qG (by omega),exp2 k,oK];rfl
def AS (e:List Tok):List Tok×Bool:=
 if decide (e.length<=24)&&isX e then (if 5000<szX (C7 e) then ([],false) else (if 400<(flat (n8 (C7 e))).length then ([],false) else (flat (n8 (C7 e)),true))) else ([],false)
theorem Jr {e:List Tok} (h:(AS e).2=true): ∃y,WT y/\(AS e).1=flat y/\(flat y).length<=400:=by
 unfold AS at h⊢
 split at h
 ·rename_i c
  rw[if_pos c]
  rw[af] at c
  obtain ⟨x,h1,hw,rfl⟩:=Ha c.2
  rw[so hw] at h⊢
  split at h
  ·cases h
  ·rename_i c2
   rw[if_neg c2]
   split at h
   ·cases h
   ·rename_i c3
    rw[if_neg c3]
    exact ⟨_,K9 hw,rfl,by omega⟩
 ·cases h
end D
namespace D
open Go.RowKit
def AT (out:List Bool) (t:Int):Bool:=decide (t≥0)&&nth out t
def hit (out:List Bool) (row:List Int):Bool:=row.any (AT out)
def kT (a:AutT) (out:List Bool) (s:Nat):List Bool:=if hit out (nth a.2.2 s) then out.set s true else out
def cH (a:AutT) (out:List Bool):Nat->List Bool
 | 0=>out
 | s+1=>kT a (cH a out s) s
def cnt (out:List Bool):Nat:=out.count true
theorem La (out:List Bool):cnt out<=out.length:=List.count_le_length
theorem zj {out:List Bool} {s:Nat} (h:s<out.length) (k:out[s] =true):out.set s true=out:=by
 refine List.ext_getElem (by simp) fun i h1 h2=>?_
 rw[List.getElem_set]
 split
 ·rename_i e;subst e;exact k.symm
 ·rfl
theorem Js {out:List Bool} {s:Nat} (h:s<out.length) (k:out[s] =false):cnt (out.set s true)=cnt out+1:=by
 unfold cnt
 rw[List.count_set h];simp[k]
section
variable {a:AutT} {n:Nat}
theorem tW (a:AutT) (out:List Bool) (s:Nat):(kT a out s).length=out.length:=by unfold kT;split <;> simp
theorem eu (a:AutT) (out:List Bool): ∀s,(cH a out s).length=out.length
 | 0=>rfl
 | s+1=>by rw[cH,tW,eu a out s]
theorem kU {out:List Bool} {s:Nat} (h:s<out.length):(kT a out s=out/\ ¬(hit out (nth a.2.2 s)=true/\nth out s=false))\/(cnt (kT a out s)=cnt out+1/\hit out (nth a.2.2 s)=true/\nth out s=false):=by
 unfold kT
 rw[bd h]
 cases hh:hit out (nth a.2.2 s) with
 | false=>exact .inl ⟨by simp,by simp⟩
 | true =>
  cases hk:out[s] with
  | true=>exact .inl ⟨by simp[zj h hk],by simp⟩
  | false=>exact .inr ⟨by simp[Js h hk],rfl,rfl⟩
theorem lF {out:List Bool} : ∀s,s<=out.length->(cH a out s=out/\cnt (cH a out s)=cnt out)\/cnt out<cnt (cH a out s)
 | 0,_=>.inl ⟨rfl,rfl⟩
 | s+1,hs=>by
  have hl:s<(cH a out s).length:=by rw[eu];omega
  have ih:=lF (out:=out) s (by omega)
  rw[cH]
  rcases kU (a:=a) hl with ⟨e,-⟩ | ⟨e,-,-⟩
  ·rw[e];exact ih
  ·rcases ih with ⟨-,h2⟩ | h
   ·exact .inr (by omega)
   ·exact .inr (by omega)
def it (a:AutT):Nat->List Bool
 | 0=>a.2.1
 | j+1=>cH a (it a j) a.2.1.length
theorem jy (a:AutT): ∀j,(it a j).length=a.2.1.length
 | 0=>rfl
 | j+1=>by rw[it,eu,jy a j]
theorem Hb (a:AutT) (j:Nat):cnt (it a j)<=a.2.1.length:=by rw[<-jy a j];exact La _
theorem xL (a:AutT) (j:Nat):(it a (j+1)=it a j)\/cnt (it a j)<cnt (it a (j+1)):=by
 rcases lF (a:=a) (out:=it a j) a.2.1.length (by rw[jy];exact aA _) with h | h
 ·exact .inl h.1
 ·exact .inr h
theorem Hc {j k:Nat} (h:it a (j+1)=it a j) (hk:j<=k):it a k=it a j:=by
 induction hk with
 | refl=>rfl
 | step _ ih=>rw[it,ih];exact h
theorem Db {j k:Nat} (h:it a (j+1)=it a j) (h':it a (k+1)=it a k):it a j=it a k:=by
 rcases Nat.le_total j k with e | e
 ·exact (Hc h e).symm
 ·exact Hc h' e
theorem Dc (a : AutT) : it a (a.2.1.length + 1) = it a a.2.1.length := by
  have key : ∀ j, it a (j + 1) = it a j \/ j + 1 <= cnt (it a (j + 1)) := by
    intro j
    induction j with
    | zero => rcases xL a 0 with h | h
              · exact .inl h
              · exact .inr (by omega)
    | succ j ih =>
      rcases xL a (j + 1) with h | h
      · exact .inl h
      · rcases ih with h' | h'
        · left; rw [it, h']; exact h'
        · exact .inr (by omega)
  rcases key a.2.1.length with h | h
  · exact h
  · have := Hb a (a.2.1.length + 1); omega
def live (a:AutT):List Bool:=it a a.2.1.length
theorem jZ (a:AutT):(live a).length=a.2.1.length:=jy a _
theorem zk {α:Type} [Inhabited α] {row:List α} {p:α->Bool} {k:Nat} (h:k<row.length):(row.take (k+1)).any p=((row.take k).any p || p (nth row (k:Int))):=by
 rw[List.take_succ_eq_append_getElem h,List.any_append,bd h];simp
section
variable (V:VA a n) (hn:n<=1000000)
include V hn
theorem Dd {out:List Bool} {s:Nat} (hs:s<n) (hl:out.length=n):aO (eE a (out,(s:Int))) bt (out,0)=some (.brk (kT a out s,9)):=by
 have hr:=V.rowAt (s:=s) (by omega) (by omega)
 have hls:s<out.length:=by omega
 have:=bY (f:=eE a (out,(s:Int))) (fun k=>(if ((nth a.2.2 (s:Int)).take k).any (AT out) then out.set s true else out,(k:Int))) 9 (fun k hk=>by
  unfold eE
  simp only
  rw[if_pos (by simp;omega),V.get (by omega) (by omega)];simp only[ae]
  rw[V.get2 (by omega) (by omega) hk];simp only[ae]
  rw[zk (by omega),show nth (nth a.2.2 (s:Int)) (k:Int)=mv a s k from rfl]
  simp only[aM (show k<9223372036854775807 by omega)]
  by_cases c:mv a s k≥0
  ·have hset:(out.set s true).length=n:=by simp[hl]
   have hm:=(V.mv (s:=s) (k:=k) (by omega) (by omega) hk).2
   rw[if_pos (by simpa using c)]
   by_cases q:((nth a.2.2 (s:Int)).take k).any (AT out)=true
   ·simp only[q,if_true,Bool.true_or]
    rw[aF c (by rw[hset];exact hm),aF (by omega) (by rw[hset];omega)];simp only[ae,Int.toNat_natCast]
    split <;> simp
   ·simp only[q,Bool.false_eq_true,if_false,Bool.false_or,AT]
    rw[aF c (by rw[hl];exact hm),aF (by omega) (by rw[hl];omega)];simp only[ae,Int.toNat_natCast]
    cases hc:nth out (mv a s k) <;> simp[hc,c]
  ·rw[if_neg (by simpa using c)]
   simp[AT,c]) (by unfold eE;simp) (by unfold bt;omega)
 have e9:(nth a.2.2 (s:Int)).take 9=nth a.2.2 (s:Int):=List.take_of_length_le (by omega)
 rw[e9] at this
 exact this
theorem v7 {out:List Bool} (hl:out.length=n):aO (eF a) bt (out,0)=some (.brk (cH a out n,(n:Int))):=by
 have hlen:=V.len
 refine bY (f:=eF a) (fun s=>(cH a out s,(s:Int))) n (fun s hs=>?_) ?_ (lD (by omega))
 ·unfold eF
  simp only
  rw[if_pos (by simp;omega),aJ (Dd V hn hs (by rw[eu];exact hl)),aM (by omega)]
  rfl
 ·unfold eF
  simp only
  rw[if_neg (by simp;omega)]
theorem He:fO a=some (live a):=by
 have hlen:=V.len
 unfold fO
 rw[aQ (by simp;omega)];simp only[ae,List.nil_append]
 have:=bY (f:=fU a) (fun j=>(it a j,(j:Int))) n (fun j hj=>by
  unfold fU
  simp only
  rw[if_pos (by simp;omega),aJ (v7 V hn (by rw[jy];exact hlen)),aM (by omega),it,hlen]) (by
  unfold fU
  simp only
  rw[if_neg (by simp;omega)]) (lD (by omega))
 exact (aJ this).trans (by simp[live,hlen])
theorem De {out:List Bool} {g:Bool} {s:Nat} (hs:s<n) (hl:out.length=n):aO (bJ (g,(s:Int),out) (nth a.2.2 (s:Int))) bt (g,0,out)=some (.brk (g || (hit out (nth a.2.2 (s:Int)) && !nth out (s:Int)),9,kT a out s)):=by
 have hr:=V.rowAt (s:=s) (by omega) (by omega)
 have hls:s<out.length:=by omega
 have:=bY (f:=bJ (g,(s:Int),out) (nth a.2.2 (s:Int))) (fun k=>(g || (((nth a.2.2 (s:Int)).take k).any (AT out) && !nth out (s:Int)),(k:Int),if ((nth a.2.2 (s:Int)).take k).any (AT out) then out.set s true else out)) 9 (fun k hk=>by
  unfold bJ
  simp only
  rw[if_pos (by simp[hr];omega),V.get2 (by omega) (by omega) hk];simp only[ae]
  rw[zk (by omega),show nth (nth a.2.2 (s:Int)) (k:Int)=mv a s k from rfl]
  simp only[aM (show k<9223372036854775807 by omega)]
  by_cases c:mv a s k≥0
  ·have hset:(out.set s true).length=n:=by simp[hl]
   have hm:=(V.mv (s:=s) (k:=k) (by omega) (by omega) hk).2
   rw[if_pos (by simpa using c)]
   by_cases q:((nth a.2.2 (s:Int)).take k).any (AT out)=true
   ·simp only[q,if_true,Bool.true_or]
    have hself:nth (out.set s true) (s:Int)=true:=by
     have:=oD (xs:=out) (i:=(s:Int)) (x:=true) (by omega) (by omega)
     simpa using this
    rw[aF c (by rw[hset];exact hm),aF (by omega) (by rw[hset];omega)];simp only[ae,Int.toNat_natCast,hself,if_true]
    split <;> simp
   ·simp only[q,Bool.false_eq_true,if_false,Bool.false_or,AT,Bool.false_and,Bool.or_false]
    rw[aF c (by rw[hl];exact hm),aF (by omega) (by rw[hl];omega)];simp only[ae,Int.toNat_natCast]
    cases hc:nth out (mv a s k) with
    | false=>simp[c]
    | true =>
     cases hd:nth out (s:Int) with
     | false=>simp[c]
     | true =>
      rw[bd hls] at hd
      simp[c,zj hls hd]
  ·rw[if_neg (by simpa using c)]
   simp[AT,c]) (by unfold bJ;simp[hr]) (by unfold bt;omega)
 have e9:(nth a.2.2 (s:Int)).take 9=nth a.2.2 (s:Int):=List.take_of_length_le (by omega)
 rw[e9] at this
 have e0:(g || (((nth a.2.2 (s:Int)).take 0).any (AT out) && !nth out (s:Int)))=g:=by simp
 rw[e0] at this
 exact this
theorem v8 {out:List Bool} (hl:out.length=n): ∃g,aO (bK a) bt (false,0,out)=some (.brk (g,(n:Int),cH a out n))/\(g=true↔cnt out<cnt (cH a out n)):=by
 have hlen:=V.len
 have hnl:=V.nlen
 obtain ⟨s',e,⟨g,rfl,hg⟩⟩:=di (f:=bK a) (fun s st=> ∃g,st=(g,(s:Int),cH a out s)/\(g=true↔cnt out<cnt (cH a out s))) n (by
  rintro s st hs ⟨g,rfl,hg⟩
  have hpl:(cH a out s).length=n:=by rw[eu];exact hl
  unfold bK
  simp only
  rw[if_pos (by simp;omega),V.get (by omega) (by omega)];simp only[ae]
  rw[aJ (De V hn hs hpl),aM (by omega)]
  refine ⟨_,rfl,_,rfl,?_⟩
  rw[Bool.or_eq_true,af,Bool.not_eq_true',hg,cH]
  have hc:=lF (a:=a) (out:=out) s (by omega)
  rcases kU (a:=a) (out:=cH a out s) (s:=s) (by omega) with ⟨e,k⟩ | ⟨e,k⟩
  ·rw[e];exact ⟨fun h=>h.elim id fun h=>absurd h k,.inl⟩
  ·rw[e]
   exact ⟨fun _=>by rcases hc with ⟨-,h⟩ | h <;> omega,fun _=>.inr k⟩) (by
  rintro s ⟨g,rfl,hg⟩
  unfold bK
  simp only
  rw[if_neg (by simp;omega)]) ⟨false,rfl,by simp[cH]⟩ (lD (by omega))
 exact ⟨g,e,hg⟩
theorem Lb:cx a=some (live a):=by
 have hlen:=V.len
 unfold cx
 rw[aQ (by simp;omega)];simp only[ae,List.nil_append]
 obtain ⟨o,e,i,rfl,hi⟩:=eh (f:=dM a) (fun i s=> ∃b,s=(b,it a i)/\(b=true->i<=cnt (it a i))/\(b=false->it a (i+1)=it a i)) (fun o=> ∃i,o= .brk (false,it a i)/\it a (i+1)=it a i) (n+1) (s:=(true,a.2.1)) (by
  rintro i s hi ⟨b,rfl,h1,h2⟩
  unfold dM
  simp only
  cases b with
  | false=>exact .inr ⟨_,by rw[if_neg (by simp)],(fun s' e=>by cases e),i,rfl,h2 rfl⟩
  | true =>
   have hc:=Hb a i
   have h1:=h1 rfl
   obtain ⟨g,e,hg⟩:=v8 V hn (out:=it a i) (by rw[jy];exact hlen)
   have ee:cH a (it a i) n=it a (i+1):=by rw[it,hlen]
   rw[ee] at e hg
   refine .inl ⟨by omega,(g,it a (i+1)),by rw[if_pos rfl,aJ e],g,rfl,fun h=>?_,fun h=>?_⟩
   ·have:=hg.1 h;omega
   ·have hs:it a (i+1)=it a i:=by
     rcases xL a i with h' | h'
     ·exact h'
     ·rw[<-hg,h] at h';cases h'
    rw[it,hs];exact hs) ⟨true,rfl,fun _=>Nat.zero_le _,fun h=>by cases h⟩ (lD (by omega))
 rw[aJ e]
 have:=Db hi (Dc a)
 simp[live,this]
end
end
end D
namespace D
open Go.RowKit
def nothing:AutT:=(0,[false],[[-1,-1,-1,-1,-1,-1,-1,-1,-1]])
theorem Df:jb=some nothing:=by kernel_rfl
theorem Dg:mc=some nothing:=by kernel_rfl
theorem xM {n:Nat} (h:n<=1000000):iOk (n:Int)=true:=by
 have h1:IntKind.i64.min= -9223372036854775808:=by decide
 have h2:IntKind.i64.max=9223372036854775807:=by decide
 simp only[iOk,Lit.wf,h1,h2,af,decide_eq_true_eq]
 omega
theorem take_one {α:Type} [Inhabited α] {xs:List α} {k:Nat} (h:k<xs.length):xs.take (k+1)=xs.take k++ [nth xs (k:Int)]:=by
 rw[List.take_succ_eq_append_getElem h,bd h]
theorem b7 {α:Type} [Inhabited α] {xs ys:List α} (h:xs <+:ys) {i:Int} (h0:0<=i) (h1:i<xs.length):nth ys i=nth xs i:=by
 obtain ⟨t,rfl⟩:=h
 exact fE h0 h1
structure NumOk {κ:Type} [DecidableEq κ] (nx:κ->List (Option κ)) (first:κ) (G:κ->Prop) (B:Nat):Prop where
 g0:G first
 gn: ∀x,G x-> ∀y,some y∈nx x->G y
 len: ∀x,G x->(nx x).length=9
 bound: ∀l:List κ,l.Nodup->(∀x∈l,G x)->l.length<=B
section
variable {κ:Type} [DecidableEq κ] [Inhabited κ] {nx:κ->List (Option κ)} {first:κ} {G:κ->Prop} {B:Nat}
theorem NumOk.le (H:NumOk nx first G B) (i:Nat):(bfS nx first i).length<=B:=H.bound _ (fF i) (et H.g0 H.gn i)
theorem NumOk.at (H:NumOk nx first G B) {i:Nat} (h:i<(bfS nx first i).length):G (nth (bfS nx first i) (i:Int)):=et H.g0 H.gn i _ (cF (by omega) (by omega))
theorem fG {i:Nat} (h:i<(bfS nx first i).length):bfS nx first (i+1)=nbS (bfS nx first i) (nx (nth (bfS nx first i) (i:Int))):=by rw[o7 h,bd h]
theorem kV {i:Nat} (h:i<(bfS nx first i).length):bfR nx first (i+1)=bfR nx first i++ [nbR (bfS nx first i) (nx (nth (bfS nx first i) (i:Int)))]:=by rw[lE h,bd h]
theorem nq {β:Type} {acc:κ->β} {i:Nat} (h:i<(bfS nx first i).length):((bfS nx first (i+1)).take (i+1)).map acc=((bfS nx first i).take i).map acc++ [acc (nth (bfS nx first i) (i:Int))]:=by
 have hp:=aU (nx:=nx) (first:=first) i
 have hl:=hp.length_le
 have e:(bfS nx first (i+1)).take i=(bfS nx first i).take i:=by
  obtain ⟨t,ht⟩:=hp
  rw[<-ht,List.take_append_of_le_length (by omega)]
 rw[take_one (by omega),aH,e,b7 hp (by omega) (by omega)];rfl
def MapOf (M:List (κ×Int)) (l:List κ):Prop:=M.length=l.length/\ ∀x,M.lookup x=if x∈l then some (l.idxOf x:Int) else none
theorem MapOf.one (x:κ):MapOf [(x,0)] [x]:=by
 refine ⟨rfl,fun y=>?_⟩
 rw[List.lookup_cons]
 by_cases e:y=x
 ·subst e;simp
 ·simp only[show (y==x)=false from by simp[e]];simp[e]
theorem MapOf.put {M:List (κ×Int)} {l:List κ} (h:MapOf M l) {x:κ} (hx:x∉l):MapOf ((x,(l.length:Int))::M) (l++ [x]):=by
 refine ⟨by simp[h.1],fun y=>?_⟩
 rw[List.lookup_cons]
 by_cases e:y=x
 ·subst e
  simp[List.idxOf_append,hx]
 ·simp only[show (y==x)=false from by simp[e],h.2 y,List.mem_append,List.mem_singleton,e,or_false]
  by_cases k:y∈l
  ·simp[k,List.idxOf_append]
  ·simp[k]
end
section
variable {nx:Int->List (Option Int)} {first:Int} {G:Int->Prop} {B:Nat}
theorem Dh {p3:Int->Int->Option (Int×Bool)} {l:List Int} {M:List (Int×Int)} {os:List (Option Int)} {acs:List Bool} {rws:List (List Int)} {i:Nat}
  (hi:i<l.length) (hos:os.length=9) (hM:MapOf M l) (hok: ∀y,some y∈os->iOk y=true) (hB: ∀k,(nbS l (os.take k)).length<=1000000)
  (hp: ∀(k:Nat) (hk:k<9),∃j,p3 (nth l (i:Int)) (k:Int)=some (match nth os (k:Int) with | some y=>(y,true) | none=>(j,false))) :
  ∃M',aO (cf p3 (l,M,(i:Int),0,acs,rws)) bt (l,M,[],0)=some (.brk (nbS l os,M',nbR l os,9))/\MapOf M' (nbS l os):=by
 obtain ⟨s',e,M',rfl,hM'⟩:=di (f:=cf p3 (l,M,(i:Int),0,acs,rws)) (fun k s=> ∃M',s=(nbS l (os.take k),M',nbR l (os.take k),(k:Int))/\MapOf M' (nbS l (os.take k))) 9 (by
  rintro k s hk ⟨M1,rfl,hM1⟩
  have hpre:=ep l (os.take k)
  have hlen:=hpre.length_le
  have hBk:=hB k
  obtain ⟨j,hj⟩:=hp k hk
  have hrl:(nbR l (os.take k)).length<=9:=by rw[bO,aC];omega
  unfold cf
  simp only
  rw[if_pos (by simp;omega),aF (by omega) (by omega)];simp only[ae]
  rw[b7 hpre (by omega) (by omega),hj,take_one (by omega),jW,iT]
  simp only[ae,aM (show k<9223372036854775807 by omega)]
  cases ho:nth os (k:Int) with
  | none =>
   simp only[Bool.false_eq_true,if_false]
   rw[aQ (by simp;omega)]
   exact ⟨_,rfl,M1,rfl,hM1⟩
  | some y =>
   have hy:iOk y=true:=hok y (ho ▸ cF (by omega) (by omega))
   simp only[if_true]
   rw[show chk (iOk y=true)=some () from by unfold chk;rw[if_pos hy]];simp only[ae]
   rw[show lkM M1 y=_ from hM1.2 y]
   by_cases c:y∈nbS l (os.take k)
   ·simp only[c,if_true,Option.isSome_some,Option.getD_some,ae]
    rw[aQ (by simp;omega)]
    exact ⟨_,rfl,M1,by rw[dU c];rfl,by rw[dU c];exact hM1⟩
   ·have hput:wE M1 iOk iOk y ((nbS l (os.take k)).length:Int)=some ((y,((nbS l (os.take k)).length:Int))::M1):=by
     unfold wE
     rw[if_pos ⟨by have:=hM1.1;omega,hy,xM hBk⟩]
    simp only[c,if_false,Option.isSome_none,Bool.false_eq_true,hput,ae]
    rw[aQ (by simp;omega)];simp only[ae]
    rw[aQ (by simp;omega)]
    refine ⟨_,rfl,(y,((nbS l (os.take k)).length:Int))::M1,?_,?_⟩
    ·rw[du c];simp only[nbI,iw c]
    ·rw[du c];exact hM1.put c) (by
  rintro s ⟨M1,rfl,hM1⟩
  unfold cf
  simp) (s:=(l,M,[],0)) ⟨M,rfl,hM⟩ (by unfold bt;omega)
 rw[List.take_of_length_le (by omega)] at e hM'
 exact ⟨M',e,hM'⟩
theorem Lc {most:Int} {p2:Int->Option Bool} {p3:Int->Int->Option (Int×Bool)} {acc:Int->Bool} (H:NumOk nx first G B) (hB:B<=1000000) (hmost:(B:Int)<=most) (hok: ∀x,G x->iOk x=true)
  (h2: ∀x,G x->p2 x=some (acc x)) (h3: ∀x (k:Nat),G x->k<9-> ∃j,p3 x (k:Int)=some (match nth (nx x) (k:Int) with | some y=>(y,true) | none=>(j,false))) :
  ∃N,bfE nx first N/\eO first most p2 p3=some ((0,(bfS nx first N).map acc,bfR nx first N),true):=by
 obtain ⟨N,hNB,hN⟩:=zf (nx:=nx) (first:=first) (H.le)
 refine ⟨N,hN,?_⟩
 unfold eO
 rw[show wE ([] :List (Int×Int)) iOk iOk first 0=some [(first,0)] from by unfold wE;rw[if_pos ⟨by simp,hok _ H.g0,by decide⟩]];simp only[ae]
 obtain ⟨s',e,M',rfl,hM'⟩:=di (f:=c7 most p2 p3) (fun i s=> ∃M,s=(bfS nx first i,M,(i:Int),0,((bfS nx first i).take i).map acc,bfR nx first i)/\MapOf M (bfS nx first i)) N (by
  rintro i s hi ⟨M,rfl,hM⟩
  have hlt:=hN.2 i hi
  have hG:=H.at hlt
  have hle:=H.le i
  have hle':=H.le (i+1)
  obtain ⟨M',e,hM'⟩:=Dh (p3:=p3) (l:=bfS nx first i) (M:=M) (os:=nx (nth (bfS nx first i) (i:Int))) (acs:=((bfS nx first i).take i).map acc) (rws:=bfR nx first i) hlt (H.len _ hG) hM (fun y hy=>hok y (H.gn _ hG y hy))
   (fun k=>by
    have:(nbS (bfS nx first i) ((nx (nth (bfS nx first i) (i:Int))).take k)).length<=B:=H.bound _ (gl (fF i)) fun x hx=>by
     rcases jX.1 hx with hx | hx
     ·exact et H.g0 H.gn i x hx
     ·exact H.gn _ hG x (List.mem_of_mem_take hx)
    omega) (fun k hk=>h3 _ k hG hk)
  unfold c7
  simp only
  rw[if_pos (by simp;omega),aJ e,<-fG hlt]
  rw[<-fG hlt] at hM'
  have hl2:=(aU (nx:=nx) (first:=first) i).length_le
  simp only
  rw[if_neg (by simp;omega),aF (by omega) (by omega)];simp only[ae]
  rw[b7 (aU i) (by omega) (by omega),h2 _ hG];simp only[ae]
  have hr:(bfR nx first i).length=i:=dq fun j hj=>hN.2 j (by omega)
  rw[aQ (by simp;omega)];simp only[ae]
  rw[aQ (by simp;omega)];simp only[ae,aM (show i<9223372036854775807 by omega)]
  exact ⟨_,rfl,M',by rw[nq hlt,kV hlt],hM'⟩) (by
  rintro s ⟨M,rfl,hM⟩
  unfold c7
  simp only
  rw[if_neg (by have:=hN.1;simp;omega)]) (s:=([first],[(first,0)],0,0,[],[])) ⟨_,rfl,MapOf.one first⟩ (lD (by omega))
 rw[aJ e]
 simp only
 rw[List.take_of_length_le (by have:=hN.1;omega)]
end
theorem Hf {l:List Int} {x:Int} (h:l.length<=9223372036854775807):gZ l x=some (if x∈l then (l.idxOf x:Int) else -1):=by
 unfold gZ
 obtain ⟨o,e,hq⟩:=eh (f:=ja l x) (fun i s=>s=(i:Int)/\x∉l.take i) (fun o=>(x∈l/\o= .ret (l.idxOf x:Int))\/(x∉l/\ ∃s,o= .brk s)) l.length (s:=0) (by
  rintro i s hi ⟨rfl,hx⟩
  unfold ja
  by_cases hl:i<l.length
  ·rw[if_pos (by simp;omega),aF (by omega) (by omega)];simp only[ae]
   by_cases c:nth l (i:Int)=x
   ·refine .inr ⟨_,by rw[if_pos (by simpa using c)],(fun s' e=>by cases e),.inl ?_⟩
    have e:l=l.take i++(x::l.drop (i+1)):=by
     rw[<-c,bd hl,<-List.drop_eq_getElem_cons hl,List.take_append_drop]
    refine ⟨by rw[e];simp,?_⟩
    congr 1
    conv=>rhs;rw[e,List.idxOf_append,if_neg hx,List.idxOf_cons_self]
    simp[aC];first | done | omega
   ·refine .inl ⟨hl,_,by rw[if_neg (by simpa using c)],by rw[aM (by omega)],?_⟩
    rw[take_one hl,List.mem_append,List.mem_singleton]
    rintro (h | h)
    ·exact hx h
    ·exact c h.symm
  ·refine .inr ⟨_,by rw[if_neg (by simp;omega)],(fun s' e=>by cases e),.inr ⟨?_,_,rfl⟩⟩
   rwa [List.take_of_length_le (by omega)] at hx) ⟨rfl,by simp⟩ (lD h)
 rcases hq with ⟨hx,rfl⟩ | ⟨hx,s,rfl⟩
 ·rw[dj e,if_pos hx]
 ·rw[aJ e,if_neg hx]
section
variable {a:AutT} {n:Nat} {c:List Int} {lv:List Bool} {nx:Int->List (Option Int)} {G:Int->Prop} {B:Nat} {acc:Int->Bool}
def good (n:Nat) (lv:List Bool) (r:Int):Prop:=0<=r/\r<n/\nth lv r=true
def j0 (a:AutT) (c:List Int) (lv:List Bool) (r:Int):List (Option Int):=(List.range 9).map fun k=>if mv a r k≥0/\nth lv (mv a r k)=true then some (nth c (mv a r k)) else none
theorem zm {r:Int} {k:Nat} (hk:k<9):nth (j0 a c lv r) (k:Int)=if mv a r k≥0/\nth lv (mv a r k)=true then some (nth c (mv a r k)) else none:=by
 have:k<(j0 a c lv r).length:=by simp[j0];omega
 rw[bd this];simp[j0]
def RepsOf (n:Nat) (lv:List Bool) (c:List Int) (rs l:List Int):Prop:=rs.length=l.length/\ ∀j:Nat,j<l.length->good n lv (nth rs j)/\nth c (nth rs j)=nth l (j:Int)
theorem RepsOf.snoc {rs l:List Int} (h:RepsOf n lv c rs l) {t:Int} (ht:good n lv t):RepsOf n lv c (rs++ [t]) (l++ [nth c t]):=by
 refine ⟨by simp[h.1],fun j hj=>?_⟩
 by_cases e:j<l.length
 ·rw[fE (by omega) (by have:=h.1;omega),fE (by omega) (by omega)];exact h.2 j e
 ·have e:j=l.length:=by simp at hj;omega
  subst e
  have h1:nth (rs++ [t]) (l.length:Int)=t:=by rw[bd (by simp[h.1])];simp[<-h.1]
  have h2:nth (l++ [nth c t]) (l.length:Int)=nth c t:=by rw[bd (by simp)];simp
  rw[h1,h2];exact ⟨ht,rfl⟩
theorem Di (V:VA a n) (hn:n<=1000000) (hc:c.length=n) (hlv:lv.length=n) {l rs:List Int} {acs:List Bool} {rws:List (List Int)} {i:Nat} (hi:i<l.length) (hR:RepsOf n lv c rs l) {os:List (Option Int)} (hos:os.length=9)
  (ho: ∀r,good n lv r->nth c r=nth l (i:Int)->j0 a c lv r=os) (hB: ∀k,(nbS l (os.take k)).length<=1000000) :
  ∃rs',aO (de a c lv (l,rs,(i:Int),0,acs,rws)) bt (l,rs,[],0)=some (.brk (nbS l os,rs',nbR l os,9))/\RepsOf n lv c rs' (nbS l os):=by
 obtain ⟨s',e,rs',rfl,hR'⟩:=di (f:=de a c lv (l,rs,(i:Int),0,acs,rws)) (fun k s=> ∃rs',s=(nbS l (os.take k),rs',nbR l (os.take k),(k:Int))/\RepsOf n lv c rs' (nbS l (os.take k))) 9 (by
  rintro k s hk ⟨r1,rfl,hR1⟩
  have hpre:=ep l (os.take k)
  have hlen:=hpre.length_le
  have hBk:=hB k
  have hrl:(nbR l (os.take k)).length<=9:=by rw[bO,aC];omega
  have hr1:=hR1.1
  obtain ⟨⟨g0,g1,g2⟩,gc⟩:=hR1.2 i (by omega)
  rw[b7 hpre (by omega) (by omega)] at gc
  have hsu:=ho _ ⟨g0,g1,g2⟩ gc
  have hok:nth os (k:Int)=if mv a (nth r1 (i:Int)) k≥0/\nth lv (mv a (nth r1 (i:Int)) k)=true then some (nth c (mv a (nth r1 (i:Int)) k)) else none:=by
   rw[<-hsu];exact zm hk
  have hmv:=V.mv (s:=nth r1 (i:Int)) (k:=k) g0 g1 hk
  unfold de
  simp only
  rw[if_pos (by simp;omega),aF (xs:=r1) (by omega) (by omega)];simp only[ae]
  rw[V.get g0 g1];simp only[ae]
  rw[V.get2 g0 g1 hk,take_one (by omega),jW,iT]
  simp only[ae,aM (show k<9223372036854775807 by omega)]
  by_cases c1:mv a (nth r1 (i:Int)) k≥0
  ·rw[if_pos (by simpa using c1),aF (xs:=lv) c1 (by omega)];simp only[ae]
   by_cases c2:nth lv (mv a (nth r1 (i:Int)) k)=true
   ·rw[if_pos ⟨c1,c2⟩] at hok
    rw[if_pos c2,aF (xs:=c) c1 (by omega),hok];simp only[ae]
    rw[Hf (by omega)];simp only[ae]
    by_cases c3:nth c (mv a (nth r1 (i:Int)) k)∈nbS l (os.take k)
    ·rw[if_pos c3,if_neg (by simp)];simp only[ae]
     rw[aQ (by simp;omega)]
     exact ⟨_,rfl,r1,by rw[dU c3];rfl,by rw[dU c3];exact hR1⟩
    ·rw[if_neg c3,if_pos (by decide)]
     rw[aQ (by simp;omega)];simp only[ae]
     rw[aQ (by simp;omega)];simp only[ae]
     rw[aQ (by simp;omega)];simp only[ae]
     refine ⟨_,rfl,r1++ [mv a (nth r1 (i:Int)) k],?_,?_⟩
     ·rw[du c3];simp only[nbI,iw c3]
     ·rw[du c3];exact hR1.snoc ⟨c1,hmv.2,c2⟩
   ·rw[if_neg (fun h=>c2 h.2)] at hok
    rw[if_neg c2,hok];simp only[ae]
    rw[aQ (by simp;omega)]
    exact ⟨_,rfl,r1,rfl,hR1⟩
  ·rw[if_neg (fun h=>c1 h.1)] at hok
   rw[if_neg (by simpa using c1),hok];simp only[ae]
   rw[aQ (by simp;omega)]
   exact ⟨_,rfl,r1,rfl,hR1⟩) (by
  rintro s ⟨r1,rfl,hR1⟩
  unfold de
  simp) (s:=(l,rs,[],0)) ⟨rs,rfl,hR⟩ (by unfold bt;omega)
 rw[List.take_of_length_le (by omega)] at e hR'
 exact ⟨rs',e,hR'⟩
theorem Ld (V:VA a n) (hn:n<=1000000) (hc:c.length=n) (hlv:lv.length=n) (hs:nth lv a.1=true) (H:NumOk nx (nth c a.1) G B) (hB:B<=1000000)
  (hnx: ∀r,good n lv r->nx (nth c r)=j0 a c lv r) (hacc: ∀r,good n lv r->acc (nth c r)=nth a.2.1 r) :
  ∃N,bfE nx (nth c a.1) N/\eb a c lv=some (0,(bfS nx (nth c a.1) N).map acc,bfR nx (nth c a.1) N):=by
 obtain ⟨N,hNB,hN⟩:=zf (nx:=nx) (first:=nth c a.1) (H.le)
 refine ⟨N,hN,?_⟩
 have hst:=V.start
 have hlen:=V.len
 unfold eb
 rw[aF hst.1 (by omega)];simp only[ae]
 rw[if_pos hs,aF hst.1 (by omega)];simp only[ae]
 obtain ⟨s',e,rs,rfl,hR⟩:=di (f:=eM a c lv) (fun i s=> ∃rs,s=(bfS nx (nth c a.1) i,rs,(i:Int),0,((bfS nx (nth c a.1) i).take i).map acc,bfR nx (nth c a.1) i)/\RepsOf n lv c rs (bfS nx (nth c a.1) i)) N (by
  rintro i s hi ⟨rs,rfl,hR⟩
  have hlt:=hN.2 i hi
  have hG:=H.at hlt
  have hle:=H.le i
  have hle':=H.le (i+1)
  obtain ⟨rs',e,hR'⟩:=Di (acs:=((bfS nx (nth c a.1) i).take i).map acc) (rws:=bfR nx (nth c a.1) i) V hn hc hlv hlt hR (os:=nx (nth (bfS nx (nth c a.1) i) (i:Int))) (H.len _ hG) (fun r hr e=>by rw[<-hnx r hr,e]) (fun k=>by
    have:(nbS (bfS nx (nth c a.1) i) ((nx (nth (bfS nx (nth c a.1) i) (i:Int))).take k)).length<=B:=H.bound _ (gl (fF i)) fun x hx=>by
     rcases jX.1 hx with hx | hx
     ·exact et H.g0 H.gn i x hx
     ·exact H.gn _ hG x (List.mem_of_mem_take hx)
    omega)
  unfold eM
  simp only
  rw[if_pos (by simp;omega),aJ e]
  rw[<-fG hlt] at hR'
  have hl2:=(aU (nx:=nx) (first:=nth c a.1) i).length_le
  have hr1:=hR'.1
  obtain ⟨⟨g0,g1,g2⟩,gc⟩:=hR'.2 i (by omega)
  rw[b7 (aU i) (by omega) (by omega)] at gc
  rw[aF (xs:=rs') (by omega) (by omega)];simp only[ae]
  rw[V.acc g0 g1,<-hacc _ ⟨g0,g1,g2⟩,gc];simp only[ae]
  have hr:(bfR nx (nth c a.1) i).length=i:=dq fun j hj=>hN.2 j (by omega)
  rw[aQ (by simp;omega)];simp only[ae]
  rw[aQ (by simp;omega)];simp only[ae,aM (show i<9223372036854775807 by omega)]
  exact ⟨_,rfl,rs',by rw[<-fG hlt,nq hlt,kV hlt],hR'⟩) (by
  rintro s ⟨rs,rfl,hR⟩
  unfold eM
  simp only
  rw[if_neg (by have:=hN.1;simp;omega)]) (s:=([nth c a.1],[a.1],0,0,[],[])) ⟨[a.1],rfl,rfl,fun j hj=>by
   obtain rfl:j=0:=by simpa [bfS] using hj
   exact ⟨⟨hst.1,hst.2,hs⟩,rfl⟩⟩ (lD (by omega))
 rw[aJ e]
 simp only
 rw[List.take_of_length_le (by have:=hN.1;omega)]
theorem xN (V:VA a n) (hlv:lv.length=n) (hs:nth lv a.1=false):eb a c lv=some nothing:=by
 have hst:=V.start
 unfold eb
 rw[aF hst.1 (by omega)];simp only[ae]
 rw[hs,Df];rfl
end
end D
namespace D
open Go.RowKit
abbrev AG:=(List Int)×Int×Int×(List Int)×Bool
abbrev JP (x:Int) (j:Nat):Bool:=(qR (lS x (j:Int)) 1)==1
def JQ (F:List Int) (set m0:Int):Nat->Int
 | 0=>m0
 | i+1=>if JP set (i+1) then orI (JQ F set m0 i) (nth F (i:Int)) else JQ F set m0 i
def pick (L:List Int) (m letter:Int):Nat->Int
 | 0=>0
 | i+1=>if nth L (i:Int)=letter/\JP m i=true then orI (pick L m letter i) (AZ 1 ((i+1:Nat):Int)) else pick L m letter i
def aft (p:AG) (set letter:Int):Int:=pick p.1 (JQ p.2.2.2.1 set (if (qR set 1)==1 then p.2.1 else 0) p.2.2.2.1.length) letter p.1.length
def tX (p:AG) (set:Int):Bool:=if (qR set 1)==1 then (if p.2.2.2.2 then true else (qR (lS set 1) p.2.2.1) !=0) else (qR (lS set 1) p.2.2.1) !=0
theorem tY (i:Nat):chk (0<=(i:Int))=some ():=by unfold chk;rw[if_pos (by omega)]
theorem Jt {p:AG} {set letter:Int} (hl:p.2.2.2.1.length=p.1.length) (hb:p.1.length<=1000000):iK p set letter=some (aft p set letter):=by
 have h0: ∀m0,aO (dH p set) bt (m0,0)=some (.brk (JQ p.2.2.2.1 set m0 p.1.length,(p.1.length:Int))):=fun m0 =>
  bY (f:=dH p set) (fun i=>(JQ p.2.2.2.1 set m0 i,(i:Int))) p.1.length (fun i hi=>by
   unfold dH
   simp only
   rw[if_pos (by simp;omega),aM (by omega),tY];simp only[ae]
   rw[JQ]
   by_cases c:JP set (i+1)=true
   ·rw[if_pos c,if_pos c,aF (by omega) (by omega)];rfl
   ·rw[if_neg c,if_neg c];rfl) (by unfold dH;simp) (lD (by omega))
 have h1: ∀s7:Int×Int,aO (dI p letter s7) bt (0,0)=some (.brk (pick p.1 s7.1 letter p.1.length,(p.1.length:Int))):=fun s7 =>
  bY (f:=dI p letter s7) (fun i=>(pick p.1 s7.1 letter i,(i:Int))) p.1.length (fun i hi=>by
   unfold dI
   simp only
   rw[if_pos (by simp;omega),aM (by omega),tY,tY];simp only[ae]
   rw[pick]
   by_cases c:JP s7.1 i=true
   ·rw[if_pos c,aF (by omega) (by omega)];simp only[ae]
    by_cases d:nth p.1 (i:Int)=letter
    ·rw[if_pos (by simpa using d),if_pos ⟨d,c⟩];rfl
    ·rw[if_neg (by simpa using d),if_neg (fun h=>d h.1)];rfl
   ·rw[if_neg c,if_neg (fun h=>c h.2)];rfl) (by unfold dI;simp) (lD (by omega))
 unfold iK aft
 rw[hl]
 by_cases c:((qR set 1)==1)=true
 ·rw[if_pos c,if_pos c];simp only[ae]
  rw[aJ (h0 _),aJ (h1 _)]
 ·rw[if_neg c,if_neg c];simp only[ae]
  rw[aJ (h0 _),aJ (h1 _)]
theorem Le (p:AG) (x:Int):fV p x=some (tX p x):=by
 unfold fV tX
 split <;> (try split) <;> rfl
def nxS (p:AG) (x:Int):List (Option Int):=(List.range 9).map fun k:Nat=>if aft p x (k:Int)=0 then none else some (aft p x (k:Int))
theorem Lf {p:AG} {x:Int} {k:Nat} (hk:k<9):nth (nxS p x) (k:Int)=if aft p x k=0 then none else some (aft p x k):=by
 have:k<(nxS p x).length:=by simp[nxS];omega
 rw[bd this];simp[nxS]
theorem Dj (p:AG) (x:Int):(nxS p x).length=9:=by simp[nxS]
theorem Hg {κ:Type} [DecidableEq κ] : ∀(l:List κ) (os:List (Option κ)),(nbS l os).length<=l.length+os.length
 | l,[] =>by simp[nbS]
 | l,o::os=>by
  have h:=Hg (nbL l o) os
  have h2:(nbL l o).length<=l.length+1:=by
   cases o with
   | none=>simp[nbL]
   | some x=>unfold nbL;simp only;split <;> simp
  show (nbS (nbL l o) os).length<=_
  simp only[az];omega
section
variable {κ:Type} [DecidableEq κ] (nx:κ->List (Option κ)) (first:κ) (acc:κ->Bool) (most:Nat)
def goM:Nat->Nat->AutT×Bool
 | 0,i=>((0,[],[]),false)
 | f+1,i=>if i<(bfS nx first i).length then (if (bfS nx first (i+1)).length>most then ((0,[],[]),false) else goM f (i+1)) else ((0,((bfS nx first i).take i).map acc,bfR nx first i),true)
end
section
variable {κ:Type} [DecidableEq κ] {nx:κ->List (Option κ)} {first:κ} {acc:κ->Bool} {most:Nat}
theorem xO {i:Nat} (h: ∀j,j<i->j<(bfS nx first j).length):i<=(bfS nx first i).length:=by
 cases i with
 | zero=>omega
 | succ i =>
  have h1:=h i (by omega)
  have h2:=(aU (nx:=nx) (first:=first) i).length_le
  omega
theorem F8 {S:Type} {f:S->Option (Out (AutT×Bool) S)} (hm:most<=1000000) (h1:1<=most) (st:Nat->S->Prop)
  (hs: ∀i s,st i s->(∀j,j<i->j<(bfS nx first j).length)->(bfS nx first i).length<=most->i<(bfS nx first i).length->((bfS nx first (i+1)).length>most->f s=some (.ret ((0,[],[]),false)))/\((bfS nx first (i+1)).length<=most-> ∃s',f s=some (.nxt s')/\st (i+1) s'))
  (he: ∀i s,st i s-> ¬i<(bfS nx first i).length->f s=some (.brk s)) {s:S} (h0:st 0 s) :
  (aO f bt s=some (.ret ((0,[],[]),false))/\goM nx first acc most (most+2) 0=((0,[],[]),false)) \/
  ∃N s',aO f bt s=some (.brk s')/\st N s'/\bfE nx first N/\N<=most/\goM nx first acc most (most+2) 0=((0,(bfS nx first N).map acc,bfR nx first N),true):=by
 obtain ⟨o,e,hq⟩:=eh (f:=f) (fun i s=>st i s/\(∀j,j<i->j<(bfS nx first j).length)/\(bfS nx first i).length<=most/\goM nx first acc most (most+2) 0=goM nx first acc most (most+2 - i) i)
  (fun o=>(o= .ret ((0,[],[]),false)/\goM nx first acc most (most+2) 0=((0,[],[]),false))\/ ∃N s',o= .brk s'/\st N s'/\bfE nx first N/\N<=most/\goM nx first acc most (most+2) 0=((0,(bfS nx first N).map acc,bfR nx first N),true)) most (s:=s) (by
  rintro i s hi ⟨k1,k2,k3,k4⟩
  have hle:=xO k2
  rw[show most+2 - i=(most+1 - i)+1 from by omega] at k4
  have k5:goM nx first acc most (most+1 - i+1) i=if i<(bfS nx first i).length then (if (bfS nx first (i+1)).length>most then ((0,[],[]),false) else goM nx first acc most (most+1 - i) (i+1)) else ((0,((bfS nx first i).take i).map acc,bfR nx first i),true):=rfl
  rw[k5] at k4
  by_cases c:i<(bfS nx first i).length
  ·rw[if_pos c] at k4
   obtain ⟨q1,q2⟩:=hs i s k1 k2 k3 c
   by_cases d:(bfS nx first (i+1)).length>most
   ·rw[if_pos d] at k4
    exact .inr ⟨_,q1 d,(fun s' e=>by cases e),.inl ⟨rfl,k4⟩⟩
   ·rw[if_neg d] at k4
    obtain ⟨s',e,hs'⟩:=q2 (by omega)
    exact .inl ⟨by omega,s',e,hs',fun j hj=>(by
     by_cases ej:j=i
     ·subst ej;exact c
     ·exact k2 j (by omega)),by omega,by rw[k4];congr 1;omega⟩
  ·rw[if_neg c] at k4
   refine .inr ⟨_,he i s k1 c,(fun s' e=>by cases e),.inr ⟨i,s,rfl,k1,⟨by omega,k2⟩,hi,?_⟩⟩
   rw[k4,List.take_of_length_le (by omega)]) ⟨h0,fun j hj=>by omega,by simp[bfS];omega,rfl⟩ (lD (by omega))
 rcases hq with ⟨rfl,h⟩ | ⟨N,s',rfl,h⟩
 ·exact .inl ⟨e,h⟩
 ·exact .inr ⟨N,s',e,h⟩
end
section
variable {p:AG} {most:Nat} (hl:p.2.2.2.1.length=p.1.length) (hb:p.1.length<=1000000) (hm:most<=900000) (h1:1<=most)
include hl hb hm h1
theorem F9 {l:List Int} {acs:List Bool} {rws:List (List Int)} {i:Nat} (hi:i<l.length) (hle:l.length<=most) :
  aO (cV p (l,(i:Int),0,acs,rws)) bt (l,[],0)=some (.brk (nbS l (nxS p (nth l (i:Int))),nbR l (nxS p (nth l (i:Int))),9)):=by
 have h9:=Dj p (nth l (i:Int))
 have:=bY (f:=cV p (l,(i:Int),0,acs,rws)) (fun k=>(nbS l ((nxS p (nth l (i:Int))).take k),nbR l ((nxS p (nth l (i:Int))).take k),(k:Int))) 9 (fun k hk=>by
  have hpre:=ep l ((nxS p (nth l (i:Int))).take k)
  have hlen:=hpre.length_le
  have hB:=Hg l ((nxS p (nth l (i:Int))).take k)
  rw[aC] at hB
  have hrl:(nbR l ((nxS p (nth l (i:Int))).take k)).length<=9:=by rw[bO,aC];omega
  unfold cV
  simp only[kd]
  rw[if_pos (by simp;omega),aF (by omega) (by omega)];simp only[ae]
  rw[b7 hpre (by omega) (by omega),Jt hl hb];simp only[ae]
  rw[take_one (by omega),jW,iT,Lf hk]
  simp only[aM (show k<9223372036854775807 by omega)]
  by_cases c:aft p (nth l (i:Int)) k=0
  ·rw[if_pos c,if_neg (by simp[c])];simp only[ae]
   rw[aQ (by simp;omega)];rfl
  ·rw[if_neg c,if_pos (by simpa using c),Hf (by omega)];simp only[ae]
   by_cases d:aft p (nth l (i:Int)) k∈nbS l ((nxS p (nth l (i:Int))).take k)
   ·rw[if_pos d,if_neg (by simp),dU d];simp only[ae]
    rw[aQ (by simp;omega)];rfl
   ·rw[if_neg d,if_pos (by decide),aQ (by simp;omega),du d];simp only[ae]
    rw[aQ (by simp;omega)];simp only[nbI,iw d,ae]) (by
  unfold cV
  simp) (by unfold bt;omega)
 have e9:(nxS p (nth l (i:Int))).take 9=nxS p (nth l (i:Int)):=List.take_of_length_le (by omega)
 rw[e9] at this
 exact this
theorem Mu:cD p most=some (goM (nxS p) 1 (tX p) most (most+2) 0):=by
 unfold cD
 rcases F8 (nx:=nxS p) (first:=1) (acc:=tX p) (most:=most) (f:=cW p most)
  (by omega) h1 (fun i s=>s=(bfS (nxS p) 1 i,(i:Int),0,((bfS (nxS p) 1 i).take i).map (tX p),bfR (nxS p) 1 i)) (by
   rintro i s rfl hj hle hlt
   have hil:=xO hj
   have e:=F9 hl hb hm h1 (acs:=((bfS (nxS p) 1 i).take i).map (tX p)) (rws:=bfR (nxS p) 1 i) hlt hle
   have hl2:=(aU (nx:=nxS p) (first:=1) i).length_le
   constructor
   ·intro hgt
    unfold cW
    simp only
    rw[if_pos (by simp;omega),aJ e,<-fG hlt]
    simp only
    rw[if_pos (by simp;omega)]
   ·intro hle2
    unfold cW
    simp only
    rw[if_pos (by simp;omega),aJ e,<-fG hlt]
    simp only
    rw[if_neg (by simp;omega),aF (by omega) (by omega)];simp only[ae]
    rw[b7 (aU i) (by omega) (by omega)]
    simp only[kd]
    rw[Le];simp only[ae]
    have hr:(bfR (nxS p) 1 i).length=i:=dq hj
    rw[aQ (by simp;omega)];simp only[ae]
    rw[aQ (by simp;omega)];simp only[ae,aM (show i<9223372036854775807 by omega)]
    exact ⟨_,rfl,by rw[nq hlt,kV hlt]⟩) (by
   rintro i s rfl hn
   unfold cW
   simp only
   rw[if_neg (by simp;omega)]) (s:=([1],0,0,[],[])) rfl with ⟨e,hg⟩ | ⟨N,s',e,rfl,hN,hNm,hg⟩
 ·rw[dj e,hg]
 ·rw[aJ e,hg];simp only
  rw[List.take_of_length_le (by have:=hN.1;omega)]
end
end D
namespace D
open Go.RowKit
def lk (F:List Int) (from_ to_:Int):Nat->List Int
 | 0=>F
 | i+1=>if JP from_ i then (lk F from_ to_ i).set i (orI (nth (lk F from_ to_ i) (i:Int)) to_) else lk F from_ to_ i
theorem sp (F:List Int) (f t:Int): ∀i,(lk F f t i).length=F.length
 | 0=>rfl
 | i+1=>by
  rw[lk]
  split
  ·rw[List.length_set,sp]
  ·exact sp F f t i
theorem Hh {p:AG} {f t:Int} (hl:p.2.2.2.1.length<=1000000):hH p f t=some (p.1,p.2.1,p.2.2.1,lk p.2.2.2.1 f t p.2.2.2.1.length,p.2.2.2.2):=by
 have hL:aO (eH f t) bt (0,p.2.2.2.1)=some (.brk ((p.2.2.2.1.length:Int),lk p.2.2.2.1 f t p.2.2.2.1.length)):=bY (f:=eH f t) (fun i=>((i:Int),lk p.2.2.2.1 f t i)) p.2.2.2.1.length (fun i hi=>by
  have hk:=sp p.2.2.2.1 f t i
  unfold eH
  simp only
  rw[if_pos (by simp;omega),tY];simp only[ae]
  rw[lk,aM (by omega)]
  by_cases c:JP f i=true
  ·rw[if_pos c,if_pos c,aF (by omega) (by omega)];simp only[ae,Int.toNat_natCast]
  ·rw[if_neg c,if_neg c];rfl) (by unfold eH;simp[sp]) (lD (by omega))
 unfold hH
 rw[aJ hL]
def Dk (e:List Tok):Nat->Nat
 | 0=>0
 | i+1=>if (nth e (i:Int)).1=3 then Dk e i+1 else Dk e i
theorem Dl (e:List Tok): ∀i,Dk e i<=i
 | 0=>aA _
 | i+1=>by
  have:=Dl e i
  rw[Dk];split <;> omega
theorem Mv {r:List Tok×Bool} (hl:r.1.length<=1000000):aO (bI r) bt (0,0)=some (.brk ((Dk r.1 r.1.length:Int),(r.1.length:Int))):=
 bY (f:=bI r) (fun i=>((Dk r.1 i:Int),(i:Int))) r.1.length (fun i hi=>by
  have:=Dl r.1 i
  unfold bI
  simp only
  rw[if_pos (by simp;omega),aF (by omega) (by omega)];simp only[ae]
  rw[Dk,aM (show i<9223372036854775807 by omega),aM (show Dk r.1 i<9223372036854775807 by omega)]
  by_cases c:(nth r.1 (i:Int)).1=3
  ·rw[if_pos (by simpa using c),if_pos c];rfl
  ·rw[if_neg (by simpa using c),if_neg c];rfl) (by unfold bI;simp) (lD (by omega))
end D
namespace D
open Go.RowKit
theorem AH (n:Nat) (l:List Int) (hd:l.Nodup) (h: ∀x∈l,0<=x/\x<n):l.length<=n:=by
 have:=hd.length_le_of_subset (l₂:=(List.range n).map Int.ofNat) (fun x hx=>by
  obtain ⟨h0,h1⟩:=h x hx
  exact List.mem_map.2 ⟨x.toNat,List.mem_range.2 (by omega),by show ((x.toNat:Nat):Int)=x;omega⟩)
 simpa using this
theorem Lg {n:Nat} {x:Int} (hn:n<=1000000) (h0:0<=x) (h1:x<n):iOk x=true:=by
 have:=xM (n:=x.toNat) (by omega)
 rwa [show ((x.toNat:Nat):Int)=x from by omega] at this
theorem Lh {κ:Type} [DecidableEq κ] {nx:κ->List (Option κ)} {first:κ} {G:κ->Prop} {B N:Nat} {acc:κ->Bool} (H:NumOk nx first G B) (hB:B<=1000000) (hN:bfE nx first N):Data.sm ((0,(bfS nx first N).map acc,bfR nx first N):AutT):=by
 have hl:=H.bound _ (fF (nx:=nx) (first:=first) N) (et H.g0 H.gn N)
 refine ⟨trivial,⟨by rw[List.length_map];omega,fun _ _=>trivial⟩,?_,?_⟩
 ·rw[dq hN.2];have:=hN.1;omega
 ·have key: ∀i,i<=N-> ∀r∈bfR nx first i,r.length=9:=by
   intro i
   induction i with
   | zero=>intro _ r hr;cases hr
   | succ i ih =>
    intro hi r hr
    have hlt:=hN.2 i (by omega)
    rw[lE hlt] at hr
    rcases aB hr with hr | hr
    ·exact ih (by omega) r hr
    ·obtain rfl:=al hr
     rw[bO,H.len _ (et H.g0 H.gn i _ (List.getElem_mem hlt))]
  intro r hr
  exact ⟨by rw[key N (aA _) r hr];decide,fun _ _=>trivial⟩
theorem AI:Data.sm nothing:=⟨trivial,⟨by decide,fun _ _=>trivial⟩,by decide,fun r hr=>by
 obtain rfl:=al hr
 exact ⟨by decide,fun _ _=>trivial⟩⟩
end D
namespace D
open Go.RowKit
theorem sq {κ:Type} [DecidableEq κ] {l m:List κ} (h:l <+:m) {y:κ} (hy:y∈l):(m.idxOf y:Int)=l.idxOf y:=by
 obtain ⟨t,rfl⟩:=h
 rw[List.idxOf_append,if_pos hy]
theorem Dm {κ:Type} [DecidableEq κ] : ∀(l:List κ) (os:List (Option κ)) (i:Nat),i<os.length->nth (nbR l os) (i:Int)=nbI (nbS l os) (nth os (i:Int))
 | l,o::os,0,_=>by
  show nbI l o=nbI (nbS (nbL l o) os) o
  cases o with
  | none=>rfl
  | some y =>
   have hm:y∈nbL l (some y):=C4.2 (.inr rfl)
   simp only[nbI]
   rw[sq (ep _ os) hm]
   by_cases c:y∈l
   ·rw[dU c]
   ·rw[du c,List.idxOf_append,if_neg c,iw c];simp
 | l,o::os,i+1,h=>by
  have h':i<os.length:=by simpa using h
  have ih:=Dm (nbL l o) os i h'
  have e1:nth (nbR l (o::os)) ((i+1:Nat):Int)=nth (nbR (nbL l o) os) (i:Int):=by
   rw[bd (by rw[bO];exact h),bd (by rw[bO];exact h')];rfl
  have e2:nth (o::os) ((i+1:Nat):Int)=nth os (i:Int):=by rw[bd h,bd h'];rfl
  rw[e1,e2];exact ih
theorem gx {κ:Type} [DecidableEq κ] {l:List κ} {y:κ} (h:y∈l): ∃(q:Nat) (hq:q<l.length),nbI l (some y)=(q:Int)/\l[q] =y:=
 ⟨l.idxOf y,List.idxOf_lt_length_of_mem h,rfl,by simp⟩
theorem qH {κ:Type} [DecidableEq κ] {l:List κ} {y:κ} (h:y∉l):nbI l (some y)=(l.length:Int):=by simp only[nbI,iw h]
def Hi:List Int->Nat->Nat->Prop
 | [],c,m=>c=m
 | x::xs,c,m=>(x= -1/\Hi xs c m)\/(0<=x/\x<c/\Hi xs c m)\/(x=c/\Hi xs (c+1) m)
theorem tZ {κ:Type} [DecidableEq κ] : ∀(os:List (Option κ)) (l:List κ),Hi (nbR l os) l.length (nbS l os).length
 | [],l=>rfl
 | none::os,l=>.inl ⟨rfl,tZ os l⟩
 | some y::os,l=>by
  by_cases c:y∈l
  ·refine .inr (.inl ⟨Int.natCast_nonneg _,?_,?_⟩)
   ·have:=List.idxOf_lt_length_of_mem c
    simp only[nbI];omega
   ·show Hi (nbR (nbL l (some y)) os) l.length (nbS (nbL l (some y)) os).length
    rw[dU c];exact tZ os l
  ·refine .inr (.inr ⟨by simp only[nbI,iw c],?_⟩)
   show Hi (nbR (nbL l (some y)) os) (l.length+1) (nbS (nbL l (some y)) os).length
   have:=tZ os (l++ [y])
   rw[du c]
   simpa using this
def LX:List Int->List (Option (List Int))->Prop
 | [],[] =>True
 | x::xs,o::os=>((x<0/\o=none)\/(0<=x/\ ∃t,o=some (x::t)))/\LX xs os
 | _,_=>False
theorem Dn: ∀(xs:List Int) (os:List (Option (List Int))),xs.length=os.length->(∀i (h:i<xs.length) (h':i<os.length),(xs[i] < 0/\os[i] =none)\/(0<=xs[i] /\ ∃t,os[i] =some (xs[i] ::t)))->LX xs os
 | [],[],_,_=>trivial
 | x::xs,o::os,hl,h=>⟨h 0 (by simp) (by simp),Dn xs os (by simpa using hl) fun i h1 h2=>h (i+1) (by simpa using h1) (by simpa using h2)⟩
theorem iy: ∀(xs:List Int) (os:List (Option (List Int))) (l:List (List Int)) (c m:Nat),LX xs os->Hi xs c m->(∀y∈l,∃h t,y=h::t/\h<c)->
  m+l.length<=(nbS l os).length+c/\(l.length=c->(∀(q:Nat) (hq:q<l.length),∃t,l[q] =(q:Int)::t)->(nbS l os).length=m->nbR l os=xs)
 | [],[],l,c,m,_,hn,_=>by
  have hn:c=m:=hn
  subst hn
  exact ⟨by simp[nbS];omega,fun _ _ _=>rfl⟩
 | x::xs,o::os,l,c,m,hr,hn,hh=>by
  obtain ⟨hr1,hr2⟩:=hr
  rcases hn with ⟨rfl,hn⟩ | ⟨hx0,hxc,hn⟩ | ⟨rfl,hn⟩
  ·have ho:o=none:=by
    rcases hr1 with ⟨-,h⟩ | ⟨h,-⟩
    ·exact h
    ·omega
   subst ho
   obtain ⟨i1,i2⟩:=iy xs os l c m hr2 hn hh
   exact ⟨i1,fun h1 h2 h3=>by show -1::nbR l os=_;rw[i2 h1 h2 h3]⟩
  ·obtain ⟨t,rfl⟩: ∃t,o=some (x::t):=by
    rcases hr1 with ⟨h,-⟩ | ⟨-,h⟩
    ·omega
    ·exact h
   by_cases k:(x::t)∈l
   ·obtain ⟨i1,i2⟩:=iy xs os l c m hr2 hn hh
    have hb:nbL l (some (x::t))=l:=dU k
    refine ⟨by show m+l.length<=(nbS (nbL l (some (x::t))) os).length+c;rw[hb];exact i1,fun h1 h2 h3=>?_⟩
    have h3:(nbS (nbL l (some (x::t))) os).length=m:=h3
    rw[hb] at h3
    obtain ⟨q,hq,e1,e2⟩:=gx k
    obtain ⟨t',ht'⟩:=h2 _ hq
    rw[e2] at ht'
    have:x=(q:Int):=by injection ht'
    show nbI l (some (x::t))::nbR (nbL l (some (x::t))) os=_
    rw[e1,<-this,hb,i2 h1 h2 h3]
   ·have hb:nbL l (some (x::t))=l++ [x::t]:=du k
    obtain ⟨i1,i2⟩:=iy xs os (l++ [x::t]) c m hr2 hn (fun y hy=>by
     rcases aB hy with hy | hy
     ·exact hh y hy
     ·obtain rfl:=al hy
      exact ⟨x,t,rfl,hxc⟩)
    rw[aw,List.length_singleton] at i1
    refine ⟨by show m+l.length<=(nbS (nbL l (some (x::t))) os).length+c;rw[hb];omega,fun h1 h2 h3=>?_⟩
    have h3:(nbS (nbL l (some (x::t))) os).length=m:=h3
    rw[hb] at h3
    omega
  ·obtain ⟨t,rfl⟩: ∃t,o=some ((c:Int)::t):=by
    rcases hr1 with ⟨h,-⟩ | ⟨-,h⟩
    ·omega
    ·exact h
   have k:((c:Int)::t)∉l:=fun k=>by
    obtain ⟨h,t',e,hlt⟩:=hh _ k
    have:(c:Int)=h:=by injection e
    omega
   have hb:nbL l (some ((c:Int)::t))=l++ [(c:Int)::t]:=du k
   obtain ⟨i1,i2⟩:=iy xs os (l++ [(c:Int)::t]) (c+1) m hr2 hn (fun y hy=>by
    rcases aB hy with hy | hy
    ·obtain ⟨h,t',e,hlt⟩:=hh y hy
     exact ⟨h,t',e,by omega⟩
    ·obtain rfl:=al hy
     exact ⟨c,t,rfl,by omega⟩)
   have hlen:(l++ [(c:Int)::t]).length=l.length+1:=by simp
   rw[hlen] at i1
   refine ⟨by show m+l.length<=(nbS (nbL l (some ((c:Int)::t))) os).length+c;rw[hb];omega,fun h1 h2 h3=>?_⟩
   have h3:(nbS (nbL l (some ((c:Int)::t))) os).length=m:=h3
   rw[hb] at h3
   have:=i2 (by rw[hlen,h1]) (fun q hq=>by
    by_cases e:q<l.length
    ·rw[List.getElem_append_left e];exact h2 q e
    ·have e:q=l.length:=by omega
     subst e
     exact ⟨t,by simp;omega⟩) h3
   show nbI l (some ((c:Int)::t))::nbR (nbL l (some ((c:Int)::t))) os=_
   rw[hb,this,qH k,h1]
theorem xP (xs ys:List Int) (hN:xs.length<=1048576): ∃r,jk xs ys=some r/\(r=0↔xs=ys):=by
 unfold jk
 have h0:=K0 (f:=iI xs ys) xs ys (fun i h h'=>by
  simp only[iI,vV h,vV h',if_true,iS h,iS h',ae,aM (show i<9223372036854775807 by omega)]
  by_cases h1:xs[i] < ys[i]
  ·simp[h1]
  ·by_cases h2:xs[i] > ys[i]
   ·simp[h1,h2]
   ·simp[h1,h2]) (fun i hi=>by
  simp only[iI]
  by_cases h1:i<xs.length
  ·have h2: ¬i<ys.length:=by omega
   simp[h1,h2]
  ·simp[h1]) xs.length 0 bt (by omega) (vW _ (by omega))
 rw[show (((0:Nat):Int))=(0:Int) from rfl] at h0
 rcases h0 with ⟨r,e,h1,h2⟩ | ⟨s,e,h1⟩
 ·exact ⟨r,by rw[e];rfl,by simp[h1,h2]⟩
 ·rw[e]
  simp only[be]
  by_cases c1:xs.length<ys.length
  ·exact ⟨-1,by simp[c1],by simp;intro e;subst e;omega⟩
  ·by_cases c2:xs.length>ys.length
   ·exact ⟨1,by simp[c1,c2],by simp;intro e;subst e;omega⟩
   ·exact ⟨0,by simp[c1,c2],by simpa using h1 (by omega)⟩
theorem Do (xs ys:List Int) (hN:xs.length<=9223372036854775807):cr xs ys=some (decide (xs=ys)):=
 eqL (f:=bp xs ys) xs ys hN (fun i h h'=>by
  simp only[bp,vV h,if_true,iS h,iS h',ae,aM (show i<9223372036854775807 by omega)]
  by_cases c:xs[i] =ys[i] <;> simp[c]) (by simp only[bp,xH];rfl)
def AU (a:AutT):List Int:=(List.range a.2.1.length).map fun s:Nat=>if nth (live a) (s:Int)=true then (if nth a.2.1 (s:Int)=true then 1 else 0) else -1
def ent (a:AutT) (c:List Int) (s:Int) (k:Nat):Int:=if mv a s k<0 then -1 else nth c (mv a s k)
def ua (a:AutT) (c:List Int) (s:Int):List Int:=nth c s::(List.range 9).map fun k=>ent a c s k
def uh (a:AutT) (c:List Int) (s:Nat):Option (List Int):=if nth c (s:Int)<0 then none else some (ua a c s)
def keys (a:AutT) (c:List Int):List (Option (List Int)):=(List.range a.2.1.length).map (uh a c)
def sr (a:AutT) (c:List Int):List Int:=nbR [] (keys a c)
def pc (a:AutT) (c:List Int):Nat:=(nbS [] (keys a c)).length
def cI (a:AutT):Nat->List Int
 | 0=>AU a
 | j+1=>sr a (cI a j)
section
variable {a:AutT} {n:Nat}
theorem cj (a:AutT) (c:List Int):(keys a c).length=a.2.1.length:=by simp[keys]
theorem xQ {c:List Int} {s:Nat} (h:s<a.2.1.length):nth (keys a c) (s:Int)=uh a c s:=by
 rw[bd (by simpa [keys] using h)];simp[keys]
theorem qI (a:AutT) (c:List Int):(sr a c).length=a.2.1.length:=by rw[sr,bO,cj]
theorem iz (a:AutT): ∀j,(cI a j).length=a.2.1.length
 | 0=>by simp[cI,AU]
 | j+1=>qI a _
theorem j3 {κ:Type} [DecidableEq κ] : ∀(l:List κ) (os:List (Option κ)),(nbS l os).length<=l.length+os.length
 | l,[] =>by simp[nbS]
 | l,o::os=>by
  have h:=j3 (nbL l o) os
  have:(nbL l o).length<=l.length+1:=by
   cases o with
   | none=>simp[nbL]
   | some x=>unfold nbL;simp only;split <;> simp
  show (nbS (nbL l o) os).length<=_
  rw[az];omega
theorem xR (a:AutT) (c:List Int):pc a c<=a.2.1.length:=by
 have:=j3 ([] :List (List Int)) (keys a c)
 rw[cj] at this
 simpa [pc] using this
theorem ub {c:List Int} {s:Nat} (h:s<a.2.1.length):nth (sr a c) (s:Int)=nbI (nbS [] (keys a c)) (uh a c s):=by
 rw[sr,Dm _ _ _ (by rw[cj];exact h),xQ h]
theorem qJ {c:List Int} {s:Nat} (h:s<a.2.1.length) (hc: ¬nth c (s:Int)<0):ua a c s∈nbS [] (keys a c):=by
 refine jX.2 (.inr ?_)
 refine List.mem_map.2 ⟨s,List.mem_range.2 h,?_⟩
 unfold uh;rw[if_neg hc]
theorem pd {c:List Int} {s:Nat} (h:s<a.2.1.length):(nth (sr a c) (s:Int)<0↔nth c (s:Int)<0)/\(nth (sr a c) (s:Int)<0->nth (sr a c) (s:Int)= -1):=by
 rw[ub h]
 unfold uh
 by_cases hc:nth c (s:Int)<0
 ·rw[if_pos hc];simp[nbI,hc]
 ·rw[if_neg hc]
  obtain ⟨q,hq,e,-⟩:=gx (qJ h hc)
  rw[e]
  exact ⟨⟨fun h=>by omega,fun h=>absurd h hc⟩,fun h=>by omega⟩
theorem Ju {c:List Int} {s:Nat} (h:s<a.2.1.length):nth (sr a c) (s:Int)<(a.2.1.length:Int):=by
 rw[ub h]
 unfold uh
 by_cases hc:nth c (s:Int)<0
 ·rw[if_pos hc];simp only[nbI];omega
 ·rw[if_neg hc]
  obtain ⟨q,hq,e,-⟩:=gx (qJ h hc)
  have:=xR a c
  unfold pc at this
  rw[e];omega
theorem Dq {c:List Int} {s t:Nat} (hs:s<a.2.1.length) (ht:t<a.2.1.length) (h0:0<=nth (sr a c) (s:Int)) (h:nth (sr a c) (s:Int)=nth (sr a c) (t:Int)):ua a c s=ua a c t:=by
 have n1: ¬nth c (s:Int)<0:=fun k=>by have:=(pd hs).1.2 k;omega
 have n2: ¬nth c (t:Int)<0:=fun k=>by have:=(pd ht).1.2 k;omega
 rw[ub hs,ub ht] at h
 unfold uh at h
 rw[if_neg n1,if_neg n2] at h
 obtain ⟨q,hq,e1,e2⟩:=gx (qJ hs n1)
 obtain ⟨q',hq',e1',e2'⟩:=gx (qJ ht n2)
 rw[e1,e1'] at h
 obtain rfl:q=q':=by omega
 rw[<-e2,<-e2']
theorem ss (a:AutT) {s:Nat} (h:s<a.2.1.length): ∀j,(nth (cI a j) (s:Int)<0↔nth (live a) (s:Int)=false)/\(nth (cI a j) (s:Int)<0->nth (cI a j) (s:Int)= -1)
 | 0=>by
  have e:nth (cI a 0) (s:Int)=if nth (live a) (s:Int)=true then (if nth a.2.1 (s:Int)=true then 1 else 0) else -1:=by
   show nth (AU a) (s:Int)=_
   rw[bd (by simpa [AU] using h)];simp[AU]
  rw[e]
  cases nth (live a) (s:Int) <;> cases nth a.2.1 (s:Int) <;> simp
 | j+1=>by
  have ih:=ss a h j
  have:=pd (c:=cI a j) h
  exact ⟨this.1.trans ih.1,this.2⟩
theorem Hj (a:AutT) {s t:Nat} (hs:s<a.2.1.length) (ht:t<a.2.1.length): ∀j,0<=nth (cI a j) (s:Int)->nth (cI a j) (s:Int)=nth (cI a j) (t:Int)->nth a.2.1 (s:Int)=nth a.2.1 (t:Int)
 | 0,h0,h=>by
  have e: ∀ {s:Nat},s<a.2.1.length->nth (cI a 0) (s:Int)=if nth (live a) (s:Int)=true then (if nth a.2.1 (s:Int)=true then 1 else 0) else -1:=by
   intro s h
   show nth (AU a) (s:Int)=_
   rw[bd (by simpa [AU] using h)];simp[AU]
  rw[e hs] at h0 h
  rw[e ht] at h
  revert h0 h
  cases nth (live a) (s:Int) <;> cases nth a.2.1 (s:Int) <;> cases nth (live a) (t:Int) <;> cases nth a.2.1 (t:Int) <;> simp
 | j+1,h0,h=>by
  have k:=Dq (c:=cI a j) hs ht h0 h
  have h1:nth (cI a j) (s:Int)=nth (cI a j) (t:Int):=by
   unfold ua at k;injection k
  refine Hj a hs ht j ?_ h1
  have:=(pd (c:=cI a j) hs).1
  by_cases q:nth (cI a j) (s:Int)<0
  ·have:=this.2 q
   have h0:0<=nth (sr a (cI a j)) (s:Int):=h0
   omega
  ·omega
theorem Jv (a:AutT) (j:Nat):Hi (cI a (j+1)) 0 (pc a (cI a j)):=tZ (keys a (cI a j)) []
theorem Gc (a:AutT) {c:List Int} (hc:c.length=a.2.1.length):LX c (keys a c):=by
 refine Dn _ _ (by rw[cj,hc]) fun i h h'=>?_
 have e1:c[i] =nth c (i:Int):=(bd h).symm
 have e2:(keys a c)[i] =uh a c i:=by simp[keys]
 rw[e1,e2]
 unfold uh
 by_cases k:nth c (i:Int)<0
 ·exact .inl ⟨k,by rw[if_pos k]⟩
 ·exact .inr ⟨by omega,_,by rw[if_neg k];rfl⟩
theorem Dr (a:AutT) (j:Nat):pc a (cI a j)<=pc a (cI a (j+1))/\(pc a (cI a (j+1))=pc a (cI a j)->cI a (j+2)=cI a (j+1)):=by
 obtain ⟨h1,h2⟩:=iy (cI a (j+1)) (keys a (cI a (j+1))) [] 0 (pc a (cI a j)) (Gc a (iz a _)) (Jv a j) (fun y hy=>by cases hy)
 exact ⟨by simpa [pc] using h1,fun h=>h2 rfl (fun q hq=>absurd hq (Nat.not_lt_zero q)) h⟩
theorem Hk {j k:Nat} (h:cI a (j+1)=cI a j) (hk:j<=k):cI a k=cI a j:=by
 induction hk with
 | refl=>rfl
 | step _ ih=>rw[cI,ih];exact h
theorem Ds {j k:Nat} (h:cI a (j+1)=cI a j) (h':cI a (k+1)=cI a k):cI a j=cI a k:=by
 rcases Nat.le_total j k with e | e
 ·exact (Hk h e).symm
 ·exact Hk h' e
theorem Jw (a:AutT): ∃j,j<=a.2.1.length/\cI a (j+1)=cI a j:=by
 by_cases h0:cI a 1=cI a 0
 ·exact ⟨0,Nat.zero_le _,h0⟩
 have hpos:1<=pc a (cI a 0):=by
  refine Nat.one_le_iff_ne_zero.2 fun hz=>h0 ?_
  have hnone: ∀s:Nat,s<a.2.1.length->nth (cI a 0) (s:Int)<0:=fun s hs=>by
   refine Classical.byContradiction fun k=>?_
   have:=qJ (c:=cI a 0) hs k
   have hl:=List.length_pos_of_mem this
   unfold pc at hz;omega
  refine Jm (by rw[iz,iz]) fun i hi=>?_
  rw[iz] at hi
  have h1:=(ss a hi 0).2 (hnone i hi)
  have h2:=(ss a hi 1).2 (((ss a hi 1).1.trans (ss a hi 0).1.symm).2 (hnone i hi))
  rw[h1,h2]
 have key: ∀m,(∃j,j<=m/\cI a (j+1)=cI a j)\/m+1<=pc a (cI a m):=by
  intro m
  induction m with
  | zero=>exact .inr hpos
  | succ m ih =>
   rcases ih with ⟨j,hj,e⟩ | ih
   ·exact .inl ⟨j,by omega,e⟩
   ·obtain ⟨g1,g2⟩:=Dr a m
    by_cases e:pc a (cI a (m+1))=pc a (cI a m)
    ·exact .inl ⟨m+1,aA _,g2 e⟩
    ·exact .inr (by omega)
 rcases key a.2.1.length with h | h
 ·exact h
 ·have:=xR a (cI a a.2.1.length);omega
end
end D
namespace D
open Go.RowKit
section
variable {a:AutT} {n:Nat} {c:List Int}
theorem zn (k:Nat) (s:Int):(List.range (k+1)).map (fun k=>ent a c s k)=(List.range k).map (fun k=>ent a c s k)++ [ent a c s k]:=by simp[List.range_succ]
theorem Mw (V:VA a n) (hn:n<=1000000) (hc:c.length=n) {s:Nat} (hs:s<n):jl a c s=some (ua a c s):=by
 unfold jl
 rw[aF (by omega) (by omega)];simp only[ae]
 have:=bY (f:=gD a c s) (fun k=>(nth c (s:Int)::(List.range k).map (fun k=>ent a c s k),(k:Int))) 9 (fun k hk=>by
  have hm:=V.mv (s:=s) (k:=k) (by omega) (by omega) hk
  unfold gD
  simp only
  rw[if_pos (by simp;omega),V.get (by omega) (by omega)];simp only[ae]
  rw[V.get2 (by omega) (by omega) hk,zn];simp only[ae,aM (show k<9223372036854775807 by omega)]
  by_cases h:mv a s k<0
  ·rw[if_pos (by simpa using h),aQ (by simp;omega),show ent a c s k= -1 from by unfold ent;rw[if_pos h]];rfl
  ·rw[if_neg (by simpa using h),aF (by omega) (by omega)];simp only[ae]
   rw[aQ (by simp;omega),show ent a c s k=nth c (mv a s k) from by unfold ent;rw[if_neg h]];rfl) (by unfold gD;simp) (by unfold bt;omega)
 exact aJ this
theorem Mx (V:VA a n) (hn:n<=1000000) (hc:c.length=n) {s:Nat} (hs:s<n):aO (bw c (nth a.2.2 (s:Int))) bt (0,[nth c (s:Int)])=some (.brk (9,ua a c s)):=by
 have hr:=V.rowAt (s:=s) (by omega) (by omega)
 exact bY (f:=bw c (nth a.2.2 (s:Int))) (fun k=>((k:Int),nth c (s:Int)::(List.range k).map (fun k=>ent a c s k))) 9 (fun k hk=>by
  have hm:=V.mv (s:=s) (k:=k) (by omega) (by omega) hk
  unfold bw
  simp only
  rw[if_pos (by simp[hr];omega),V.get2 (by omega) (by omega) hk,zn];simp only[ae,aM (show k<9223372036854775807 by omega)]
  by_cases h:mv a s k<0
  ·have e:mv a s k= -1:=by omega
   rw[if_neg (by simp;omega)];simp only[ae]
   rw[aQ (by simp;omega),show ent a c s k=mv a s k from by unfold ent;rw[if_pos h,e]];rfl
  ·rw[if_pos (by simp;omega),aF (by omega) (by omega)];simp only[ae]
   rw[aQ (by simp;omega),show ent a c s k=nth c (mv a s k) from by unfold ent;rw[if_neg h]];rfl) (by unfold bw;simp[hr]) (by unfold bt;omega)
theorem v9 {κ:Type} [DecidableEq κ] {l t r:List κ} {x:κ} (e:l=t++x::r) (hx:x∉t):nbI l (some x)=(t.length:Int):=by
 subst e
 simp only[nbI]
 rw[List.idxOf_append,if_neg hx,List.idxOf_cons_self,Nat.zero_add]
def Li (l:List (List Int)) (x:List Int):Int:=if x∈l then nbI l (some x) else -1
theorem Lj {l:List (List Int)} {x cs:List Int} {q:Int} (hl:l.length<=1000000) (hd:l.Nodup) (hx: ∀y∈l,y.length<=1048576):aO (cT (l,cs,q) x) bt (-1,0)=some (.brk (Li l x,(l.length:Int))):=by
 have:=bY (f:=cT (l,cs,q) x) (fun k=>(if x∈l.take k then nbI l (some x) else -1,(k:Int))) l.length (fun k hk=>by
  unfold cT
  simp only
  rw[if_pos (by simp;omega),aF (by omega) (by omega)];simp only[ae,Int.toNat_natCast,aM (show k<9223372036854775807 by omega)]
  obtain ⟨r,e,hr⟩:=xP (nth l (k:Int)) x (hx _ (cF (by omega) (by omega)))
  rw[e,take_one hk];simp only[ae,List.mem_append,List.mem_singleton]
  by_cases h:nth l (k:Int)=x
  ·have h0:r=0:=hr.2 h
   have hm:x∈l:=h ▸ cF (by omega) (by omega)
   obtain ⟨q,hq,e1,e2⟩:=gx hm
   have:q=k:=by
    have h1:l[q]? =some x:=by rw[List.getElem?_eq_getElem hq,e2]
    have h2:l[k]? =some x:=by rw[List.getElem?_eq_getElem hk,<-bd hk,h]
    exact (List.getElem?_inj hq hd).1 (h1.trans h2.symm)
   subst this
   rw[if_pos (by simp[h0]),if_pos (.inr h.symm),e1];rfl
  ·have h0:r≠0:=fun e=>h (hr.1 e)
   have hn: ¬x=nth l (k:Int):=fun e=>h e.symm
   rw[if_neg (by simpa using h0)]
   simp[hn]) (by unfold cT;simp) (lD (by omega))
 rw[List.take_of_length_le (aA _)] at this
 exact this
theorem Lk {l:List (List Int)} {x:List Int} {f:List Int->Option Bool} (hl:l.length<=1000000) (hf: ∀y∈l,f y=some (decide (y=x))):bc l f=some (Li l x):=by
 unfold bc
 obtain ⟨o,e,hq⟩:=eh (f:=bh l f) (fun k s=>s=(k:Int)/\x∉l.take k) (fun o=>(x∈l/\o= .ret (nbI l (some x)))\/(x∉l/\ ∃s,o= .brk s)) l.length (s:=0) (by
  rintro k s hk ⟨rfl,hx⟩
  unfold bh
  by_cases hkl:k<l.length
  ·rw[if_pos (by simp;omega),aF (by omega) (by omega)];simp only[ae]
   rw[hf _ (cF (by omega) (by omega))];simp only[ae]
   by_cases h:nth l (k:Int)=x
   ·refine .inr ⟨_,by rw[if_pos (by simpa using h)],(fun s' e=>by cases e),.inl ?_⟩
    have hm:x∈l:=h ▸ cF (by omega) (by omega)
    refine ⟨hm,?_⟩
    have e:l=l.take k++(x::l.drop (k+1)):=by
     rw[<-h,bd hkl,<-List.drop_eq_getElem_cons hkl,List.take_append_drop]
    rw[v9 e hx,aC,Nat.min_eq_left (by omega)]
   ·refine .inl ⟨hkl,_,by rw[if_neg (by simpa using h)],by rw[aM (by omega)],?_⟩
    rw[take_one hkl,List.mem_append,List.mem_singleton]
    rintro (h' | h')
    ·exact hx h'
    ·exact h h'.symm
  ·refine .inr ⟨_,by rw[if_neg (by simp;omega)],(fun s' e=>by cases e),.inr ⟨?_,_,rfl⟩⟩
   rwa [List.take_of_length_le (by omega)] at hx) ⟨rfl,by simp⟩ (lD (by omega))
 unfold Li
 rcases hq with ⟨hx,rfl⟩ | ⟨hx,s,rfl⟩
 ·rw[dj e,if_pos hx]
 ·rw[aJ e,if_neg hx]
theorem qK {os:List (Option (List Int))} (h: ∀y,some y∈os->y.length=10): ∀y∈nbS [] os,y.length=10:=fun y hy=>by
 rcases jX.1 hy with hy | hy
 ·cases hy
 ·exact h y hy
theorem su (a:AutT) (c:List Int): ∀y,some y∈keys a c->y.length=10:=by
 intro y hy
 obtain ⟨s,-,e⟩:=List.mem_map.1 hy
 unfold uh at e
 split at e
 ·cases e
 ·rw[<-aa e];simp[ua]
section
variable (V:VA a n) (hn:n<=1000000) (hc:c.length=n)
include V hn hc
theorem zo (s:Nat):(nbS [] ((keys a c).take s)).length<=n:=by
 have:=j3 ([] :List (List Int)) ((keys a c).take s)
 rw[aC,cj,V.len] at this
 simp at this;omega
theorem Ge {m:Int} :aO (cU a (c,m)) bt ([],[],0)=some (.brk (nbS [] (keys a c),sr a c,(n:Int))):=by
 have hlen:=V.len
 have:=bY (f:=cU a (c,m)) (fun s=>(nbS [] ((keys a c).take s),nbR [] ((keys a c).take s),(s:Int))) n (fun s hs=>by
  have hkl:=zo V hn hc s
  have hrl:(nbR [] ((keys a c).take s)).length<=n:=by rw[bO,aC,cj];omega
  unfold cU
  simp only
  rw[if_pos (by simp;omega),aF (by omega) (by omega)];simp only[ae]
  rw[take_one (by rw[cj];omega),jW,iT,xQ (by omega)]
  simp only[aM (show s<9223372036854775807 by omega)]
  by_cases h:nth c (s:Int)<0
  ·rw[if_pos (by simpa using h),aQ (by simp;omega),show uh a c s=none from by unfold uh;rw[if_pos h]];rfl
  ·rw[if_neg (by simpa using h),show uh a c s=some (ua a c s) from by unfold uh;rw[if_neg h]]
   rw[show jl (a.1,a.2.1,a.2.2) c (s:Int)=some (ua a c s) from Mw V hn hc hs];simp only[ae]
   rw[aJ (Lj (by omega) (gl (by simp)) (fun y hy=>by rw[qK (fun y hy=>su a c y (List.mem_of_mem_take hy)) y hy];decide))]
   simp only
   unfold Li
   by_cases k:ua a c s∈nbS [] ((keys a c).take s)
   ·obtain ⟨q,hq,e1,e2⟩:=gx k
    rw[if_pos k,dU k,e1,if_neg (by simp)];simp only[ae]
    rw[aQ (by simp;omega)];rfl
   ·rw[if_neg k,du k,qH k,if_pos (show decide ((-1:Int)<0)=true from rfl),aQ (by simp;omega)];simp only[ae]
    rw[aQ (by simp;omega)];rfl) (by
  unfold cU
  simp only
  rw[if_neg (by simp;omega)]) (lD (by omega))
 rw[show (keys a c).take n=keys a c from List.take_of_length_le (by rw[cj];omega)] at this
 exact this
theorem Gf:bR a c=some (sr a c,(pc a c:Int)):=by
 have hlen:=V.len
 unfold bR
 have:=bY (f:=bV a c) (fun s=>(nbS [] ((keys a c).take s),nbR [] ((keys a c).take s),(s:Int))) n (fun s hs=>by
  have hkl:=zo V hn hc s
  have hrl:(nbR [] ((keys a c).take s)).length<=n:=by rw[bO,aC,cj];omega
  unfold bV
  simp only
  rw[if_pos (by simp;omega),aF (by omega) (by omega)];simp only[ae]
  rw[take_one (by rw[cj];omega),jW,iT,xQ (by omega)]
  simp only[aM (show s<9223372036854775807 by omega)]
  by_cases h:nth c (s:Int)<0
  ·rw[if_pos (by simpa using h),aQ (by simp;omega),show uh a c s=none from by unfold uh;rw[if_pos h]];rfl
  ·rw[if_neg (by simpa using h),show uh a c s=some (ua a c s) from by unfold uh;rw[if_neg h],V.get (by omega) (by omega)];simp only[ae]
   rw[aJ (Mx V hn hc hs)];simp only
   rw[Lk (x:=ua a c s) (by omega) (fun y hy=>by
    unfold dt
    rw[Do _ _ (by rw[qK (fun y hy=>su a c y (List.mem_of_mem_take hy)) y hy];decide)];rfl)];simp only[ae]
   unfold Li
   by_cases k:ua a c s∈nbS [] ((keys a c).take s)
   ·obtain ⟨q,hq,e1,e2⟩:=gx k
    rw[if_pos k,dU k,e1,if_neg (by simp)];simp only[ae]
    rw[aQ (by simp;omega)];rfl
   ·rw[if_neg k,du k,qH k,if_pos (show decide ((-1:Int)<0)=true from rfl),aQ (by simp;omega)];simp only[ae]
    rw[aQ (by simp;omega)];rfl) (by
  unfold bV
  simp only
  rw[if_neg (by simp;omega)]) (lD (by omega))
 rw[show (keys a c).take n=keys a c from List.take_of_length_le (by rw[cj];omega)] at this
 exact aJ this
end
end
section
variable {a:AutT} {n:Nat} (V:VA a n) (hn:n<=1000000)
include V hn
theorem wc (s:Nat):(List.range (s+1)).map (fun s:Nat=>if nth (live a) (s:Int)=true then (if nth a.2.1 (s:Int)=true then (1:Int) else 0) else -1)=(List.range s).map (fun s:Nat=>if nth (live a) (s:Int)=true then (if nth a.2.1 (s:Int)=true then 1 else 0) else -1)++ [if nth (live a) (s:Int)=true then (if nth a.2.1 (s:Int)=true then 1 else 0) else -1]:=by simp[List.range_succ]
theorem Ll:aO (cS a (live a)) bt ([],0)=some (.brk (AU a,(n:Int))):=by
 have hlen:=V.len
 have hll:(live a).length=n:=by rw[jZ,hlen]
 have:=bY (f:=cS a (live a)) (fun s=>((List.range s).map (fun s:Nat=>if nth (live a) (s:Int)=true then (if nth a.2.1 (s:Int)=true then (1:Int) else 0) else -1),(s:Int))) n (fun s hs=>by
  unfold cS
  simp only
  rw[if_pos (by simp;omega),V.acc (by omega) (by omega)];simp only[ae]
  rw[wc V hn,aF (xs:=live a) (by omega) (by omega)];simp only[aM (show s<9223372036854775807 by omega)]
  cases nth (live a) (s:Int) <;> cases nth a.2.1 (s:Int) <;> simp only[if_true,if_false,Bool.false_eq_true,ae] <;> rw[aQ (by simp;omega)] <;> rfl) (by
  unfold cS
  simp only
  rw[if_neg (by simp;omega)]) (lD (by omega))
 unfold AU
 rw[hlen]
 exact this
theorem Lm:aO (bq a (live a)) bt ([],0)=some (.brk (AU a,(n:Int))):=by
 have hlen:=V.len
 have hll:(live a).length=n:=by rw[jZ,hlen]
 have:=bY (f:=bq a (live a)) (fun s=>((List.range s).map (fun s:Nat=>if nth (live a) (s:Int)=true then (if nth a.2.1 (s:Int)=true then (1:Int) else 0) else -1),(s:Int))) n (fun s hs=>by
  unfold bq
  simp only
  rw[if_pos (by simp;omega),aF (xs:=live a) (by omega) (by omega)];simp only[ae]
  rw[wc V hn,V.acc (by omega) (by omega)];simp only[aM (show s<9223372036854775807 by omega)]
  cases nth (live a) (s:Int) <;> cases nth a.2.1 (s:Int) <;> simp only[if_true,if_false,Bool.false_eq_true,ae] <;> rw[aQ (by simp;omega)] <;> rfl) (by
  unfold bq
  simp only
  rw[if_neg (by simp;omega)]) (lD (by omega))
 unfold AU
 rw[hlen]
 exact this
theorem Dt: ∃J,cI a (J+1)=cI a J/\eG a=some (cI a J):=by
 have hlen:=V.len
 unfold eG
 rw[show fO (a.1,a.2.1,a.2.2)=some (live a) from He V hn];simp only[ae]
 rw[aJ (Ll V hn)]
 obtain ⟨J0,hJ0,hfix⟩:=Jw a
 obtain ⟨o,e,j,rfl,hj⟩:=eh (f:=fP a) (fun j s=>s=(cI a j,(j:Int))/\j<=J0) (fun o=> ∃j,o= .ret (cI a j)/\cI a (j+1)=cI a j) (J0+1) (s:=(cI a 0,0)) (by
  rintro j s hj ⟨rfl,hjJ⟩
  have hcl:(cI a j).length=n:=by rw[iz,hlen]
  unfold fP
  simp only
  rw[if_pos (by simp;omega),aJ (Ge V hn hcl)]
  simp only
  obtain ⟨r,er,hr⟩:=xP (sr a (cI a j)) (cI a j) (by rw[qI];omega)
  rw[er];simp only[ae,aM (show j<9223372036854775807 by omega)]
  by_cases h:sr a (cI a j)=cI a j
  ·exact .inr ⟨_,by rw[if_pos (by simpa using hr.2 h)],(fun s' e=>by cases e),j,rfl,h⟩
  ·refine .inl ⟨by omega,(cI a (j+1),((j+1:Nat):Int)),by rw[if_neg (by simpa using fun e=>h (hr.1 e))];rfl,rfl,?_⟩
   by_cases e:j=J0
   ·subst e;exact absurd hfix h
   ·omega) ⟨rfl,Nat.zero_le _⟩ (lD (by omega))
 exact ⟨j,hj,dj e⟩
theorem Du: ∃J,cI a (J+1)=cI a J/\bL a=some (cI a J):=by
 have hlen:=V.len
 unfold bL
 rw[show cx (a.1,a.2.1,a.2.2)=some (live a) from Lb V hn];simp only[ae]
 rw[aJ (Lm V hn)]
 let kk:Nat->Int:=fun j=>match j with | 0=> -1 | i+1=>(pc a (cI a i):Int)
 obtain ⟨o,e,j,rfl,hj⟩:=eh (f:=cX a) (fun j s=>s=(cI a j,kk j)/\(j:Int)<=kk j+1) (fun o=> ∃j,o= .ret (cI a j)/\cI a (j+1)=cI a j) (n+2) (s:=(cI a 0,-1)) (by
  rintro j s hj ⟨rfl,hjk⟩
  have hcl:(cI a j).length=n:=by rw[iz,hlen]
  have hle:=xR a (cI a j)
  unfold cX
  simp only
  rw[show bR (a.1,a.2.1,a.2.2) (cI a j)=some (sr a (cI a j),(pc a (cI a j):Int)) from Gf V hn hcl];simp only[ae]
  cases j with
  | zero =>
   refine .inl ⟨by omega,(cI a 1,kk 1),by rw[if_neg (by show¬((pc a (cI a 0):Int) == -1)=true;simp)];rfl,rfl,?_⟩
   show (1:Int)<=(pc a (cI a 0):Int)+1
   omega
  | succ i =>
   obtain ⟨g1,g2⟩:=Dr a i
   have hki:kk (i+1)=(pc a (cI a i):Int):=rfl
   rw[hki] at hjk⊢
   by_cases h:pc a (cI a (i+1))=pc a (cI a i)
   ·refine .inr ⟨.ret (cI a (i+2)),by rw[if_pos (by simp[h])];rfl,(fun s' e=>by cases e),i+2,rfl,?_⟩
    have:=g2 h
    show sr a (cI a (i+2))=cI a (i+2)
    rw[this];exact this
   ·refine .inl ⟨?_,(cI a (i+2),kk (i+2)),by rw[if_neg (by simp;omega)];rfl,rfl,?_⟩
    ·omega
    ·show ((i+1+1:Nat):Int)<=(pc a (cI a (i+1)):Int)+1
     omega) ⟨rfl,by show ((0:Nat):Int)<= -1+1;omega⟩ (lD (by omega))
 exact ⟨j,hj,dj e⟩
theorem AJ: ∃c,eG a=some c/\bL a=some c/\c.length=n/\sr a c=c/\ ∃j,c=cI a j:=by
 obtain ⟨J,hJ,es⟩:=Dt V hn
 obtain ⟨J',hJ',ei⟩:=Du V hn
 have:=Ds hJ hJ'
 exact ⟨cI a J,es,by rw[this];exact ei,by rw[iz,V.len],hJ,J,rfl⟩
end
end D
namespace D
open Go.RowKit
section
variable {κ:Type} [DecidableEq κ] [Inhabited κ] {nx:κ->List (Option κ)} {first:κ} {G:κ->Prop} {B N:Nat} {acc:κ->Bool}
theorem qL: ∀(l:List κ) (os:List (Option κ)),∀t∈nbR l os,-1<=t/\t<((nbS l os).length:Int)
 | l,[] =>fun t ht=>by cases ht
 | l,o::os=>fun t ht=>by
  have hp:=ep (nbL l o) os
  have hl:=hp.length_le
  rcases ax ht with rfl | ht
  ·show -1<=nbI l o/\nbI l o<((nbS (nbL l o) os).length:Int)
   cases o with
   | none=>exact ⟨by simp[nbI],by simp only[nbI];omega⟩
   | some y =>
    by_cases c:y∈l
    ·obtain ⟨q,hq,e,-⟩:=gx c
     rw[dU c] at hl
     rw[e];exact ⟨by omega,by rw[dU c];omega⟩
    ·rw[du c] at hl
     rw[qH c];rw[aw] at hl
     exact ⟨by omega,by rw[du c];simp at hl;omega⟩
  ·exact qL (nbL l o) os t ht
theorem Dv (H:NumOk nx first G B) (hN:bfE nx first N):VA ((0,(bfS nx first N).map acc,bfR nx first N):AutT) N:=by
 have h0:0<N:=by
  have:=nl (nx:=nx) (first:=first) N
  have:=(List.getElem?_eq_some_iff.1 this).1
  have:=hN.1;omega
 have key: ∀i,i<=N-> ∀r∈bfR nx first i,r.length=9/\ ∀t∈r,-1<=t/\t<(N:Int):=by
  intro i
  induction i with
  | zero=>intro _ r hr;cases hr
  | succ i ih =>
   intro hi r hr
   have hlt:=hN.2 i (by omega)
   rw[lE hlt] at hr
   rcases aB hr with hr | hr
   ·exact ih (by omega) r hr
   ·obtain rfl:=al hr
    refine ⟨by rw[bO,H.len _ (et H.g0 H.gn i _ (List.getElem_mem hlt))],fun t ht=>?_⟩
    have:=qL _ _ t ht
    rw[<-o7 hlt] at this
    have hl:=(jv (nx:=nx) (first:=first) hi).length_le
    have:=hN.1
    omega
 exact ⟨by show ((bfS nx first N).map acc).length=N;rw[List.length_map];exact hN.1.symm,⟨Int.le_refl _,by show (0:Int)<N;omega⟩,dq hN.2,fun r hr=>(key N (aA _) r hr).1,fun r hr=>(key N (aA _) r hr).2⟩
theorem Jx (hlen: ∀x,(nx x).length=9) (hN:bfE nx first N):VA ((0,(bfS nx first N).map acc,bfR nx first N):AutT) N:=by
 have h0:0<N:=by
  have:=nl (nx:=nx) (first:=first) N
  have:=(List.getElem?_eq_some_iff.1 this).1
  have:=hN.1;omega
 have key: ∀i,i<=N-> ∀r∈bfR nx first i,r.length=9/\ ∀t∈r,-1<=t/\t<(N:Int):=by
  intro i
  induction i with
  | zero=>intro _ r hr;cases hr
  | succ i ih =>
   intro hi r hr
   have hlt:=hN.2 i (by omega)
   rw[lE hlt] at hr
   rcases aB hr with hr | hr
   ·exact ih (by omega) r hr
   ·obtain rfl:=al hr
    refine ⟨by rw[bO,hlen _],fun t ht=>?_⟩
    have:=qL _ _ t ht
    rw[<-o7 hlt] at this
    have hl:=(jv (nx:=nx) (first:=first) hi).length_le
    have:=hN.1
    omega
 exact ⟨by show ((bfS nx first N).map acc).length=N;rw[List.length_map];exact hN.1.symm,⟨Int.le_refl _,by show (0:Int)<N;omega⟩,dq hN.2,fun r hr=>(key N (aA _) r hr).1,fun r hr=>(key N (aA _) r hr).2⟩
end
theorem VA.self {a:AutT} {n:Nat} (v:VA a n):VA a a.2.1.length:=by
 have e:=v.len
 subst e
 exact v
theorem sv:VA nothing 1:=⟨rfl,⟨by decide,by decide⟩,rfl,fun r hr=>by
 obtain rfl:=al hr
 decide,fun r hr=>by
 obtain rfl:=al hr
 decide⟩
end D
namespace D
open Go.RowKit
theorem Dw {κ:Type} [DecidableEq κ] {nx:κ->List (Option κ)} {first:κ} {acc:κ->Bool} {most:Nat} : ∀(f i:Nat),(∀j,j<i->j<(bfS nx first j).length)->(bfS nx first i).length<=most->goM nx first acc most f i=((0,[],[]),false)\/ ∃N,bfE nx first N/\N<=most/\goM nx first acc most f i=((0,(bfS nx first N).map acc,bfR nx first N),true)
 | 0,i,_,_=>.inl rfl
 | f+1,i,h,hl=>by
  have hle:=xO h
  rw[goM]
  by_cases c:i<(bfS nx first i).length
  ·rw[if_pos c]
   by_cases d:(bfS nx first (i+1)).length>most
   ·rw[if_pos d];exact .inl rfl
   ·rw[if_neg d]
    exact Dw f (i+1) (fun j hj=>by
     by_cases e:j=i
     ·subst e;exact c
     ·exact h j (by omega)) (by omega)
  ·rw[if_neg c]
   exact .inr ⟨i,⟨by omega,h⟩,by omega,by rw[List.take_of_length_le (by omega)]⟩
end D
namespace D
open Go.RowKit
def M4 (x:Tr Tok):Prop:= ∀(n:Nat) (p:AG),(flat x).length<=n->p.2.2.2.1.length=p.1.length->p.1.length+(flat x).length<=100000->
 ∃(nu:Bool) (fi la:Int) (q:AG),bH n p (flat x)=some ((nu,fi,la),q)/\q.2.2.2.1.length=q.1.length/\q.1.length<=p.1.length+(flat x).length
theorem Jy {x:Tr Tok} (h:WT x):M4 x:=by
 refine WT.ind (p:=M4) ?_ ?_ ?_ h
 ·intro t e n p hn hF hl
  rw[xI] at hn hl⊢
  simp only[az,aG] at hl
  match n,hn with
  | n+1,_ =>
   rw[bH]
   have:=(gI (A:=[]) (t:=t) (by simp)).1
   rw[List.nil_append] at this
   rw[this];simp only[ae,kd]
   rcases jY (show 0<=ar t by omega) with ⟨k,_⟩ | ⟨k,_⟩ | ⟨_,k⟩
   ·omega
   ·omega
   rcases k with k | k | k
   ·exact ⟨false,0,0,p,by simp[k],hF,by simp⟩
   ·exact ⟨true,0,0,p,by simp[k],hF,by simp⟩
   ·refine ⟨false,AZ 1 (p.1.length:Int),AZ 1 (p.1.length:Int),(p.1++ [t.2.1],p.2.1,p.2.2.1,p.2.2.2.1++ [0],p.2.2.2.2),?_,by simp[hF],by simp⟩
    rw[if_neg (by simp[k]),if_pos (by simp[k]),aQ (by simp;omega)];simp only[ae]
    rw[aQ (by simp;omega)];rfl
 ·intro t a e wa ih n p hn hF hl
  rw[AE] at hn hl⊢
  simp only[aw,az,aG] at hn hl
  match n,hn with
  | n+1,hn =>
   rw[bH];simp only[kd]
   obtain ⟨l1,l2⟩:=gI (A:=flat a) (t:=t) (by omega)
   rw[l1];simp only[ae]
   obtain ⟨nu,fi,la,q,hs,hq1,hq2⟩:=ih n p (by omega) hF (by omega)
   rcases Jq e with ⟨k1,k2⟩ | ⟨k1,k2,k3⟩
   ·have g2:(t.1==2)=false:=by simp[k2]
    have g3:(t.1==3)=false:=by simp[k2]
    have g4:(t.1==4)=false:=by simp[k2]
    have g5:(t.1==5)=false:=by simp[k2]
    simp only[g2,g3,g4,g5,k1,Bool.false_eq_true,if_false,if_true]
    rw[l2,Int.toNat_natCast,List.take_left,ix (by simp only[aw,az,aG];omega)];simp only[ae]
    rw[hs];simp only[ae,kd]
    rw[Hh (by omega)];simp only[ae]
    refine ⟨true,fi,la,_,rfl,?_,?_⟩
    ·simp only[sp];exact hq1
    ·simp only[aw,az,aG];omega
   ·have g2:(t.1==2)=false:=by simp[k3]
    have g3:(t.1==3)=false:=by simp[k3]
    have g4:(t.1==4)=false:=by simp[k3]
    have g5:(t.1==5)=false:=by simp[k3]
    simp only[g2,g3,g4,g5,k1,Bool.false_eq_true,if_false]
    exact ⟨false,0,0,p,rfl,hF,by omega⟩
 ·intro t a b e wa wb iha ihb n p hn hF hl
  rw[oK] at hn hl⊢
  have hl2:((flat a++flat b)++ [t]).length<=1000000:=by omega
  obtain ⟨p1,p2,p3,p4⟩:=qF (a:=a) (t:=t) wb hl2
  simp only[aw,az,aG] at hn hl
  match n,hn with
  | n+1,hn =>
   have hpa:=wa.pos
   have hpb:=wb.pos
   rw[bH];simp only[kd]
   obtain ⟨l1,l2⟩:=gI (A:=flat a++flat b) (t:=t) (by rw[aw];omega)
   rw[l1];simp only[ae]
   obtain ⟨nu,fi,la,q,hs,hq1,hq2⟩:=iha n p (by omega) hF (by omega)
   obtain ⟨nu2,fi2,la2,q2,hs2,hq3,hq4⟩:=ihb n q (by omega) hq1 (by omega)
   rcases jY (show 0<=ar t by omega) with ⟨_,k⟩ | ⟨k,_⟩ | ⟨k,_⟩
   ·rcases k with k | k
    ·have g2:(t.1==2)=false:=by simp[k]
     have g3:(t.1==3)=false:=by simp[k]
     have g4:(t.1==4)=true:=by simp[k]
     have g5:(t.1==5)=false:=by simp[k]
     simp only[g2,g3,g4,g5,Bool.false_eq_true,if_false,if_true]
     rw[l2,p1,p2,ix (by simp only[aw,az,aG];omega)];simp only[ae]
     rw[ix (by simp only[aw,az,aG];omega),p3,p4,hs];simp only[ae]
     rw[ix (by simp only[aw,az,aG];omega)];simp only[ae,kd]
     rw[hs2];simp only[ae,kd]
     rw[Hh (by omega)];simp only[ae]
     refine ⟨nu&&nu2,if nu then orI fi fi2 else fi,if nu2 then orI la la2 else la2,(q2.1,q2.2.1,q2.2.2.1,lk q2.2.2.2.1 la fi2 q2.2.2.2.1.length,q2.2.2.2.2),?_,?_,?_⟩
     ·cases nu <;> cases nu2 <;> rfl
     ·simp only[sp];exact hq3
     ·simp only[aw,az,aG];omega
    ·have g2:(t.1==2)=false:=by simp[k]
     have g3:(t.1==3)=false:=by simp[k]
     have g4:(t.1==4)=false:=by simp[k]
     have g5:(t.1==5)=true:=by simp[k]
     simp only[g2,g3,g4,g5,Bool.false_eq_true,if_false,if_true]
     rw[l2,p1,p2,ix (by simp only[aw,az,aG];omega)];simp only[ae]
     rw[ix (by simp only[aw,az,aG];omega),p3,p4,hs];simp only[ae]
     rw[ix (by simp only[aw,az,aG];omega)];simp only[ae,kd]
     rw[hs2];simp only[ae,kd]
     refine ⟨nu || nu2,orI fi fi2,orI la la2,q2,?_,hq3,?_⟩
     ·cases nu <;> simp
     ·simp only[aw,az,aG];omega
   ·omega
   ·omega
theorem Dx {e:List Tok} (he:e.length<=1048576):fX e=some (AS e):=by
 have hF:=np
 unfold fX AS
 rw[xJ he];simp only[ae]
 by_cases c:(decide (e.length<=24)&&isX e)=true
 ·rw[if_pos c,if_pos c]
  rw[af] at c
  obtain ⟨x,h1,hw,rfl⟩:=Ha c.2
  have h24:(flat x).length<=24:=by simpa using c.1
  have hr:=eL hw
  rw[so hw,K8 hw iA (by omega) (by omega)];simp only[ae]
  by_cases c2:5000<szX x
  ·simp only[gt_iff_lt,c2,decide_true,if_true]
  ·simp only[gt_iff_lt,c2,decide_false,if_false,Bool.false_eq_true]
   have hl:=tV hw (by omega)
   rw[F7 hw iA (by omega) (by omega) (by omega)];simp only[ae]
   by_cases c3:400<(flat (n8 x)).length
   ·have c3':decide (((flat (n8 x)).length:Int)>400)=true:=decide_eq_true (by omega)
    simp only[c3',c3,if_true]
   ·have c3':decide (((flat (n8 x)).length:Int)>400)=false:=decide_eq_false (by omega)
    simp only[c3',c3,if_false,Bool.false_eq_true]
 ·rw[if_neg c,if_neg c]
theorem xS {e:List Tok} (he:e.length<=1048576): ∃r:AG×Bool,dx e=some r/\r.1.2.2.2.1.length=r.1.1.length/\r.1.1.length<=400:=by
 have hF:=np
 unfold dx
 rw[Dx he];simp only[ae]
 by_cases c:(AS e).2=true
 ·obtain ⟨y,wy,ey,ly⟩:=Jr c
  rw[if_pos c,aJ (Mv (by rw[ey];omega))]
  simp only
  by_cases d:(Dk (AS e).1 (AS e).1.length:Int)>20
  ·have d':decide ((Dk (AS e).1 (AS e).1.length:Int)>20)=true:=decide_eq_true d
   simp only[d',if_true]
   exact ⟨_,rfl,rfl,by simp⟩
  ·have d':decide ((Dk (AS e).1 (AS e).1.length:Int)>20)=false:=decide_eq_false d
   simp only[d',Bool.false_eq_true,if_false]
   rw[ey]
   obtain ⟨nu,fi,la,q,hs,hq1,hq2⟩:=Jy wy iA ([],0,0,[],false) (by omega) rfl (by simp;omega)
   rw[hs];simp only[ae]
   exact ⟨_,rfl,hq1,by simp at hq2;show q.1.length<=_;omega⟩
 ·rw[if_neg c]
  exact ⟨_,rfl,rfl,by simp⟩
theorem Dy {p:AG} (h1:p.2.2.2.1.length=p.1.length) (h2:p.1.length<=100000): ∃r:AutT×Bool,cD p 12=some r/\(r.2=true-> ∃N,N<=12/\bfE (nxS p) 1 N/\r.1=(0,(bfS (nxS p) 1 N).map (tX p),bfR (nxS p) 1 N)/\VA r.1 N):=by
 have d1:=Mu (p:=p) (most:=12) h1 (by omega) (by omega) (by omega)
 have d1:cD p 12=_:=d1
 rw[d1]
 rcases Dw (nx:=nxS p) (first:=1) (acc:=tX p) (most:=12) (12+2) 0 (fun j hj=>by omega) (by simp[bfS]) with e | ⟨N,hN,hNm,e⟩
 ·exact ⟨_,rfl,fun h=>by rw[e] at h;cases h⟩
 ·rw[e]
  have V:=Jx (acc:=tX p) (Dj p) hN
  exact ⟨_,rfl,fun _=>⟨N,hNm,hN,rfl,V⟩⟩
end D
namespace D
open Go.RowKit
def zp:List ByteArray:=[⟨#[97]⟩,⟨#[97,32,98,32,46]⟩,⟨#[97,32,42]⟩,⟨#[97,32,98,32,124,32,42]⟩,⟨#[97,32,97,45,32,46]⟩,⟨#[97,32,42,32,98,32,46]⟩,⟨#[97,32,98,32,42,32,46,32,99,32,46]⟩,⟨#[97,32,97,32,124,32,42]⟩,⟨#[97,32,98,32,46,32,42]⟩,⟨#[48,32,97,32,46,32,42]⟩,⟨#[97,32,49,32,46,32,98,32,46]⟩,⟨#[97,32,123,48,44,50,125]⟩,⟨#[97,32,98,32,124,32,123,49,44,51,125]⟩,⟨#[40,41]⟩,⟨#[33]⟩,⟨#[97,45,32,42,32,97,32,46]⟩,⟨#[97,32,98,45,32,46,32,42,32,99,32,124]⟩,⟨#[97,32,42,32,97,32,42,32,46]⟩,⟨#[97,32,48,32,124,32,42,32,98,32,46]⟩,⟨#[97,32,97,32,46,32,42]⟩,⟨#[97,32,98,32,46,32,98,32,97,32,46,32,124,32,42]⟩]
def Dz (t:ByteArray):Bool:=match ed t with
 | some r=>r.2&&Nat.ble 1 r.1.length&&Nat.ble r.1.length 24
 | none=>false
theorem DA:zp.all Dz=true:=by kernel_rfl
theorem Gg {t:ByteArray} (h:t∈zp): ∃r:List Tok×Bool,ed t=some r/\r.2=true/\1<=r.1.length/\r.1.length<=24:=by
 have h1:Dz t=true:=List.all_eq_true.1 DA t h
 unfold Dz at h1
 split at h1
 ·rename_i r hr
  rw[af,af] at h1
  exact ⟨r,hr,h1.1.1,bA h1.1.2,bA h1.2⟩
 ·cases h1
section
variable {xs:List Int} {i h:Int}
theorem Jz (hl:xs.length<=1048576) (hc:ke xs i): ∃r:List Tok×Int×Int,jK (xs,i,h)=some r/\(1<=r.1.length/\r.1.length<=24)/\ke xs r.2.1:=by
 obtain ⟨r,e,h1,k⟩:=K5 (h:=h) hl hc (l:=zp) (by unfold zp;simp)
 obtain ⟨q,e2,-,h2⟩:=Gg h1
 unfold jK
 have hb:=congrArg (fun o:Option (ByteArray×Int×Int)=>Option.bind o (fun r0:ByteArray×Int×Int=>(ed r0.1).bind fun r1=>some (r1.1,r0.2.1,r0.2.2))) e
 refine ⟨(q.1,r.2.1,r.2.2),hb.trans ?_,h2,k⟩
 show (ed r.1).bind _=_
 rw[e2];rfl
theorem we (hl:xs.length<=1048576): ∀(d n:Nat) (i h:Int),d<n->d<=3->ke xs i-> ∃r:List Tok×Int×Int,bN n (xs,i,h) (d:Int)=some r/\(1<=r.1.length/\r.1.length+1<=2 ^ (d+1))/\ke xs r.2.1
 | 0,n+1,i,h,_,_,hc=>by
  rw[bN];simp only
  rw[if_pos (by decide)]
  obtain ⟨r,e,k⟩:=qD (h:=h) hl hc (n:=12) (by omega)
  rw[e];simp only[ae]
  by_cases c:r.1=true
  ·rw[if_pos c]
   obtain ⟨q,e2,-,k2⟩:=jw (h:=r.2.2) hl k (l:=[1,2]) (by simp)
   rw[e2];simp only[ae]
   exact ⟨_,rfl,⟨aA _,aA _⟩,k2⟩
  ·rw[if_neg c]
   obtain ⟨q,e2,-,k2⟩:=jw (h:=r.2.2) hl k (l:=[0,0,2,2,1,4,3,6,7]) (by simp)
   rw[e2];simp only[ae]
   exact ⟨_,rfl,⟨aA _,aA _⟩,k2⟩
 | d+1,n+1,i,h,hd,h3,hc=>by
  have hp:2 ^ (d+1+1)=2*2 ^ (d+1):=by rw[Nat.pow_succ,Nat.mul_comm]
  have hb:2 ^ (d+1)<=8:=by
   have:d<=2:=by omega
   match d,this with
   | 0,_=>decide
   | 1,_=>decide
   | 2,_=>decide
  rw[bN];simp only
  rw[if_neg (by simp;omega)]
  have hw:IntKind.i64.wrap (((d+1:Nat):Int) - 1)=(d:Int):=by rw[dh (by omega) (by omega)];omega
  rw[hw]
  obtain ⟨r,e,-,k⟩:=gu (h:=h) hl hc (n:=6) (by omega)
  rw[e];simp only[ae]
  have two: ∀(t:Tok) (i h:Int),ke xs i-> ∃r:List Tok×Int×Int,((bN n (xs,i,h) (d:Int)).bind fun r7=>(bN n (xs,r7.2.1,r7.2.2) (d:Int)).bind fun r8=>(bZ r7.1 r8.1 t).bind fun r9=>some (r9,r8.2.1,r8.2.2))=some r/\(1<=r.1.length/\r.1.length+1<=2 ^ (d+1+1))/\ke xs r.2.1:=fun t i h hc=>by
   obtain ⟨r7,e7,h7,k7⟩:=we hl d n i h (by omega) (by omega) hc
   rw[e7];simp only[ae]
   obtain ⟨r8,e8,h8,k8⟩:=we hl d n r7.2.1 r7.2.2 (by omega) (by omega) k7
   rw[e8];simp only[ae]
   rw[qG (by omega)];simp only[ae]
   refine ⟨_,rfl,?_,k8⟩
   simp only[aw,az,aG]
   omega
  have one: ∀(t:Tok) (i h:Int),ke xs i-> ∃r:List Tok×Int×Int,((bN n (xs,i,h) (d:Int)).bind fun r14=>(bZ r14.1 ([] :List Yq2) t).bind fun r15=>some (r15,r14.2.1,r14.2.2))=some r/\(1<=r.1.length/\r.1.length+1<=2 ^ (d+1+1))/\ke xs r.2.1:=fun t i h hc=>by
   obtain ⟨r7,e7,h7,k7⟩:=we hl d n i h (by omega) (by omega) hc
   rw[e7];simp only[ae]
   rw[qG (by simp only[aG];omega)];simp only[ae]
   refine ⟨_,rfl,?_,k7⟩
   simp only[aw,az,aG]
   omega
  have if2: ∀(p q:Bool),(if p then (some p) else (some q):Option Bool)=some (p || q):=fun p q=>by cases p <;> rfl
  rw[if2];simp only[ae]
  by_cases c1:(r.1==0 || r.1==1)=true
  ·rw[if_pos c1]
   exact two _ _ _ k
  ·rw[if_neg c1,if2];simp only[ae]
   by_cases c2:(r.1==2 || r.1==3)=true
   ·rw[if_pos c2]
    exact two _ _ _ k
   ·rw[if_neg c2]
    by_cases c3:(r.1==4)=true
    ·rw[if_pos c3]
     exact one _ _ _ k
    ·rw[if_neg c3]
     obtain ⟨q,e2,h2,k2⟩:=gu (h:=r.2.2) hl k (n:=3) (by omega)
     rw[e2];simp only[ae]
     obtain ⟨r7,e7,h7,k7⟩:=we hl d n q.2.1 q.2.2 (by omega) (by omega) k2
     rw[e7];simp only[ae]
     have w:IntKind.i64.wrap (IntKind.i64.wrap (1+q.1)+1)=q.1+2:=by
      rw[dh (n:=1+q.1) (by omega) (by omega),dh (by omega) (by omega)];omega
     obtain ⟨u,e3,-,k3⟩:=gu (h:=r7.2.2) hl k7 (n:=q.1+2) (by omega)
     rw[w,e3];simp only[ae]
     rw[qG (by simp only[aG];omega)];simp only[ae]
     refine ⟨_,rfl,?_,k3⟩
     simp only[aw,az,aG]
     omega
theorem Ln (hl:xs.length<=1048576) (hc:ke xs i): ∃r:List Tok×Int×Int,lu (xs,i,h)=some r/\(1<=r.1.length/\r.1.length<=24)/\ke xs r.2.1:=by
 have hF:=np
 unfold lu
 simp only
 obtain ⟨r,e,k⟩:=qD (h:=h) hl hc (n:=2) (by omega)
 rw[e];simp only[ae]
 by_cases c:r.1=true
 ·rw[if_pos c]
  obtain ⟨q,e2,h2,k2⟩:=Jz (h:=r.2.2) hl k
  rw[e2]
  exact ⟨_,rfl,h2,k2⟩
 ·rw[if_neg c]
  obtain ⟨q,e2,h2,k2⟩:=gu (h:=r.2.2) hl k (n:=3) (by omega)
  rw[e2];simp only[ae]
  have w:IntKind.i64.wrap (1+q.1)=(((q.1.toNat+1:Nat)):Int):=by rw[dh (by omega) (by omega)];omega
  obtain ⟨u,e3,h3,k3⟩:=we hl (q.1.toNat+1) iA q.2.1 q.2.2 (by omega) (by omega) k2
  rw[w,e3]
  refine ⟨_,rfl,⟨h3.1,?_⟩,k3⟩
  have:q.1.toNat<=2:=by omega
  have h4:=h3.2
  show u.1.length<=24
  generalize q.1.toNat=z at this h4
  match z,this with
  | 0,_=>simp at h4;omega
  | 1,_=>simp at h4;omega
  | 2,_=>simp at h4;omega
def AutD (a:AutT):Prop:=(1<=a.2.1.length/\a.2.1.length<=12)/\(1<=a.2.2.length/\a.2.2.length<=12)/\ ∀r∈a.2.2,r.length=9
theorem AutD.sm {a:AutT} (h:AutD a):Data.sm a:=⟨trivial,⟨by have:=h.1.2;omega,fun _ _=>trivial⟩,by have:=h.2.1.2;omega,fun r hr=>⟨by rw[h.2.2 r hr];decide,fun _ _=>trivial⟩⟩
theorem VA.autD {a:AutT} {n:Nat} (V:VA a n) (hn:n<=12):AutD a:=by
 have h0:=V.pos
 have h1:=V.len
 have h2:=V.nlen
 exact ⟨by omega,by omega,V.row⟩
theorem My (hl:xs.length<=1048576) {p:List Int×Int×Int} {r0:Int×Int×Int} (hp:p.1=xs) (hr:0<=r0.1/\r0.1<4) (hc:ke xs i): ∃s,aO (df p r0) bt (([] :List Int),0,i,h)=some (.brk s)/\s.1.length=9/\ke xs s.2.2.1:=by
 have w:IntKind.i64.wrap (1+r0.1)=1+r0.1:=dh (by omega) (by omega)
 obtain ⟨s,e,h1,h2,h3⟩:=di (f:=df p r0) (fun j s=>s.2.1=(j:Int)/\s.1.length=j/\ke xs s.2.2.1) 9 (fun j s hj hI=>by
  obtain ⟨h1,h2,h3⟩:=hI
  unfold df
  rw[h1,hp,if_pos (by simp;omega)]
  obtain ⟨r,e,k⟩:=qD (h:=s.2.2.2) hl h3 (n:=3) (by omega)
  rw[e];simp only[ae]
  have key: ∃q:Int×Int×Int,(if r.1 then (some ((-1),r.2.1,r.2.2)) else ((bg (xs,r.2.1,r.2.2) (IntKind.i64.wrap (1+r0.1))).bind fun r8=>some (r8.1,r8.2.1,r8.2.2)):Option (Int×Int×Int))=some q/\ke xs q.2.1:=by
   by_cases c:r.1=true
   ·rw[if_pos c];exact ⟨_,rfl,k⟩
   ·rw[if_neg c,w]
    obtain ⟨q,e2,-,k2⟩:=gu (h:=r.2.2) hl k (n:=1+r0.1) (by omega)
    rw[e2];exact ⟨_,rfl,k2⟩
  obtain ⟨q,e2,k2⟩:=key
  rw[e2];simp only[ae]
  have e4: ∃z:Int,(if decide ((j:Int)>3) then (some (-1)) else (some q.1):Option Int)=some z:=by
   by_cases c:decide ((j:Int)>3)=true
   ·exact ⟨_,if_pos c⟩
   ·exact ⟨_,if_neg c⟩
  obtain ⟨z,e4⟩:=e4
  rw[e4];simp only[ae]
  rw[aQ (by simp only[az,aG];omega)];simp only[ae]
  refine ⟨_,rfl,?_,?_,k2⟩
  ·show IntKind.i64.wrap ((j:Int)+1)=((j+1:Nat):Int)
   rw[dh (by omega) (by omega)];omega
  ·simp only[aw,az,aG];omega) (fun s hI=>by
  unfold df
  rw[hI.1,if_neg (by simp)]
  obtain ⟨a,b,c,d⟩:=s
  obtain rfl:b=_:=hI.1
  rfl) (s:=(([] :List Int),0,i,h)) ⟨rfl,rfl,hc⟩ (lD (by omega))
 exact ⟨s,e,h2,h3⟩
theorem zq (hl:xs.length<=1048576) (hc:ke xs i): ∃r:AutT×Int×Int,fq (xs,i,h)=some r/\AutD r.1/\ke xs r.2.1:=by
 unfold fq
 simp only
 obtain ⟨r0,e0,h0,k0⟩:=gu (h:=h) hl hc (n:=4) (by omega)
 rw[e0];simp only[ae]
 have w:IntKind.i64.wrap (1+r0.1)=((r0.1.toNat+1:Nat):Int):=by rw[dh (by omega) (by omega)];omega
 obtain ⟨r1,e1,-,k1⟩:=gu (h:=r0.2.2) hl k0 (n:=((r0.1.toNat+1:Nat):Int)) (by omega)
 rw[w,e1];simp only[ae]
 obtain ⟨s,e,h1,h2,h3,h4,h5⟩:=di (f:=eN (xs,i,h) r0) (fun j s=>s.1=(j:Int)/\s.2.2.1.length=j/\s.2.2.2.1.length=j/\(∀r∈s.2.2.2.1,r.length=9)/\ke xs s.2.2.2.2.1) (r0.1.toNat+1) (fun j s hj hI=>by
  obtain ⟨h1,h2,h3,h4,h5⟩:=hI
  unfold eN
  rw[h1,w,if_pos (by simp;omega)]
  obtain ⟨q,e,hq,k⟩:=My (p:=(xs,i,h)) (r0:=r0) (i:=s.2.2.2.2.1) (h:=s.2.2.2.2.2) hl rfl h0 h5
  rw[aJ e]
  simp only
  obtain ⟨o,e2,k2⟩:=qD (h:=q.2.2.2) hl k (n:=3) (by omega)
  rw[e2];simp only[ae]
  rw[aQ (by simp only[az,aG];omega)];simp only[ae]
  rw[aQ (by simp only[az,aG];omega)];simp only[ae]
  refine ⟨_,rfl,?_,by simp[h2],by simp[h3],fun r hr=>?_,k2⟩
  ·show IntKind.i64.wrap ((j:Int)+1)=((j+1:Nat):Int)
   rw[dh (by omega) (by omega)];omega
  ·rcases aB hr with hr | hr
   ·exact h4 r hr
   ·obtain rfl:=al hr
    exact hq) (fun s hI=>by
  unfold eN
  rw[hI.1,w,if_neg (by simp)]
  obtain ⟨a,b⟩:=s
  obtain rfl:a=_:=hI.1
  rfl) (s:=(0,r1.1,([] :List Bool),([] :List (List Int)),r1.2.1,r1.2.2)) ⟨rfl,rfl,rfl,fun r hr=>(by cases hr),k1⟩ (lD (by omega))
 rw[aJ e]
 refine ⟨_,rfl,⟨?_,?_,h4⟩,h5⟩
 ·show 1<=s.2.2.1.length/\s.2.2.1.length<=12
  omega
 ·show 1<=s.2.2.2.1.length/\s.2.2.2.1.length<=12
  omega
theorem Mz (hl:xs.length<=1048576) (hc:ke xs i): ∃r:AutT×Int×Int,lx (xs,i,h)=some r/\AutD r.1/\ke xs r.2.1:=by
 unfold lx
 simp only
 obtain ⟨r,e,k⟩:=qD (h:=h) hl hc (n:=3) (by omega)
 rw[e];simp only[ae]
 by_cases c:r.1=true
 ·rw[if_pos c]
  obtain ⟨q,e2,h2,k2⟩:=zq (h:=r.2.2) hl k
  rw[e2]
  exact ⟨_,rfl,h2,k2⟩
 ·rw[if_neg c]
  obtain ⟨q,e2,h2,k2⟩:=Ln (h:=r.2.2) hl k
  rw[e2];simp only[ae]
  obtain ⟨p,e3,p1,p2⟩:=xS (e:=q.1) (by omega)
  rw[e3];simp only[ae]
  obtain ⟨a,e4,h4⟩:=Dy (p:=p.1) p1 (by omega)
  have e4:cD (p.1.1,p.1.2.1,p.1.2.2.1,p.1.2.2.2.1,p.1.2.2.2.2) 12=some a:=e4
  rw[e4];simp only[ae]
  by_cases c2:a.2=true
  ·rw[if_pos c2]
   obtain ⟨N,hN,-,-,V⟩:=h4 c2
   exact ⟨_,rfl,V.autD hN,k2⟩
  ·rw[if_neg c2]
   obtain ⟨u,e5,h5,k5⟩:=zq (h:=q.2.2) hl k2
   rw[e5]
   exact ⟨_,rfl,h5,k5⟩
theorem JA (hl:xs.length<=1048576) (hc:ke xs i): ∃r:AutT×Int×Int,gL (xs,i,h)=some r/\Data.sm r.1/\ke xs r.2.1:=by
 unfold gL
 simp only
 obtain ⟨a,e,ha,k⟩:=Mz (h:=h) hl hc
 rw[e];simp only[ae]
 obtain ⟨q,e2,-,k2⟩:=gu (h:=a.2.2) hl k (n:=14) (by omega)
 rw[e2];simp only[ae]
 have hsm:=ha.sm
 obtain ⟨⟨hl1,hl2⟩,⟨hl3,hl4⟩,hr⟩:=ha
 have hg:bm a.1.2.2 0=some (nth a.1.2.2 0):=aF (by omega) (by omega)
 have h9:(nth a.1.2.2 0).length=9:=hr _ (cF (by omega) (by omega))
 by_cases c0:(q.1==0)=true
 ·rw[if_pos c0]
  obtain ⟨r,e3,-,k3⟩:=jw (h:=q.2.2) hl k2 (l:=[(-1),12,1]) (by simp)
  rw[e3];simp only[ae]
  exact ⟨_,rfl,hsm,k3⟩
 ·rw[if_neg c0]
  by_cases c1:(q.1==1)=true
  ·rw[if_pos c1,aQ (by simp only[az,aG];omega)];simp only[ae]
   exact ⟨_,rfl,⟨trivial,⟨by simp;omega,fun _ _=>trivial⟩,hsm.2.2⟩,k2⟩
  ·rw[if_neg c1]
   by_cases c2:(q.1==2)=true
   ·rw[if_pos c2,hg];simp only[ae]
    obtain ⟨r,e3,-,k3⟩:=jw (h:=q.2.2) hl k2 (l:=[(-2),12,0]) (by simp)
    rw[e3];simp only[ae]
    rw[aF (by omega) (by omega)];simp only[ae]
    refine ⟨_,rfl,⟨trivial,hsm.2.1,?_,fun x hx=>?_⟩,k3⟩
    ·show (List.set _ _ _).length<=_
     rw[List.length_set];omega
    ·rcases List.mem_or_eq_of_mem_set hx with hx | rfl
     ·exact hsm.2.2.2 x hx
     ·exact ⟨by rw[List.length_set,h9];decide,fun _ _=>trivial⟩
   ·rw[if_neg c2]
    by_cases c3:(q.1==3)=true
    ·rw[if_pos c3,hg];simp only[ae]
     have hk:chk (0<((a.1.2.2.set 0 ([] :List Int)).length:Int))=some ():=by unfold chk;rw[if_pos (by rw[List.length_set];omega)]
     have hk2:chk (And ((0:Int)<=8) (8<=((nth a.1.2.2 0).length:Int)))=some ():=by unfold chk;rw[if_pos (by rw[h9];decide)]
     rw[hk,hk2];simp only[ae]
     refine ⟨_,rfl,⟨trivial,hsm.2.1,?_,fun x hx=>?_⟩,k2⟩
     ·show (List.set _ _ _).length<=_
      rw[List.length_set];omega
     ·rcases List.mem_or_eq_of_mem_set hx with hx | rfl
      ·exact hsm.2.2.2 x hx
      ·exact ⟨by rw[aC];omega,fun _ _=>trivial⟩
    ·rw[if_neg c3];simp only[ae]
     exact ⟨_,rfl,hsm,k2⟩
theorem Gh (hl:xs.length<=1048576) (hc:ke xs i): ∃r:Int×Int×Int,lz (xs,i,h)=some r/\ke xs r.2.1:=by
 unfold lz
 simp only
 obtain ⟨r,e,k⟩:=qD (h:=h) hl hc (n:=14) (by omega)
 rw[e];simp only[ae]
 by_cases c:r.1=true
 ·rw[if_pos c]
  obtain ⟨q,e2,-,k2⟩:=jw (h:=r.2.2) hl k (l:=[(-1),9,8,100]) (by simp)
  rw[e2]
  exact ⟨_,rfl,k2⟩
 ·rw[if_neg c]
  obtain ⟨q,e2,-,k2⟩:=jw (h:=r.2.2) hl k (l:=[0,0,0,1,2,2,3,4,6,7]) (by simp)
  rw[e2]
  exact ⟨_,rfl,k2⟩
theorem Lo (hl:xs.length<=1048576) (hc:ke xs i): ∃r:List Int×Int×Int,jL (xs,i,h)=some r/\r.1.length<=5/\ke xs r.2.1:=by
 unfold jL
 simp only
 obtain ⟨r,e,h1,k⟩:=gu (h:=h) hl hc (n:=6) (by omega)
 rw[e];simp only[ae]
 obtain ⟨s,e2,h2,h3,h4⟩:=di (f:=fY (xs,i,h)) (fun j s=>s.2.1=r.1 - (j:Int)/\s.1.length=j/\ke xs s.2.2.1) r.1.toNat (fun j s hj hI=>by
  obtain ⟨h1,h2,h3⟩:=hI
  unfold fY
  rw[h1,if_pos (by simp;omega)]
  obtain ⟨q,e3,k3⟩:=Gh (h:=s.2.2.2) hl h3
  rw[e3];simp only[ae]
  rw[aQ (by simp only[az,aG];omega)];simp only[ae]
  refine ⟨_,rfl,?_,by simp[h2],k3⟩
  show IntKind.i64.wrap (r.1 - (j:Int) - 1)=r.1 - ((j+1:Nat):Int)
  rw[dh (by omega) (by omega)];omega) (fun s hI=>by
  unfold fY
  rw[hI.1,if_neg (by simp;omega)]
  obtain ⟨a,b,c⟩:=s
  obtain rfl:b=_:=hI.1
  rfl) (s:=(([] :List Int),r.1,r.2.1,r.2.2)) ⟨by show r.1=r.1 - 0;omega,rfl,k⟩ (lD (by omega))
 rw[aJ e2]
 exact ⟨_,rfl,by show s.1.length<=5;omega,h4⟩
end
theorem DB {xs:List Int} (hl:xs.length<=1048576): ∃r:AutT×List Int,fu xs=some r/\Data.sm r.1/\r.2.length<=5:=by
 unfold fu
 obtain ⟨r0,e0,k0⟩:=K4 hl
 rw[e0];simp only[ae]
 obtain ⟨r1,e1,h1,k1⟩:=JA (h:=r0.2) hl k0
 rw[e1];simp only[ae]
 obtain ⟨r2,e2,h2,-⟩:=Lo (h:=r1.2.2) hl k1
 rw[e2]
 exact ⟨_,rfl,h1,h2⟩
end D
namespace D
open Go.RowKit
section
variable {nx:Int×Int->List (Option (Int×Int))} {first:Int×Int} {G:Int×Int->Prop} {B:Nat}
theorem AK {p3:Int×Int->Int->Option ((Int×Int)×Bool)} {l:List (Int×Int)} {M:List ((Int×Int)×Int)} {os:List (Option (Int×Int))} {acs:List Bool} {rws:List (List Int)} {i:Nat}
  (hi:i<l.length) (hos:os.length=9) (hM:MapOf M l) (hok: ∀y,some y∈os->yi y=true) (hB: ∀k,(nbS l (os.take k)).length<=1000000)
  (hp: ∀(k:Nat) (hk:k<9),∃j,p3 (nth l (i:Int)) (k:Int)=some (match nth os (k:Int) with | some y=>(y,true) | none=>(j,false))) :
  ∃M',aO (bB p3 (l,M,(i:Int),0,acs,rws)) bt (l,M,[],0)=some (.brk (nbS l os,M',nbR l os,9))/\MapOf M' (nbS l os):=by
 obtain ⟨s',e,M',rfl,hM'⟩:=di (f:=bB p3 (l,M,(i:Int),0,acs,rws)) (fun k s=> ∃M',s=(nbS l (os.take k),M',nbR l (os.take k),(k:Int))/\MapOf M' (nbS l (os.take k))) 9 (by
  rintro k s hk ⟨M1,rfl,hM1⟩
  have hpre:=ep l (os.take k)
  have hlen:=hpre.length_le
  have hBk:=hB k
  obtain ⟨j,hj⟩:=hp k hk
  have hrl:(nbR l (os.take k)).length<=9:=by rw[bO,aC];omega
  unfold bB
  simp only[kd]
  rw[if_pos (by simp;omega),aF (by omega) (by omega)];simp only[ae]
  rw[b7 hpre (by omega) (by omega),hj,take_one (by omega),jW,iT]
  simp only[ae,aM (show k<9223372036854775807 by omega)]
  cases ho:nth os (k:Int) with
  | none =>
   simp only[Bool.false_eq_true,if_false]
   rw[aQ (by simp;omega)]
   exact ⟨_,rfl,M1,rfl,hM1⟩
  | some y =>
   have hy:yi y=true:=hok y (ho ▸ cF (by omega) (by omega))
   simp only[if_true]
   rw[show chk (yi y=true)=some () from by unfold chk;rw[if_pos hy]];simp only[ae]
   rw[show lkM M1 y=_ from hM1.2 y]
   by_cases c:y∈nbS l (os.take k)
   ·simp only[c,if_true,Option.isSome_some,Option.getD_some,ae]
    rw[aQ (by simp;omega)]
    exact ⟨_,rfl,M1,by rw[dU c];rfl,by rw[dU c];exact hM1⟩
   ·have hput:wE M1 yi iOk y ((nbS l (os.take k)).length:Int)=some ((y,((nbS l (os.take k)).length:Int))::M1):=by
     unfold wE
     rw[if_pos ⟨by have:=hM1.1;omega,hy,xM hBk⟩]
    simp only[c,if_false,Option.isSome_none,Bool.false_eq_true,hput,ae]
    rw[aQ (by simp;omega)];simp only[ae]
    rw[aQ (by simp;omega)]
    refine ⟨_,rfl,(y,((nbS l (os.take k)).length:Int))::M1,?_,?_⟩
    ·rw[du c];simp only[nbI,iw c]
    ·rw[du c];exact hM1.put c) (by
  rintro s ⟨M1,rfl,hM1⟩
  unfold bB
  simp) (s:=(l,M,[],0)) ⟨M,rfl,hM⟩ (by unfold bt;omega)
 rw[List.take_of_length_le (by omega)] at e hM'
 exact ⟨M',e,hM'⟩
theorem JB {most:Int} {p2:Int×Int->Option Bool} {p3:Int×Int->Int->Option ((Int×Int)×Bool)} {acc:Int×Int->Bool} (H:NumOk nx first G B) (hB:B<=1000000) (hmost:(B:Int)<=most) (hok: ∀x,G x->yi x=true)
  (h2: ∀x,G x->p2 x=some (acc x)) (h3: ∀x (k:Nat),G x->k<9-> ∃j,p3 x (k:Int)=some (match nth (nx x) (k:Int) with | some y=>(y,true) | none=>(j,false))) :
  ∃N,bfE nx first N/\cd first most p2 p3=some ((0,(bfS nx first N).map acc,bfR nx first N),true):=by
 obtain ⟨N,hNB,hN⟩:=zf (nx:=nx) (first:=first) (H.le)
 refine ⟨N,hN,?_⟩
 unfold cd
 simp only[kd]
 rw[show wE ([] :List ((Int×Int)×Int)) yi iOk first 0=some [(first,0)] from by unfold wE;rw[if_pos ⟨by simp,hok _ H.g0,by decide⟩]];simp only[ae]
 obtain ⟨s',e,M',rfl,hM'⟩:=di (f:=cn most p2 p3) (fun i s=> ∃M,s=(bfS nx first i,M,(i:Int),0,((bfS nx first i).take i).map acc,bfR nx first i)/\MapOf M (bfS nx first i)) N (by
  rintro i s hi ⟨M,rfl,hM⟩
  have hlt:=hN.2 i hi
  have hG:=H.at hlt
  have hle:=H.le i
  have hle':=H.le (i+1)
  obtain ⟨M',e,hM'⟩:=AK (p3:=p3) (l:=bfS nx first i) (M:=M) (os:=nx (nth (bfS nx first i) (i:Int))) (acs:=((bfS nx first i).take i).map acc) (rws:=bfR nx first i) hlt (H.len _ hG) hM (fun y hy=>hok y (H.gn _ hG y hy))
   (fun k=>by
    have:(nbS (bfS nx first i) ((nx (nth (bfS nx first i) (i:Int))).take k)).length<=B:=H.bound _ (gl (fF i)) fun x hx=>by
     rcases jX.1 hx with hx | hx
     ·exact et H.g0 H.gn i x hx
     ·exact H.gn _ hG x (List.mem_of_mem_take hx)
    omega) (fun k hk=>h3 _ k hG hk)
  unfold cn
  simp only[kd]
  rw[if_pos (by simp;omega),aJ e,<-fG hlt]
  rw[<-fG hlt] at hM'
  have hl2:=(aU (nx:=nx) (first:=first) i).length_le
  simp only
  rw[if_neg (by simp;omega),aF (by omega) (by omega)];simp only[ae]
  rw[b7 (aU i) (by omega) (by omega),h2 _ hG];simp only[ae]
  have hr:(bfR nx first i).length=i:=dq fun j hj=>hN.2 j (by omega)
  rw[aQ (by simp;omega)];simp only[ae]
  rw[aQ (by simp;omega)];simp only[ae,aM (show i<9223372036854775807 by omega)]
  exact ⟨_,rfl,M',by rw[nq hlt,kV hlt],hM'⟩) (by
  rintro s ⟨M,rfl,hM⟩
  unfold cn
  simp only[kd]
  rw[if_neg (by have:=hN.1;simp;omega)]) (s:=([first],[(first,0)],0,0,[],[])) ⟨_,rfl,MapOf.one first⟩ (lD (by omega))
 rw[aJ e]
 simp only
 rw[List.take_of_length_le (by have:=hN.1;omega)]
end
end D
namespace D
open Go.RowKit
theorem JC {l:List Int} {x:Int} (hl:l.length<=1000000) (hx:x∈l):aR x l=some (nbI l (some x)):=by
 unfold aR ct
 obtain ⟨o,e,hq⟩:=eh (f:=bP l x) (fun k s=>s=(k:Int)/\x∉l.take k) (fun o=>o= .ret (nbI l (some x))) l.length (s:=0) (by
  rintro k s hk ⟨rfl,hx'⟩
  unfold bP
  by_cases hkl:k<l.length
  ·rw[if_pos (by simp;omega),aF (by omega) (by omega)];simp only[ae]
   by_cases h:nth l (k:Int)=x
   ·refine .inr ⟨_,by rw[if_pos (by simp[h])],(fun s' e=>by cases e),?_⟩
    have e:l=l.take k++(x::l.drop (k+1)):=by
     rw[<-h,bd hkl,<-List.drop_eq_getElem_cons hkl,List.take_append_drop]
    rw[v9 e hx',aC,Nat.min_eq_left (by omega)]
   ·have h': ¬x=nth l (k:Int):=fun e=>h e.symm
    refine .inl ⟨hkl,_,by rw[if_neg (by simpa using h')],by rw[aM (by omega)],?_⟩
    rw[take_one hkl,List.mem_append,List.mem_singleton]
    rintro (h' | h')
    ·exact hx' h'
    ·exact h h'.symm
  ·rw[List.take_of_length_le (by omega)] at hx'
   exact absurd hx hx') ⟨rfl,by simp⟩ (lD (by omega))
 subst hq
 rw[dj e];rfl
section
variable {a:AutT} {n:Nat}
def rep (c:List Int) (x:Int):Int:=nbI c (some x)
theorem DC {c:List Int} {x:Int} (h:x∈c):0<=rep c x/\rep c x<c.length/\nth c (rep c x)=x:=by
 obtain ⟨q,hq,e1,e2⟩:=gx h
 unfold rep
 rw[e1]
 exact ⟨by omega,by omega,by rw[bd hq,e2]⟩
def LY (a:AutT) (n:Nat) (r:AutT):Prop:=(nth (live a) a.1=false/\r=nothing)\/(nth (live a) a.1=true/\ ∃(j:Nat) (c:List Int) (nx:Int->List (Option Int)) (ac:Int->Bool) (N:Nat),c=cI a j/\(∀r,good n (live a) r->nx (nth c r)=j0 a c (live a) r)/\(∀r,good n (live a) r->ac (nth c r)=nth a.2.1 r)/\bfE nx (nth c a.1) N/\(∀x∈bfS nx (nth c a.1) N,(nx x).length=9)/\r=(0,(bfS nx (nth c a.1) N).map ac,bfR nx (nth c a.1) N))
theorem sw (V:VA a n) (hn:n<=1000000): ∃r,bG a=some r/\bj a=some r/\Data.sm r/\VA r r.2.1.length/\r.2.1.length<=n/\LY a n r:=by
 have hlen:=V.len
 have hst:=V.start
 have hll:(live a).length=n:=by rw[jZ,hlen]
 obtain ⟨c,es,ei,hcl,hfix,j,hj⟩:=AJ V hn
 have hneg: ∀s:Int,0<=s->s<n->(nth c s<0↔nth (live a) s=false):=fun s h0 h1=>by
  have:=(ss a (s:=s.toNat) (by omega) j).1
  rw[<-hj,show ((s.toNat:Nat):Int)=s from by omega] at this
  exact this
 have hlt: ∀s:Int,0<=s->s<n->nth c s<n:=fun s h0 h1=>by
  have:=Ju (c:=c) (a:=a) (s:=s.toNat) (by omega)
  rw[hfix,hlen,show ((s.toNat:Nat):Int)=s from by omega] at this
  exact this
 have hpos: ∀r,good n (live a) r->0<=nth c r:=fun r hr=>by
  have:=hneg r hr.1 hr.2.1
  by_cases k:nth c r<0
  ·have:=this.1 k;rw[hr.2.2] at this;cases this
  ·omega
 have hkey: ∀r t:Int,0<=r->r<n->0<=t->t<n->0<=nth c r->nth c r=nth c t->ua a c r=ua a c t:=fun r t r0 r1 t0 t1 h0 h=>by
  have:=Dq (a:=a) (c:=c) (s:=r.toNat) (t:=t.toNat) (by omega) (by omega) (by rw[hfix,show ((r.toNat:Nat):Int)=r from by omega];exact h0) (by rw[hfix,show ((r.toNat:Nat):Int)=r from by omega,show ((t.toNat:Nat):Int)=t from by omega];exact h)
  rwa [show ((r.toNat:Nat):Int)=r from by omega,show ((t.toNat:Nat):Int)=t from by omega] at this
 have hacc: ∀r t:Int,0<=r->r<n->0<=t->t<n->0<=nth c r->nth c r=nth c t->nth a.2.1 r=nth a.2.1 t:=fun r t r0 r1 t0 t1 h0 h=>by
  have:=Hj a (s:=r.toNat) (t:=t.toNat) (by omega) (by omega) j (by rw[<-hj,show ((r.toNat:Nat):Int)=r from by omega];exact h0) (by rw[<-hj,show ((r.toNat:Nat):Int)=r from by omega,show ((t.toNat:Nat):Int)=t from by omega];exact h)
  rwa [show ((r.toNat:Nat):Int)=r from by omega,show ((t.toNat:Nat):Int)=t from by omega] at this
 have hsuccs: ∀r,good n (live a) r->j0 a c (live a) r=(List.range 9).map fun k=>if 0<=ent a c r k then some (ent a c r k) else none:=fun r hr=>by
  refine List.map_congr_left fun k hk=>?_
  have hk:k<9:=List.mem_range.1 hk
  have hm:=V.mv hr.1 hr.2.1 hk
  unfold ent
  by_cases h:mv a r k<0
  ·rw[if_pos h,if_neg (fun h'=>by omega),if_neg (by omega)]
  ·rw[if_neg h]
   have:=hneg (mv a r k) (by omega) hm.2
   cases hl:nth (live a) (mv a r k) with
   | false =>
    have:=this.2 hl
    rw[if_neg (fun h'=>by cases h'.2),if_neg (by omega)]
   | true =>
    have: ¬nth c (mv a r k)<0:=fun h'=>by have:=this.1 h';rw[hl] at this;cases this
    rw[if_pos ⟨by omega,rfl⟩,if_pos (by omega)]
 have hent: ∀r t:Int,ua a c r=ua a c t-> ∀k,k<9->ent a c r k=ent a c t k:=fun r t h k hk=>by
  have h:(List.range 9).map (fun k=>ent a c r k)=(List.range 9).map (fun k=>ent a c t k):=by unfold ua at h;injection h
  have:=congrArg (fun l:List Int=>l[k]?) h
  simpa [hk] using this
 let nx:Int->List (Option Int):=fun x=>j0 a c (live a) (rep c x)
 let acc:Int->Bool:=fun x=>nth a.2.1 (rep c x)
 let G:Int->Prop:=fun x=> ∃r,good n (live a) r/\nth c r=x
 have Gm: ∀x,G x->x∈c/\0<=x/\good n (live a) (rep c x):=by
  rintro x ⟨r,hr,rfl⟩
  have hm:nth c r∈c:=cF hr.1 (by rw[hcl];exact hr.2.1)
  obtain ⟨h0,h1,h2⟩:=DC hm
  have hp:=hpos r hr
  refine ⟨hm,hp,h0,by omega,?_⟩
  have:=hneg (rep c (nth c r)) h0 (by omega)
  rw[h2] at this
  cases hl:nth (live a) (rep c (nth c r)) with
  | true=>rfl
  | false=>have:=this.2 hl;omega
 have hnx: ∀r,good n (live a) r->nx (nth c r)=j0 a c (live a) r:=fun r hr=>by
  obtain ⟨hm,hp,hg⟩:=Gm _ ⟨r,hr,rfl⟩
  obtain ⟨h0,h1,h2⟩:=DC hm
  show j0 a c (live a) (rep c (nth c r))=_
  rw[hsuccs _ hg,hsuccs _ hr]
  refine List.map_congr_left fun k hk=>?_
  rw[hent _ _ (hkey _ _ hg.1 hg.2.1 hr.1 hr.2.1 (by rw[h2];exact hp) h2) k (List.mem_range.1 hk)]
 have hac: ∀r,good n (live a) r->acc (nth c r)=nth a.2.1 r:=fun r hr=>by
  obtain ⟨hm,hp,hg⟩:=Gm _ ⟨r,hr,rfl⟩
  obtain ⟨h0,h1,h2⟩:=DC hm
  exact hacc _ _ hg.1 hg.2.1 hr.1 hr.2.1 (by rw[h2];exact hp) h2
 have hgn: ∀r,good n (live a) r-> ∀y,some y∈j0 a c (live a) r->G y:=fun r hr y h=>by
  obtain ⟨k,hk,e⟩:=List.mem_map.1 h
  have hk:k<9:=List.mem_range.1 hk
  split at e
  ·rename_i hc
   exact ⟨mv a r k,⟨hc.1,(V.mv hr.1 hr.2.1 hk).2,hc.2⟩,aa e⟩
  ·cases e
 unfold bG bj
 simp only[kd]
 rw[es,ei,He V hn];simp only[ae]
 rw[aF hst.1 (by omega)];simp only[ae]
 cases hs:nth (live a) a.1 with
 | false =>
  have:=(hneg a.1 hst.1 hst.2).2 hs
  rw[xN V hll hs,if_pos (by simpa using this),Dg]
  exact ⟨nothing,rfl,rfl,AI,sv,V.pos,.inl ⟨hs,rfl⟩⟩
 | true =>
  have hst':good n (live a) a.1:=⟨hst.1,hst.2,hs⟩
  have hp:=hpos _ hst'
  have H:NumOk nx (nth c a.1) G n:=⟨⟨a.1,hst',rfl⟩,fun x hx y hy=>hgn _ (Gm x hx).2.2 y hy,fun x hx=>by simp[nx,j0],fun l hd h=>AH n l hd fun x hx=>by
   obtain ⟨r,hr,rfl⟩:=h x hx
   exact ⟨hpos r hr,hlt r hr.1 hr.2.1⟩⟩
  obtain ⟨N,hN,e1⟩:=Ld (acc:=acc) V hn hcl hll hs H hn hnx hac
  have hfirst: ∀x,G x->aR x c=some (rep c x):=fun x hx=>JC (by omega) (Gm x hx).1
  obtain ⟨N',hN',e2⟩:=Lc (most:=(c.length:Int)) (p2:=fun a0=>br a0 (a.1,a.2.1,a.2.2) (fun a0=>aR a0 c)) (p3:=fun a0 a1=>bs a0 a1 (a.1,a.2.1,a.2.2) (fun a0=>aR a0 c) c) (acc:=acc) H hn (by omega) (fun x hx=>Lg hn (Gm x hx).2.1 (by
    obtain ⟨r,hr,rfl⟩:=hx
    exact hlt r hr.1 hr.2.1)) (fun x hx=>by
   show br x (a.1,a.2.1,a.2.2) (fun a0=>aR a0 c)=_
   unfold br
   simp only
   rw[hfirst x hx];simp only[ae]
   rw[V.acc (Gm x hx).2.2.1 (Gm x hx).2.2.2.1];rfl) (fun x k hx hk=>by
   obtain ⟨hm,hx0,hg⟩:=Gm x hx
   have hm':=V.mv hg.1 hg.2.1 hk
   refine ⟨0,?_⟩
   show bs x k (a.1,a.2.1,a.2.2) (fun a0=>aR a0 c) c=_
   unfold bs
   simp only
   rw[hfirst x hx];simp only[ae]
   rw[show aS (a.1,a.2.1,a.2.2) (rep c x) k=some (mv a (rep c x) k) from C5 V hg.1 hg.2.1 hk];simp only[ae]
   show _=some (match nth (j0 a c (live a) (rep c x)) (k:Int) with | some y=>(y,true) | none=>(0,false))
   rw[zm hk]
   by_cases h:mv a (rep c x) k<0
   ·rw[if_pos (by simpa using h),if_neg (fun h'=>by omega)]
   ·rw[if_neg (by simpa using h),aF (by omega) (by omega)];simp only[ae]
    have hng:=hneg (mv a (rep c x) k) (by omega) hm'.2
    cases hl:nth (live a) (mv a (rep c x) k) with
    | false =>
     have:=hng.2 hl
     rw[if_pos (by simpa using this),if_neg (fun h'=>by cases h'.2)]
    | true =>
     have: ¬nth c (mv a (rep c x) k)<0:=fun h'=>by have:=hng.1 h';rw[hl] at this;cases this
     rw[if_neg (by simpa using this),if_pos ⟨by omega,rfl⟩])
  obtain rfl:=tS hN hN'
  have v:=Dv (acc:=acc) H hN
  refine ⟨_,by rw[e1];rfl,?_,Lh H hn hN,v.self,?_,.inr ⟨hs,j,c,nx,acc,N,hj,hnx,hac,hN,fun x _=>by simp[nx,j0],rfl⟩⟩
  rotate_left
  ·rw[v.len,hN.1];exact H.bound _ (fF N) (et H.g0 H.gn N)
  rw[if_neg (by simp;omega)]
  exact (congrArg (fun x=>Option.bind x _) e2).trans rfl
theorem AL (V:VA a n) (hn:n<=1000000): ∃r,bG a=some r/\bj a=some r/\Data.sm r/\VA r r.2.1.length/\r.2.1.length<=n:=by
 obtain ⟨r,h1,h2,h3,h4,h5,-⟩:=sw V hn
 exact ⟨r,h1,h2,h3,h4,h5⟩
theorem Gi (V:VA a n) (hn:n<=1000000): ∃r,bG a=some r/\bj a=some r/\Data.sm r:=by
 obtain ⟨r,h1,h2,h3,-⟩:=AL V hn
 exact ⟨r,h1,h2,h3⟩
end
end D
namespace D
open Go.RowKit
theorem DD {a:AutT} {n:Nat} (V:VA a n) {s:Int} (h0:0<=s) (h1:s<n):aV a s=some (nth a.2.1 s):=by
 unfold aV
 rw[if_pos (by simpa using h0),V.acc h0 h1];rfl
theorem uc {a:AutT} {s:Int} (h0:s<0):aV a s=some false:=by
 unfold aV;rw[if_neg (by simp;omega)]
end D
namespace D
open Go.RowKit
section
variable {a b:AutT} {n m:Nat}
def mvn (a:AutT) (s:Int) (k:Nat):Int:=if s<0 then -1 else mv a s k
def acn (a:AutT) (s:Int):Bool:=if s<0 then false else nth a.2.1 s
theorem Hl (V:VA a n) {s:Int} {k:Nat} (h0: -1<=s) (h1:s<n) (hk:k<9): -1<=mvn a s k/\mvn a s k<n:=by
 unfold mvn
 split
 ·have:=V.pos;omega
 ·exact V.mv (by omega) h1 hk
theorem Lp (V:VA a n) {s:Int} {k:Nat} (h0: -1<=s) (h1:s<n) (hk:k<9):aS a s (k:Int)=some (mvn a s k):=by
 unfold mvn
 split
 ·exact sn ‹_›
 ·exact C5 V (by omega) h1 hk
theorem Lq (V:VA a n) {s:Int} {k:Nat} (h0: -1<=s) (h1:s<n) (hk:k<9):hZ a s (k:Int)=some (mvn a s k):=by
 unfold mvn hZ
 by_cases c:s<0
 ·rw[if_pos (by simpa using c),if_pos c]
 ·rw[if_neg (by simpa using c),if_neg c,V.get (by omega) h1];simp only[ae]
  rw[V.get2 (by omega) h1 hk];rfl
theorem Lr (V:VA a n) {s:Int} (h0: -1<=s) (h1:s<n):aV a s=some (acn a s):=by
 unfold acn
 split
 ·exact uc ‹_›
 ·exact DD V (by omega) h1
theorem Ls (V:VA a n) {s:Int} (h0: -1<=s) (h1:s<n):fx a s=some (acn a s):=by
 unfold acn fx
 by_cases c:s<0
 ·rw[if_neg (by simp;omega),if_pos c]
 ·rw[if_pos (by simp;omega),if_neg c,V.acc (by omega) h1];rfl
def nxP (a b:AutT) (x:Int×Int):List (Option (Int×Int)):=(List.range 9).map fun k=>some (mvn a x.1 k,mvn b x.2 k)
def inP (n m:Nat) (x:Int×Int):Prop:=(-1<=x.1/\x.1<n)/\ -1<=x.2/\x.2<m
theorem DE {x:Int×Int} {k:Nat} (hk:k<9):nth (nxP a b x) (k:Int)=some (mvn a x.1 k,mvn b x.2 k):=by
 have:k<(nxP a b x).length:=by simp[nxP];omega
 rw[bd this];simp[nxP]
theorem xT (n m:Nat) (l:List (Int×Int)) (hd:l.Nodup) (h: ∀x∈l,inP n m x):l.length<=(n+1)*(m+1):=by
 have:=hd.length_le_of_subset (l₂:=(List.range (n+1)).flatMap fun i:Nat=>(List.range (m+1)).map fun j:Nat=>((i:Int) - 1,(j:Int) - 1)) (fun x hx=>by
  obtain ⟨⟨h0,h1⟩,h2,h3⟩:=h x hx
  refine List.mem_flatMap.2 ⟨(x.1+1).toNat,List.mem_range.2 (by omega),List.mem_map.2 ⟨(x.2+1).toNat,List.mem_range.2 (by omega),?_⟩⟩
  exact Prod.ext (by show (((x.1+1).toNat:Nat):Int) - 1=x.1;omega) (by show (((x.2+1).toNat:Nat):Int) - 1=x.2;omega))
 have e:((List.range (n+1)).flatMap fun i:Nat=>(List.range (m+1)).map fun j:Nat=>((i:Int) - 1,(j:Int) - 1)).length=(n+1)*(m+1):=by
  rw[List.length_flatMap]
  simp only[List.length_map,List.length_range]
  rw[List.map_const',List.sum_replicate_nat,List.length_range]
 omega
theorem kW (Va:VA a n) (Vb:VA b m) (hn:n<=12) (hm:m<=12):NumOk (nxP a b) (a.1,b.1) (inP n m) 169 where
 g0:=⟨⟨by have:=Va.start.1;show -1<=a.1;omega,Va.start.2⟩,by have:=Vb.start.1;show -1<=b.1;omega,Vb.start.2⟩
 gn x hx y hy:=by
  obtain ⟨k,hk,e⟩:=List.mem_map.1 hy
  have hk:k<9:=List.mem_range.1 hk
  obtain rfl:=aa e
  exact ⟨Hl Va hx.1.1 hx.1.2 hk,Hl Vb hx.2.1 hx.2.2 hk⟩
 len x _:=by simp[nxP]
 bound l hd h:=by
  have h1:=xT n m l hd h
  have:(n+1)*(m+1)<=13*13:=Nat.mul_le_mul (by omega) (by omega)
  omega
def opB (op:Int) (x y:Bool):Bool:=if op==1 then x&&y else if op==2 then x || y else x && !y
theorem Nd (op:Int) (x y:Bool):mY op x y=some (opB op x y):=by
 unfold mY opB
 split
 ·cases x <;> simp
 ·split <;> cases x <;> simp
theorem xU {xs ys rw_:List Int} {q:Int} {l:List (Int×Int)} (hl:l.length<=1000000) (hd:l.Nodup) (hx:xs=l.map (·.1)) (hy:ys=l.map (·.2)) (x y:Int) :
  aO (dN (xs,ys,rw_,q) x y) bt (-1,0)=some (.brk (if (x,y)∈l then nbI l (some (x,y)) else -1,(l.length:Int))):=by
 subst hx;subst hy
 have:=bY (f:=dN (l.map (·.1),l.map (·.2),rw_,q) x y) (fun k=>(if (x,y)∈l.take k then nbI l (some (x,y)) else -1,(k:Int))) l.length (fun k hk=>by
  unfold dN
  simp only
  rw[if_pos (by simp;omega),aF (by omega) (by simp;omega),n7 (by omega) (by omega)];simp only[ae]
  rw[aF (by omega) (by simp;omega),n7 (by omega) (by omega)];simp only[ae,aM (show k<9223372036854775807 by omega)]
  rw[take_one hk];simp only[List.mem_append,List.mem_singleton]
  by_cases h:nth l (k:Int)=(x,y)
  ·have hm:(x,y)∈l:=h ▸ cF (by omega) (by omega)
   obtain ⟨q,hq,e1,e2⟩:=gx hm
   have:q=k:=by
    have h1:l[q]? =some (x,y):=by rw[List.getElem?_eq_getElem hq,e2]
    have h2:l[k]? =some (x,y):=by rw[List.getElem?_eq_getElem hk,<-bd hk,h]
    exact (List.getElem?_inj hq hd).1 (h1.trans h2.symm)
   subst this
   rw[h,if_pos (by simp),if_pos (by simp)];simp only[ae]
   rw[if_pos (.inr trivial),e1]
  ·have hn: ¬(x,y)=nth l (k:Int):=fun e=>h e.symm
   by_cases h1:(nth l (k:Int)).1=x
   ·by_cases h2:(nth l (k:Int)).2=y
    ·exact absurd (Prod.ext h1 h2) h
    ·rw[if_pos (by simpa using h1),if_neg (by simpa using h2)];simp[hn]
   ·rw[if_neg (by simpa using h1)];simp[hn]) (by unfold dN;simp) (lD (by omega))
 rw[List.take_of_length_le (aA _)] at this
 exact this
theorem AM (Va:VA a n) (Vb:VA b m) (hn:n<=12) (hm:m<=12) {l:List (Int×Int)} (hd:l.Nodup) (hG: ∀x∈l,inP n m x) {acs:List Bool} {rws:List (List Int)} {i:Nat} (hi:i<l.length) :
  aO (dO a b (l.map (·.1),l.map (·.2),(i:Int),0,acs,rws)) bt (l.map (·.1),l.map (·.2),[],0)=some (.brk ((nbS l (nxP a b (nth l (i:Int)))).map (·.1),(nbS l (nxP a b (nth l (i:Int)))).map (·.2),nbR l (nxP a b (nth l (i:Int))),9)):=by
 have hx:=hG _ (cF (i:=(i:Int)) (by omega) (by omega))
 have hos:(nxP a b (nth l (i:Int))).length=9:=by simp[nxP]
 have H:=kW Va Vb hn hm
 have hB: ∀k,(nbS l ((nxP a b (nth l (i:Int))).take k)).length<=169:=fun k=>H.bound _ (gl hd) fun x hx'=>by
  rcases jX.1 hx' with h | h
  ·exact hG x h
  ·exact H.gn _ hx x (List.mem_of_mem_take h)
 have:=bY (f:=dO a b (l.map (·.1),l.map (·.2),(i:Int),0,acs,rws)) (fun k=>((nbS l ((nxP a b (nth l (i:Int))).take k)).map (·.1),(nbS l ((nxP a b (nth l (i:Int))).take k)).map (·.2),nbR l ((nxP a b (nth l (i:Int))).take k),(k:Int))) 9 (fun k hk=>by
  have hpre:=ep l ((nxP a b (nth l (i:Int))).take k)
  have hlen:=hpre.length_le
  have hBk:=hB k
  have hrl:(nbR l ((nxP a b (nth l (i:Int))).take k)).length<=9:=by rw[bO,aC];omega
  unfold dO
  simp only[kd]
  rw[if_pos (by simp;omega),aF (by omega) (by simp;omega),n7 (by omega) (by omega),b7 hpre (by omega) (by omega)];simp only[ae]
  rw[Lq Va hx.1.1 hx.1.2 hk];simp only[ae]
  rw[aF (by omega) (by simp;omega),n7 (by omega) (by omega),b7 hpre (by omega) (by omega)];simp only[ae]
  rw[Lq Vb hx.2.1 hx.2.2 hk];simp only[ae]
  rw[aJ (xU (l:=nbS l ((nxP a b (nth l (i:Int))).take k)) (by omega) (gl hd) rfl rfl _ _)]
  simp only[aM (show k<9223372036854775807 by omega)]
  rw[take_one (by omega),jW,iT,DE hk]
  by_cases c:(mvn a (nth l (i:Int)).1 k,mvn b (nth l (i:Int)).2 k)∈nbS l ((nxP a b (nth l (i:Int))).take k)
  ·obtain ⟨q,hq,e1,e2⟩:=gx c
   rw[if_pos c,dU c,e1,if_neg (by simp)];simp only[ae]
   rw[aQ (by simp;omega)];rfl
  ·rw[if_neg c,du c,qH c,if_pos (show decide ((-1:Int)<0)=true from rfl)]
   rw[aQ (by simp;omega)];simp only[ae]
   rw[aQ (by simp;omega)];simp only[ae]
   rw[aQ (by simp;omega)];simp) (by
  unfold dO
  simp) (by unfold bt;omega)
 rw[show (nxP a b (nth l (i:Int))).take 9=nxP a b (nth l (i:Int)) from List.take_of_length_le (by omega)] at this
 exact this
def D0 (a b:AutT) (op:Int) (x:Int×Int):Bool:=opB op (acn a x.1) (acn b x.2)
theorem DF (Va:VA a n) (Vb:VA b m) (hn:n<=12) (hm:m<=12) (op:Int): ∃N,bfE (nxP a b) (a.1,b.1) N/\iM a b op=some (0,(bfS (nxP a b) (a.1,b.1) N).map (D0 a b op),bfR (nxP a b) (a.1,b.1) N):=by
 have H:=kW Va Vb hn hm
 obtain ⟨N,hNB,hN⟩:=zf (nx:=nxP a b) (first:=(a.1,b.1)) (H.le)
 refine ⟨N,hN,?_⟩
 unfold iM
 have:=bY (f:=fy a b op) (fun i=>((bfS (nxP a b) (a.1,b.1) i).map (·.1),(bfS (nxP a b) (a.1,b.1) i).map (·.2),(i:Int),0,((bfS (nxP a b) (a.1,b.1) i).take i).map (D0 a b op),bfR (nxP a b) (a.1,b.1) i)) N (fun i hi=>by
  have hlt:=hN.2 i hi
  have hG:=H.at hlt
  have hle:=H.le i
  have hle':=H.le (i+1)
  have hr:(bfR (nxP a b) (a.1,b.1) i).length=i:=dq fun j hj=>hN.2 j (by omega)
  have hl2:=(aU (nx:=nxP a b) (first:=(a.1,b.1)) i).length_le
  unfold fy
  simp only[kd]
  rw[if_pos (by simp;omega),aJ (AM Va Vb hn hm (fF i) (et H.g0 H.gn i) hlt),<-fG hlt]
  simp only
  rw[aF (by omega) (by simp;omega),n7 (by omega) (by omega),b7 (aU i) (by omega) (by omega)];simp only[ae]
  rw[Ls Va hG.1.1 hG.1.2];simp only[ae]
  rw[aF (by omega) (by simp;omega),n7 (by omega) (by omega),b7 (aU i) (by omega) (by omega)];simp only[ae]
  rw[Ls Vb hG.2.1 hG.2.2];simp only[ae]
  rw[Nd];simp only[ae]
  rw[aQ (by simp;omega)];simp only[ae]
  rw[aQ (by simp;omega)];simp only[ae,aM (show i<9223372036854775807 by omega)]
  rw[nq hlt,kV hlt];rfl) (by
  unfold fy
  simp only
  rw[if_neg (by have:=hN.1;simp;omega)]) (lD (by omega))
 have e:=aJ (kr:=fun r=>some r) (k:=fun s60:List Int×List Int×Int×Int×List Bool×List (List Int)=>(some (s60.2.2.2.1,s60.2.2.2.2.1,s60.2.2.2.2.2):Option AutT)) this
 refine e.trans ?_
 rw[List.take_of_length_le (by have:=hN.1;omega)]
end
end D
namespace D
open Go.RowKit
section
variable {κ:Type} [DecidableEq κ] {nx:κ->List (Option κ)} {first:κ} {N:Nat}
theorem DG: ∀ {l:List κ} {x:κ} (h:x∈l),l[l.idxOf x]'(List.idxOf_lt_length_iff.2 h)=x:=fun {l x} h=>by simp
def krun (nx:κ->List (Option κ)):Option κ->List Nat->Option κ
 | x,[] =>x
 | none,_::_=>none
 | some x,k::w=>krun nx (nth (nx x) (k:Int)) w
theorem wg (nx:κ->List (Option κ)): ∀w,krun nx none w=none
 | [] =>rfl
 | _::_=>rfl
theorem Lt (E:bfE nx first N) {i:Nat} (hi:i<N) {j:Nat} (hij:i<j) (hj:j<=N):nth (bfR nx first j) (i:Int)=nbR (bfS nx first i) (nx ((bfS nx first i)[i]'(E.2 i hi))):=by
 induction j with
 | zero=>omega
 | succ j ih =>
  rw[lE (E.2 j (by omega))]
  have hl:(bfR nx first j).length=j:=dq fun m hm=>E.2 m (by omega)
  by_cases h:i<j
  ·rw[fE (by omega) (by omega),ih h (by omega)]
  ·obtain rfl:i=j:=by omega
   rw[bd (by rw[aw,hl];simp)]
   simp[hl]
theorem Lu {i:Nat} (h:i<(bfS nx first i).length) {j:Nat} (hij:i<=j):(bfS nx first j)[i]? =some ((bfS nx first i)[i]):=by
 have hp:=jv (nx:=nx) (first:=first) hij
 obtain ⟨t,ht⟩:=hp
 rw[<-ht,List.getElem?_append_left h,List.getElem?_eq_getElem h]
theorem JD (E:bfE nx first N) {x:κ} (hx:x∈bfS nx first N) {k:Nat} (hk:k<(nx x).length) :
  nth (nth (bfR nx first N) ((bfS nx first N).idxOf x:Int)) (k:Int)=(match nth (nx x) (k:Int) with | none=> -1 | some y=>((bfS nx first N).idxOf y:Int))/\ ∀y,nth (nx x) (k:Int)=some y->y∈bfS nx first N:=by
 have hlt:(bfS nx first N).idxOf x<N:=by
  have:=List.idxOf_lt_length_iff.2 hx
  have:=E.1
  omega
 generalize hi:(bfS nx first N).idxOf x=i at hlt⊢
 have hl:=E.2 i hlt
 have hxi:(bfS nx first i)[i] =x:=by
  have h1:=Lu hl (Nat.le_of_lt hlt)
  have h2:(bfS nx first N)[i]? =some x:=by
   rw[<-hi,List.getElem?_eq_getElem (List.idxOf_lt_length_iff.2 hx),DG hx]
  rw[h1] at h2;exact aa h2
 rw[Lt E hlt hlt (aA _),hxi,Dm _ _ _ hk]
 have hs:nbS (bfS nx first i) (nx x)=bfS nx first (i+1):=by rw[o7 hl,hxi]
 have hp:nbS (bfS nx first i) (nx x) <+:bfS nx first N:=by rw[hs];exact jv hlt
 cases ho:nth (nx x) (k:Int) with
 | none=>exact ⟨rfl,fun y hy=>by cases hy⟩
 | some y =>
  have hm:some y∈nx x:=by
   rw[<-ho];exact cF (by omega) (by omega)
  have hy:y∈nbS (bfS nx first i) (nx x):=jX.2 (.inr hm)
  refine ⟨?_,fun z hz=>?_⟩
  ·show ((nbS (bfS nx first i) (nx x)).idxOf y:Int)=_
   exact (sq hp hy).symm
  ·obtain rfl:=aa hz
   exact hp.subset hy
end
def iD (a:AutT) (s:Int) (w:List Nat):Int:=w.foldl (mvn a) s
def acw (a:AutT) (w:List Nat):Bool:=acn a (iD a a.1 w)
theorem pe (a:AutT): ∀(w:List Nat) (s:Int),s<0->iD a s w<0
 | [],s,h=>h
 | k::w,s,h=>by
  show iD a (mvn a s k) w<0
  exact pe a w _ (by unfold mvn;rw[if_pos h];omega)
theorem mu (a:AutT) (s:Int) (v w:List Nat):iD a s (v++w)=iD a (iD a s v) w:=by unfold iD;rw[List.foldl_append]
section
variable {κ:Type} [DecidableEq κ] {nx:κ->List (Option κ)} {first:κ} {N:Nat}
structure NumA (r:AutT) (nx:κ->List (Option κ)) (first:κ) (ac:κ->Bool) (N:Nat):Prop where
 E:bfE nx first N
 st:r.1=0
 accs:r.2.1=(bfS nx first N).map ac
 rows:r.2.2=bfR nx first N
 len: ∀x∈bfS nx first N,(nx x).length=9
theorem NumA.run {r:AutT} {ac:κ->Bool} (H:NumA r nx first ac N): ∀(w:List Nat) (x:κ),(∀k∈w,k<9)->x∈bfS nx first N->(krun nx (some x) w=none/\D.iD r ((bfS nx first N).idxOf x:Int) w<0)\/ ∃y∈bfS nx first N,krun nx (some x) w=some y/\D.iD r ((bfS nx first N).idxOf x:Int) w=((bfS nx first N).idxOf y:Int)
 | [],x,_,hx=>.inr ⟨x,hx,rfl,rfl⟩
 | k::w,x,hw,hx=>by
  obtain ⟨h1,h2⟩:=JD H.E hx (k:=k) (by rw[H.len x hx];exact hw k (by simp))
  have e:D.iD r ((bfS nx first N).idxOf x:Int) (k::w)=D.iD r (mvn r ((bfS nx first N).idxOf x:Int) k) w:=rfl
  have em:mvn r ((bfS nx first N).idxOf x:Int) k=nth (nth (bfR nx first N) ((bfS nx first N).idxOf x:Int)) (k:Int):=by
   unfold mvn mv;rw[if_neg (by omega),H.rows]
  have ek:krun nx (some x) (k::w)=krun nx (nth (nx x) (k:Int)) w:=rfl
  rw[e,em,h1,ek]
  cases ho:nth (nx x) (k:Int) with
  | none=>exact .inl ⟨wg nx w,pe r w _ (by show (-1:Int)<0;omega)⟩
  | some y=>exact NumA.run H w y (fun j hj=>hw j (aX _ hj)) (h2 y ho)
theorem NumA.acw {r:AutT} {ac:κ->Bool} (H:NumA r nx first ac N) {w:List Nat} (hw: ∀k∈w,k<9):D.acw r w=(match krun nx (some first) w with | none=>false | some y=>ac y):=by
 have hf:first∈bfS nx first N:=List.mem_of_getElem? (nl N)
 have h0:(bfS nx first N).idxOf first=0:=by
  have h1:=nl (nx:=nx) (first:=first) N
  cases hL:bfS nx first N with
  | nil=>rw[hL] at h1;cases h1
  | cons z l =>
   rw[hL] at h1
   obtain rfl:=aa (show some z=some first from h1)
   simp
 unfold D.acw
 rw[H.st]
 have hr:=H.run w first hw hf
 rw[h0] at hr
 rcases hr with ⟨h1,h2⟩ | ⟨y,hy,h1,h2⟩
 ·rw[h1]
  have h2:D.iD r 0 w<0:=h2
  unfold acn
  rw[if_pos h2]
 ·rw[h1]
  have h2:D.iD r 0 w=_:=h2
  rw[h2]
  have hlt:=List.idxOf_lt_length_iff.2 hy
  unfold acn
  rw[if_neg (by omega),H.accs]
  show nth (List.map ac (bfS nx first N)) (((bfS nx first N).idxOf y:Nat):Int)=ac y
  rw[bd (by rw[List.length_map];exact hlt),List.getElem_map,DG hy]
end
section
variable {κ:Type} [DecidableEq κ] {nx:κ->List (Option κ)} {N:Nat} {a:AutT} {good inR:Int->Prop} {f:Int->κ} {ac:κ->Bool}
structure Quot (a:AutT) (nx:κ->List (Option κ)) (ac:κ->Bool) (f:Int->κ) (good inR:Int->Prop):Prop where
 r0:inR a.1
 rin: ∀s k,inR s->k<9->inR (mvn a s k)
 pos: ∀s,good s->0<=s
 yes: ∀s k,good s->k<9->good (mv a s k)->nth (nx (f s)) (k:Int)=some (f (mv a s k))
 no: ∀s k,good s->k<9-> ¬good (mv a s k)->nth (nx (f s)) (k:Int)=none
 acc: ∀s,good s->ac (f s)=nth a.2.1 s
 back: ∀s k,inR s->k<9-> ¬good s-> ¬good (mvn a s k)
 bad: ∀s,inR s-> ¬good s->acn a s=false
theorem Quot.bad_run (Q:Quot a nx ac f good inR): ∀(w:List Nat) (s:Int),(∀k∈w,k<9)->inR s-> ¬good s-> ¬good (iD a s w)/\inR (iD a s w)
 | [],s,_,hi,h=>⟨h,hi⟩
 | k::w,s,hw,hi,h=>Q.bad_run w (mvn a s k) (fun j hj=>hw j (aX _ hj)) (Q.rin s k hi (hw k (by simp))) (Q.back s k hi (hw k (by simp)) h)
theorem Quot.krun (Q:Quot a nx ac f good inR): ∀(w:List Nat) (s:Int),(∀k∈w,k<9)->inR s->good s->(good (iD a s w)/\D.krun nx (some (f s)) w=some (f (iD a s w)))\/(¬good (iD a s w)/\inR (iD a s w)/\D.krun nx (some (f s)) w=none)
 | [],s,_,hi,h=>.inl ⟨h,rfl⟩
 | k::w,s,hw,hi,h=>by
  have hk:k<9:=hw k (by simp)
  have hw': ∀j∈w,j<9:=fun j hj=>hw j (aX _ hj)
  have em:mvn a s k=mv a s k:=by unfold mvn;rw[if_neg (by have:=Q.pos s h;omega)]
  have hi':=Q.rin s k hi hk
  show (good (iD a (mvn a s k) w)/\D.krun nx (nth (nx (f s)) (k:Int)) w=some (f (iD a (mvn a s k) w)))\/(¬good (iD a (mvn a s k) w)/\inR (iD a (mvn a s k) w)/\D.krun nx (nth (nx (f s)) (k:Int)) w=none)
  by_cases hg:good (mv a s k)
  ·rw[Q.yes s k h hk hg,em]
   rw[em] at hi'
   exact Q.krun w _ hw' hi' hg
  ·rw[Q.no s k h hk hg,wg]
   obtain ⟨h1,h2⟩:=Q.bad_run w (mvn a s k) hw' hi' (by rw[em];exact hg)
   exact .inr ⟨h1,h2,rfl⟩
theorem Quot.acw {r:AutT} (Q:Quot a nx ac f good inR) (h0:good a.1) (H:NumA r nx (f a.1) ac N) {w:List Nat} (hw: ∀k∈w,k<9):D.acw r w=D.acw a w:=by
 rw[H.acw hw]
 rcases Q.krun w a.1 hw Q.r0 h0 with ⟨h1,h2⟩ | ⟨h1,h2,h3⟩
 ·rw[h2]
  show ac (f (iD a a.1 w))=acn a (iD a a.1 w)
  rw[Q.acc _ h1]
  unfold acn
  rw[if_neg (by have:=Q.pos _ h1;omega)]
 ·rw[h3]
  exact (Q.bad _ h2 h1).symm
end
theorem wh {a b:AutT} : ∀(w:List Nat) (s t:Int),(∀k∈w,k<9)->krun (nxP a b) (some (s,t)) w=some (iD a s w,iD b t w)
 | [],s,t,_=>rfl
 | k::w,s,t,hw=>by
  show krun (nxP a b) (nth (nxP a b (s,t)) (k:Int)) w=_
  rw[DE (hw k (by simp))]
  exact wh w _ _ fun j hj=>hw j (aX _ hj)
theorem zr {a b r:AutT} {op:Int} {N:Nat} (H:NumA r (nxP a b) (a.1,b.1) (D0 a b op) N) {w:List Nat} (hw: ∀k∈w,k<9):acw r w=opB op (acw a w) (acw b w):=by
 rw[H.acw hw,wh w _ _ hw];rfl
end D
namespace D
open Go.RowKit
theorem ud {n:Nat} {r:List Int} :(∀t∈r,-1<=t/\t<=(n:Int) - 1)↔ ∀t∈r,-1<=t/\t<(n:Int):=forall_congr' fun t=>forall_congr' fun _=>and_congr Iff.rfl (by omega)
theorem Lv (a:AutT) (h1:a.2.1.length<=9223372036854775807) (h2:a.2.2.length<=9223372036854775807): ∃b,gY a=some b/\(b=true↔VA a a.2.1.length):=by
 unfold gY
 rw[LW];simp only[ae,nk h1]
 by_cases c1:0<=a.1/\a.1<=(a.2.1.length:Int) - 1
 case neg=>exact ⟨false,by rw[if_neg (by simpa using c1)],by simp;exact fun h=>c1 ⟨h.start.1,by have:=h.start.2;omega⟩⟩
 rw[if_pos (by simpa using c1)]
 by_cases c2:a.2.2.length=a.2.1.length
 case neg=>exact ⟨false,by rw[if_pos (by simp;omega)],by simp;exact fun h=>c2 h.nlen⟩
 rw[if_neg (by simp;omega)]
 have inner: ∀i:Nat,i<a.2.2.length->(nth a.2.2 i).length=9->(aO (dm a i) bt 0=some (.brk 9)/\ ∀t∈nth a.2.2 (i:Int),-1<=t/\t<=(a.2.1.length:Int) - 1)\/(aO (dm a i) bt 0=some (.ret false)/\ ¬ ∀t∈nth a.2.2 (i:Int),-1<=t/\t<=(a.2.1.length:Int) - 1):=by
  intro i hi hr
  have:=scan (f:=dm a i) (nth a.2.2 (i:Int)) (fun t=> -1<=t/\t<=(a.2.1.length:Int) - 1) false (by omega) (fun j hj=>by
   unfold dm
   rw[if_pos (by simp;omega),aF (by omega) (by omega)];simp only[ae]
   rw[aF (by omega) (by omega)];simp only[ae,nk h1]
   rw[LW];simp only[ae,aM (show j<9223372036854775807 by omega)]
   by_cases c: -1<=nth (nth a.2.2 (i:Int)) (j:Int)/\nth (nth a.2.2 (i:Int)) (j:Int)<=(a.2.1.length:Int) - 1
   ·rw[if_pos (by simpa using c),if_pos c]
   ·rw[if_neg (by simpa using c),if_neg c]) (by unfold dm;rw[if_neg (by simp[hr])])
  rwa [hr] at this
 have outer:=scan (f:=fT a) a.2.2 (fun r=>r.length=9/\ ∀t∈r,-1<=t/\t<=(a.2.1.length:Int) - 1) false h2 (fun i hi=>by
  unfold fT
  rw[if_pos (by simp;omega),aF (by omega) (by omega)];simp only[ae]
  by_cases c:(nth a.2.2 (i:Int)).length=9
  ·rw[if_neg (by simp;omega)]
   rcases inner i hi c with ⟨e,k⟩ | ⟨e,k⟩
   ·rw[aJ e,if_pos ⟨c,k⟩,aM (show i<9223372036854775807 by omega)]
   ·rw[dj e,if_neg (fun h=>k h.2)]
  ·rw[if_pos (by simp;omega),if_neg (fun h=>c h.1)]) (by unfold fT;rw[if_neg (by simp;omega)])
 rcases outer with ⟨e,k⟩ | ⟨e,k⟩
 ·exact ⟨true,by rw[aJ e],by simp;exact ⟨rfl,⟨c1.1,by omega⟩,c2,fun r hr=>(k r hr).1,fun r hr=>ud.1 (k r hr).2⟩⟩
 ·exact ⟨false,by rw[dj e],by simp;exact fun h=>k fun r hr=>⟨h.row r hr,ud.2 (h.ent r hr)⟩⟩
theorem DH (a:AutT) (h1:a.2.1.length<=9223372036854775807) (h2:a.2.2.length<=9223372036854775807): ∃b,aE a=some b/\(b=true↔a.2.1.length<=12/\VA a a.2.1.length):=by
 unfold aE
 by_cases c:a.2.1.length<=12
 ·rw[if_pos (by simp;omega)]
  obtain ⟨b,e,hb⟩:=Lv a h1 h2
  exact ⟨b,by show (gY a).bind _=_;rw[e];rfl,by rw[hb];simp[c]⟩
 ·exact ⟨false,by rw[if_neg (by simp;omega)],by simp;exact fun h=>absurd h c⟩
theorem JE (a:AutT) (h1:a.2.1.length<=9223372036854775807) (h2:a.2.2.length<=9223372036854775807) (h3: ∀r∈a.2.2,r.length<=9223372036854775807): ∃b,aZ a=some b/\(b=true↔a.2.1.length<=12/\VA a a.2.1.length):=by
 unfold aZ
 rw[K6];simp only[ae,nk h1]
 by_cases c0:1<=(a.2.1.length:Int)/\(a.2.1.length:Int)<=12
 case neg=>exact ⟨false,by rw[if_neg (by simpa using c0)],by simp;exact fun h h'=>c0 ⟨by have:=h'.start;omega,by omega⟩⟩
 rw[if_pos (by simpa using c0),K6];simp only[ae]
 by_cases c1:0<=a.1/\a.1<=(a.2.1.length:Int) - 1
 case neg=>exact ⟨false,by rw[if_neg (by simpa using c1)],by simp;exact fun _ h=>c1 ⟨h.start.1,by have:=h.start.2;omega⟩⟩
 rw[if_pos (by simpa using c1)]
 by_cases c2:a.2.2.length=a.2.1.length
 case neg=>exact ⟨false,by rw[if_pos (by simp;omega)],by simp;exact fun _ h=>c2 h.nlen⟩
 rw[if_neg (by simp;omega)]
 have inner: ∀x:List Int,x.length<=9223372036854775807->(aO (bf a x) bt 0=some (.brk (x.length:Int))/\ ∀t∈x,-1<=t/\t<=(a.2.1.length:Int) - 1)\/(aO (bf a x) bt 0=some (.ret false)/\ ¬ ∀t∈x,-1<=t/\t<=(a.2.1.length:Int) - 1):=by
  intro x hx
  refine scan (f:=bf a x) x (fun t=> -1<=t/\t<=(a.2.1.length:Int) - 1) false hx (fun j hj=>?_) (by unfold bf;rw[if_neg (by simp)])
  unfold bf
  rw[if_pos (by simp;omega),aF (by omega) (by omega)];simp only[ae,nk h1]
  rw[K6];simp only[ae,aM (show j<9223372036854775807 by omega)]
  by_cases c: -1<=nth x (j:Int)/\nth x (j:Int)<=(a.2.1.length:Int) - 1
  ·rw[if_pos (by simpa using c),if_pos c]
  ·rw[if_neg (by simpa using c),if_neg c]
 have outer:=scan (f:=bU a) a.2.2 (fun r=>(∀t∈r,-1<=t/\t<=(a.2.1.length:Int) - 1)/\r.length=9) false h2 (fun i hi=>by
  unfold bU
  rw[if_pos (by simp;omega),aF (by omega) (by omega)];simp only[ae]
  rcases inner (nth a.2.2 (i:Int)) (h3 _ (cF (by omega) (by omega))) with ⟨e,k⟩ | ⟨e,k⟩
  ·rw[aJ e]
   by_cases c:(nth a.2.2 (i:Int)).length=9
   ·rw[if_neg (by simp;omega),if_pos ⟨k,c⟩,aM (show i<9223372036854775807 by omega)]
   ·rw[if_pos (by simp;omega),if_neg (fun h=>c h.2)]
  ·rw[dj e,if_neg (fun h=>k h.1)]) (by unfold bU;rw[if_neg (by simp)])
 rcases outer with ⟨e,k⟩ | ⟨e,k⟩
 ·exact ⟨true,by rw[aJ e],by simp;exact ⟨by omega,rfl,⟨c1.1,by omega⟩,c2,fun r hr=>(k r hr).2,fun r hr=>ud.1 (k r hr).1⟩⟩
 ·exact ⟨false,by rw[dj e],by simp;exact fun _ h=>k fun r hr=>⟨ud.2 (h.ent r hr),h.row r hr⟩⟩
end D
namespace D
open Go.RowKit
section
variable {a b:AutT} {n m:Nat}
theorem DI (Va:VA a n) (Vb:VA b m) (hn:n<=12) (hm:m<=12) {test:Bool->Bool->Option Bool} {tb:Bool->Bool->Bool} (ht: ∀x y,test x y=some (tb x y)) :
  ∃N,bfE (nxP a b) (a.1,b.1) N/\cd (a.1,b.1) 1000 (fun a0=>fv a0 test a b) (fun a0 a1=>fw a0 a1 (fun a0 a1=>eI a0 a1 a b))=some ((0,(bfS (nxP a b) (a.1,b.1) N).map (fun x=>tb (acn a x.1) (acn b x.2)),bfR (nxP a b) (a.1,b.1) N),true):=by
 refine JB (acc:=fun x=>tb (acn a x.1) (acn b x.2)) (kW Va Vb hn hm) (by decide) (by decide) (fun x hx=>?_) (fun x hx=>?_) (fun x k hx hk=>⟨(0,0),?_⟩)
 ·have h1:IntKind.i64.min= -9223372036854775808:=by decide
  have h2:IntKind.i64.max=9223372036854775807:=by decide
  obtain ⟨⟨h3,h4⟩,h5,h6⟩:=hx
  simp only[yi,Lit.wf,h1,h2,af,decide_eq_true_eq]
  omega
 ·show fv x test a b=_
  unfold fv
  simp only[kd]
  rw[Lr Va hx.1.1 hx.1.2,Lr Vb hx.2.1 hx.2.2];simp only[ae]
  rw[ht];rfl
 ·show fw x k (fun a0 a1=>eI a0 a1 a b)=_
  unfold fw eI
  simp only[kd]
  rw[Lp Va hx.1.1 hx.1.2 hk,Lp Vb hx.2.1 hx.2.2 hk];simp only[ae]
  rw[DE hk]
theorem qM:Data.sm ((0,[],[]):AutT):=⟨trivial,⟨by decide,fun _ h=>by cases h⟩,by decide,fun _ h=>by cases h⟩
theorem sx {κ:Type} [DecidableEq κ] [Inhabited κ] {nx:κ->List (Option κ)} {first:κ} {G:κ->Prop} {N:Nat} {acc:κ->Bool} (H:NumOk nx first G 169) (hN:bfE nx first N) :
  ∃r,((bG (0,(bfS nx first N).map acc,bfR nx first N)).bind fun r4=>if decide ((r4.2.1.length:Int)>12) then (some ((0,[],[]),false)) else (some ((r4.1,r4.2.1,r4.2.2),true)))=some r/\hY (0,(bfS nx first N).map acc,bfR nx first N)=some r/\Data.sm r.1/\(r.2=true->VA r.1 r.1.2.1.length/\r.1.2.1.length<=12/\ ∃n,VA (0,(bfS nx first N).map acc,bfR nx first N) n/\LY (0,(bfS nx first N).map acc,bfR nx first N) n r.1):=by
 have hle:=H.le N
 have hNl:=hN.1
 obtain ⟨r,es,ei,hr,hv,-,hf⟩:=sw (Dv (acc:=acc) H hN) (by omega)
 unfold hY
 simp only[kd]
 rw[es,ei];simp only[ae]
 by_cases c:(r.2.1.length:Int)>12
 ·exact ⟨((0,[],[]),false),by rw[if_pos (by simpa using c)],by rw[if_pos (by simpa using c)],qM,fun h=>by cases h⟩
 ·exact ⟨(r,true),by rw[if_neg (by simpa using c)],by rw[if_neg (by simpa using c)],hr,fun _=>⟨hv,by show r.2.1.length<=12;omega,_,Dv (acc:=acc) H hN,hf⟩⟩
theorem lG (a:AutT) (hs:Data.sm a): ∃b,aE a=some b/\aZ a=some b/\(b=true↔a.2.1.length<=12/\VA a a.2.1.length):=by
 obtain ⟨-,⟨ha,-⟩,hn,hr⟩:=hs
 obtain ⟨b1,e1,k1⟩:=DH a (by omega) (by omega)
 obtain ⟨b2,e2,k2⟩:=JE a (by omega) (by omega) (fun r h=>by have:r.length<=1048576:=(hr r h).1;omega)
 have:b2=b1:=by
  cases h1:b1 <;> cases h2:b2
  ·rfl
  ·have:=k1.2 (k2.1 h2);rw[h1] at this;cases this
  ·have:=k2.2 (k1.1 h1);rw[h2] at this;cases this
  ·rfl
 subst this
 exact ⟨b2,e1,e2,k1⟩
theorem j4 (a:AutT) (hs:Data.sm a): ∃b,aE a=some b/\aZ a=some b/\(b=true->a.2.1.length<=12/\VA a a.2.1.length):=by
 obtain ⟨b,h1,h2,h3⟩:=lG a hs
 exact ⟨b,h1,h2,h3.1⟩
theorem DJ (op:Int) {test:Bool->Bool->Option Bool} (ht: ∀x y,test x y=some (opB op x y)) (ha:Data.sm a) (hb:Data.sm b): ∃r,eT a b op=some r/\c8 a b test=some r/\Data.sm r.1/\(r.2=true->aE a=some true/\aE b=some true/\VA r.1 r.1.2.1.length/\r.1.2.1.length<=12/\ ∃N n,bfE (nxP a b) (a.1,b.1) N/\VA (0,(bfS (nxP a b) (a.1,b.1) N).map (D0 a b op),bfR (nxP a b) (a.1,b.1) N) n/\LY (0,(bfS (nxP a b) (a.1,b.1) N).map (D0 a b op),bfR (nxP a b) (a.1,b.1) N) n r.1):=by
 obtain ⟨va,e1,e2,ka⟩:=j4 a ha
 obtain ⟨vb,e3,e4,kb⟩:=j4 b hb
 unfold eT c8
 simp only[kd]
 rw[e1,e2];simp only[ae]
 cases va with
 | false=>exact ⟨((0,[],[]),false),rfl,rfl,qM,fun h=>by cases h⟩
 | true =>
  rw[if_pos rfl,if_pos rfl,e3,e4];simp only[ae]
  cases vb with
  | false=>exact ⟨((0,[],[]),false),rfl,rfl,qM,fun h=>by cases h⟩
  | true =>
   obtain ⟨h12,Va⟩:=ka rfl
   obtain ⟨h12',Vb⟩:=kb rfl
   obtain ⟨N,hN,es⟩:=DF Va Vb h12 h12' op
   obtain ⟨N',hN',ei⟩:=DI Va Vb h12 h12' ht
   obtain rfl:=tS hN hN'
   obtain ⟨r,r1,r2,r3,r4⟩:=sx (acc:=D0 a b op) (kW Va Vb h12 h12') hN
   refine ⟨r,?_,?_,r3,fun h=>?_⟩
   rotate_left 2
   ·obtain ⟨q1,q2,n,q3,q4⟩:=r4 h
    exact ⟨by trivial,by trivial,q1,q2,N,n,hN,q3,q4⟩
   ·rw[if_pos rfl,es];simp only[ae]
    exact r1
   ·rw[if_pos rfl]
    have ei':=congrArg (fun x=>Option.bind x fun r4:AutT×Bool=>(hY (r4.1.1,r4.1.2.1,r4.1.2.2)).bind fun r5=>some ((r5.1.1,r5.1.2.1,r5.1.2.2),r5.2)) ei
    refine ei'.trans ?_
    simp only[ae,kd]
    have e5:hY (0,(bfS (nxP a b) (a.1,b.1) N).map (fun x=>opB op (acn a x.1) (acn b x.2)),bfR (nxP a b) (a.1,b.1) N)=some r:=r2
    rw[e5];rfl
end
section
variable {κ μ:Type} [DecidableEq κ] [DecidableEq μ] {f:κ->μ}
theorem DK (hf: ∀x y,f x=f y->x=y) (l:List κ) (o:Option κ):nbL (l.map f) (o.map f)=(nbL l o).map f:=by
 cases o with
 | none=>rfl
 | some x =>
  by_cases c:x∈l
  ·rw[dU c];exact dU (List.mem_map.2 ⟨x,c,rfl⟩)
  ·have c':f x∉l.map f:=fun h=>by
    obtain ⟨y,hy,e⟩:=List.mem_map.1 h
    exact c (hf _ _ e ▸ hy)
   rw[du c]
   show nbL (l.map f) (some (f x))=_
   rw[du c'];simp
theorem wi (hf: ∀x y,f x=f y->x=y): ∀(l:List κ) (x:κ),(l.map f).idxOf (f x)=l.idxOf x
 | [],x=>rfl
 | y::l,x=>by
  rw[List.map_cons,List.idxOf_cons,List.idxOf_cons,wi hf l x]
  by_cases c:y=x
  ·subst c;simp
  ·have: ¬f y=f x:=fun e=>c (hf _ _ e)
   simp[show (y==x)=false from by simpa using c,show (f y==f x)=false from by simpa using this]
theorem JF (hf: ∀x y,f x=f y->x=y) (l:List κ) (o:Option κ):nbI (l.map f) (o.map f)=nbI l o:=by
 cases o with
 | none=>rfl
 | some x=>show ((l.map f).idxOf (f x):Int)=(l.idxOf x:Int);rw[wi hf]
theorem DL (hf: ∀x y,f x=f y->x=y): ∀(l:List κ) (os:List (Option κ)),nbS (l.map f) (os.map (Option.map f))=(nbS l os).map f
 | l,[] =>rfl
 | l,o::os=>by
  show nbS (nbL (l.map f) (o.map f)) (os.map (Option.map f))=(nbS (nbL l o) os).map f
  rw[DK hf,DL hf]
theorem DM (hf: ∀x y,f x=f y->x=y): ∀(l:List κ) (os:List (Option κ)),nbR (l.map f) (os.map (Option.map f))=nbR l os
 | l,[] =>rfl
 | l,o::os=>by
  show nbI (l.map f) (o.map f)::nbR (nbL (l.map f) (o.map f)) (os.map (Option.map f))=nbI l o::nbR (nbL l o) os
  rw[JF hf,DK hf,DM hf]
variable {nx:κ->List (Option κ)} {nx':μ->List (Option μ)} {first:κ}
theorem qN (hf: ∀x y,f x=f y->x=y) (hn: ∀x,nx' (f x)=(nx x).map (Option.map f)): ∀i,bfS nx' (f first) i=(bfS nx first i).map f
 | 0=>rfl
 | i+1=>by
  rw[bfS,bfS,qN hf hn i,List.getElem?_map]
  cases (bfS nx first i)[i]? with
  | none=>rfl
  | some x=>simp only[Option.map_some];rw[hn,DL hf]
theorem xV (hf: ∀x y,f x=f y->x=y) (hn: ∀x,nx' (f x)=(nx x).map (Option.map f)): ∀i,bfR nx' (f first) i=bfR nx first i
 | 0=>rfl
 | i+1=>by
  rw[bfR,bfR,xV hf hn i,qN hf hn i,List.getElem?_map]
  cases (bfS nx first i)[i]? with
  | none=>rfl
  | some x=>simp only[Option.map_some];rw[hn,DM hf]
theorem DN (hf: ∀x y,f x=f y->x=y) (hn: ∀x,nx' (f x)=(nx x).map (Option.map f)) {N:Nat} :bfE nx' (f first) N↔bfE nx first N:=by
 unfold bfE
 simp only[qN hf hn,List.length_map]
end
end D
namespace D
open Go.RowKit
def cA (w:List Int):Bool:=w.all fun k=>decide (0<=k/\k<=8)
def wu (w:List Int):List Nat:=w.map Int.toNat
def pf (a:AutT) (w:List Int):Bool:=cA w&&acw a (wu w)
theorem j5 {w:List Int} (h:cA w=true): ∀k∈wu w,k<9:=fun k hk=>by
 obtain ⟨x,hx,rfl⟩:=List.mem_map.1 hk
 have:=List.all_eq_true.1 h x hx
 simp at this
 omega
section
variable {a:AutT} {n:Nat} {w:List Int}
theorem wj {i:Nat} (h:i<w.length):wu (w.take (i+1))=wu (w.take i)++ [(nth w (i:Int)).toNat]:=by
 unfold wu
 rw[List.take_succ_eq_append_getElem h,aH,bd h];rfl
theorem kX {i:Nat} (h:cA (w.take i)=true) (hi:i<w.length) (hk:0<=nth w (i:Int)/\nth w (i:Int)<=8):cA (w.take (i+1))=true:=by
 unfold cA at h⊢
 rw[List.take_succ_eq_append_getElem hi,List.all_append,h]
 rw[bd hi] at hk
 simp[hk]
theorem qO {i:Nat} (hi:i<w.length) (hk: ¬(0<=nth w (i:Int)/\nth w (i:Int)<=8)):cA w=false:=by
 cases h:cA w with
 | false=>rfl
 | true =>
  have:=List.all_eq_true.1 h (nth w (i:Int)) (cF (by omega) (by omega))
  exact absurd (by simpa using this) hk
theorem qP {i:Nat} (h:iD a a.1 (wu (w.take i))<0):pf a w=false:=by
 unfold pf
 cases cA w with
 | false=>rfl
 | true =>
  show acw a (wu w)=false
  have e:wu w=wu (w.take i)++wu (w.drop i):=by
   unfold wu;rw[<-aH,List.take_append_drop]
  have h2:iD a a.1 (wu w)<0:=by
   rw[e,mu]
   exact pe a _ _ h
  unfold acw acn
  rw[if_pos h2]
def RunEnd (a:AutT) (n:Nat) (w:List Int) (r:Int):Prop:=(0<=r/\r<n/\cA w=true/\r=iD a a.1 (wu w))\/(r<0/\pf a w=false)
theorem RunEnd.acc {r:Int} (V:VA a n) (h:RunEnd a n w r):(if decide (r≥0) then ((bm a.2.1 r).bind fun x1=>some x1) else (some false):Option Bool)=some (pf a w):=by
 rcases h with ⟨h0,h1,h2,h3⟩ | ⟨h0,h1⟩
 ·rw[if_pos (by simpa using h0),V.acc h0 h1]
  unfold pf acw acn
  rw[h2,<-h3,if_neg (by omega)];rfl
 ·rw[if_neg (by simpa using h0),h1]
theorem MA (V:VA a n) (hw:w.length<=1000000): ∃r,lA a a.1 w=some r/\RunEnd a n w r:=by
 have hst:=V.start
 obtain ⟨o,e,r,ho,hr⟩:=eh (f:=jM a w) (fun i s=>s.2=(i:Int)/\cA (w.take i)=true/\s.1=iD a a.1 (wu (w.take i))/\s.1<n) (fun o=> ∃r,(o= .ret r\/ ∃i,o= .brk (r,i))/\RunEnd a n w r) w.length (fun i s hi hI=>by
  obtain ⟨h1,h2,h3,h4⟩:=hI
  unfold jM
  rw[h1,nZ]
  by_cases c:i<w.length
  ·rw[if_pos (by simpa using c)]
   by_cases c2:s.1≥0
   ·rw[if_pos (by simpa using c2),aF (by omega) (by omega)];simp only[ae]
    rw[zh];simp only[ae]
    by_cases c3:0<=nth w (i:Int)/\nth w (i:Int)<=8
    ·rw[if_pos (by simpa using c3),V.get c2 h4];simp only[ae]
     have hk:(nth w (i:Int)).toNat<9:=by omega
     have hk2:nth w (i:Int)=(((nth w (i:Int)).toNat:Nat):Int):=by omega
     have e3:bm (nth a.2.2 s.1) (nth w (i:Int))=some (mv a s.1 (nth w (i:Int)).toNat):=by
      rw[hk2];exact V.get2 c2 h4 (by omega)
     rw[e3];simp only[ae]
     refine .inl ⟨c,_,rfl,?_,kX h2 c c3,?_,(V.mv c2 h4 hk).2⟩
     ·show IntKind.i64.wrap ((i:Int)+1)=_
      rw[dh (by omega) (by omega)];omega
     ·show mv a s.1 _=_
      rw[wj c,mu,<-h3]
      show _=mvn a s.1 _
      unfold mvn
      rw[if_neg (by omega)]
    ·rw[if_neg (by simpa using c3)]
     exact .inr ⟨_,rfl,(fun s' e=>by cases e),-1,.inl rfl,.inr ⟨by omega,by unfold pf;rw[qO c c3];rfl⟩⟩
   ·rw[if_neg (by simpa using c2)]
    refine .inr ⟨_,rfl,(fun s' e=>by cases e),s.1,.inr ⟨_,rfl⟩,.inr ⟨by omega,qP (i:=i) (by rw[<-h3];omega)⟩⟩
  ·rw[if_neg (by simpa using c)]
   have hl:w.take i=w:=List.take_of_length_le (by omega)
   rw[hl] at h2 h3
   refine .inr ⟨_,rfl,(fun s' e=>by cases e),s.1,.inr ⟨_,rfl⟩,?_⟩
   by_cases c2:0<=s.1
   ·exact .inl ⟨c2,h4,h2,h3⟩
   ·exact .inr ⟨by omega,qP (i:=w.length) (by rw[List.take_of_length_le (aA _),<-h3];omega)⟩) (s:=(a.1,0)) ⟨rfl,rfl,rfl,hst.2⟩ (lD (by omega))
 unfold lA
 rcases ho with rfl | ⟨i,rfl⟩
 ·rw[dj e];exact ⟨r,rfl,hr⟩
 ·rw[aJ e];exact ⟨r,rfl,hr⟩
theorem Lw (V:VA a n) (hv:aE a=some true) (hw:w.length<=1000000): ∃r,jN a w=some r/\RunEnd a n w r:=by
 obtain ⟨r,e,h⟩:=MA V hw
 unfold jN
 simp only[kd]
 rw[hv];simp only[ae,if_true]
 rw[e]
 exact ⟨r,rfl,h⟩
theorem Hm (V:VA a n) (hv:aE a=some true) (hw:w.length<=1000000):dP a w=some (pf a w):=by
 obtain ⟨r,e,h⟩:=Lw V hv hw
 unfold dP
 simp only[kd]
 rw[e];simp only[ae]
 exact h.acc V
theorem AN {s k:Int} (hk: ¬(0<=k/\k<=8)):aS a s k=some (-1):=by
 unfold aS iL
 by_cases c:s<0
 ·rw[if_pos (by simpa using c)]
 ·rw[if_neg (by simpa using c),K6];simp only[ae]
  rw[if_neg (by simpa using hk)]
theorem Lx (V:VA a n) (hv:aZ a=some true) (hw:w.length<=1000000): ∃r,jO a w=some r/\RunEnd a n w r:=by
 have hst:=V.start
 obtain ⟨s,e,h1,h2,h3⟩:=di (f:=fZ a w) (fun i s=>s.2=(i:Int)/\s.1<n/\((0<=s.1/\cA (w.take i)=true/\s.1=iD a a.1 (wu (w.take i)))\/(s.1<0/\pf a w=false))) w.length (fun i s hi hI=>by
  obtain ⟨h1,h4,h2⟩:=hI
  unfold fZ
  rw[h1,nZ,if_pos (by simpa using hi),aF (by omega) (by omega)];simp only[ae,kd]
  have hw1:IntKind.i64.wrap ((i:Int)+1)=((i+1:Nat):Int):=by rw[dh (by omega) (by omega)];omega
  rcases h2 with ⟨c2,h2,h3⟩ | ⟨c2,h2⟩
  ·by_cases c3:0<=nth w (i:Int)/\nth w (i:Int)<=8
   ·have hk:(nth w (i:Int)).toNat<9:=by omega
    have hk2:nth w (i:Int)=(((nth w (i:Int)).toNat:Nat):Int):=by omega
    have e3:aS a s.1 (nth w (i:Int))=some (mv a s.1 (nth w (i:Int)).toNat):=by
     rw[hk2];exact C5 V c2 h4 (by omega)
    rw[e3];simp only[ae]
    have e4:mv a s.1 (nth w (i:Int)).toNat=iD a a.1 (wu (w.take (i+1))):=by
     rw[wj hi,mu,<-h3]
     show _=mvn a s.1 _
     unfold mvn
     rw[if_neg (by omega)]
    refine ⟨_,rfl,hw1,(V.mv c2 h4 hk).2,?_⟩
    show (0<=mv a s.1 _/\_/\mv a s.1 _=_)\/(mv a s.1 _<0/\_)
    by_cases c4:0<=mv a s.1 (nth w (i:Int)).toNat
    ·exact .inl ⟨c4,kX h2 hi c3,e4⟩
    ·exact .inr ⟨by omega,qP (i:=i+1) (by rw[<-e4];omega)⟩
   ·rw[AN c3];simp only[ae]
    exact ⟨_,rfl,hw1,by show (-1:Int)<n;omega,.inr ⟨by show (-1:Int)<0;omega,by unfold pf;rw[qO hi c3];rfl⟩⟩
  ·rw[sn c2];simp only[ae]
   exact ⟨_,rfl,hw1,by show (-1:Int)<n;omega,.inr ⟨by show (-1:Int)<0;omega,h2⟩⟩) (fun s hI=>by
  unfold fZ
  rw[hI.1,nZ,if_neg (by simp)]
  obtain ⟨x,y⟩:=s
  obtain rfl:y=_:=hI.1
  rfl) (s:=(a.1,0)) ⟨rfl,hst.2,.inl ⟨hst.1,rfl,rfl⟩⟩ (lD (by omega))
 unfold jO
 simp only[kd]
 rw[hv];simp only[ae,if_true]
 rw[aJ e]
 refine ⟨_,rfl,?_⟩
 rw[List.take_of_length_le (aA _)] at h3
 rcases h3 with ⟨c,h4,h5⟩ | h3
 ·exact .inl ⟨c,h2,h4,h5⟩
 ·exact .inr h3
theorem Ly (V:VA a n) (hv:aZ a=some true) (hw:w.length<=1000000):aj a w=some (pf a w):=by
 obtain ⟨r,e,h⟩:=Lx V hv hw
 unfold aj aV
 simp only[kd]
 rw[e];simp only[ae]
 rw[h.acc V];rfl
end
end D
namespace D
open Go.RowKit
section
variable {a:AutT} (V:VA a a.2.1.length) (hn:a.2.1.length<=12) (hs:Data.sm a)
include V hn hs
end
end D
namespace D
open Go.RowKit
section
variable {α:Type} [DecidableEq α]
end
end D
namespace D
open Go.RowKit
end D
namespace D
open Go.RowKit
end D
namespace D
open Go.RowKit
end D
namespace D
open Go.RowKit
def Step (a:AutT) (x y:Int):Prop:= ∃k:Nat,k<9/\mv a x k=y/\0<=y
section
variable {a:AutT} {n:Nat}
theorem DO (V:VA a n) {x y:Int} (h0:0<=x) (h1:x<n) (h:Step a x y):0<=y/\y<n:=by
 obtain ⟨k,hk,rfl,hy⟩:=h
 exact ⟨hy,(V.mv h0 h1 hk).2⟩
theorem Gj (V:VA a n) {x y:Int} (h0:0<=x) (h1:x<n) (h:Relation.TransGen (Step a) x y):0<=y/\y<n:=by
 induction h with
 | single h=>exact DO V h0 h1 h
 | tail _ h ih=>exact DO V ih.1 ih.2 h
end
section
variable {a:AutT} {n:Nat}
end
end D
namespace D
open Go.RowKit
theorem wk {a:AutT} {out:List Bool} {s:Nat} : ∀d,s+d<=out.length->cnt (cH a out s)<=cnt (cH a out (s+d))
 | 0,_=>aA _
 | d+1,hd=>by
  have ih:=wk (a:=a) (out:=out) (s:=s) d (by omega)
  rw[show s+(d+1)=(s+d)+1 from rfl,cH]
  rcases kU (a:=a) (out:=cH a out (s+d)) (s:=s+d) (by rw[eu];omega) with ⟨e,-⟩ | ⟨e,-,-⟩
  ·rw[e];exact ih
  ·omega
section
variable {a:AutT} {n:Nat}
theorem qQ (V:VA a n) {s t:Int} (s0:0<=s) (s1:s<n) (h:Step a s t) (ht:nth (live a) t=true):nth (live a) s=true:=by
 have hn:=V.len
 have hll:=jZ a
 have hf:cH a (live a) a.2.1.length=live a:=Dc a
 have same: ∀i,i<=a.2.1.length->cH a (live a) i=live a:=fun i hi=>by
  rcases lF (a:=a) (out:=live a) i (by omega) with e | e
  ·exact e.1
  ·have:=wk (a:=a) (out:=live a) (s:=i) (a.2.1.length - i) (by omega)
   rw[show i+(a.2.1.length - i)=a.2.1.length by omega,hf] at this
   omega
 have h1:=same (s.toNat+1) (by omega)
 rw[cH,same s.toNat (by omega)] at h1
 have hh:hit (live a) (nth a.2.2 ((s.toNat:Nat):Int))=true:=by
  rw[show ((s.toNat:Nat):Int)=s by omega]
  obtain ⟨k,hk,e,h0⟩:=h
  unfold hit
  rw[List.any_eq_true]
  refine ⟨t,?_,?_⟩
  ·rw[<-e];exact cF (by omega) (by rw[V.rowAt s0 s1];omega)
  ·unfold AT;simp[h0,ht]
 unfold kT at h1
 rw[if_pos hh] at h1
 rw[<-h1]
 exact oD s0 (by omega)
theorem AO (V:VA a n) {s t:Int} (s0:0<=s) (s1:s<n) (h:Relation.TransGen (Step a) s t):nth (live a) t=true->nth (live a) s=true:=by
 induction h with
 | single h=>exact fun ht=>qQ V s0 s1 h ht
 | tail h k ih =>
  have hb:=Gj V s0 s1 h
  exact fun ht=>ih (qQ V hb.1 hb.2 k ht)
end
end D
namespace D
open Go.RowKit
section
variable {a:AutT} {n:Nat}
def In1 (n:Nat) (s:Int):Prop:= -1<=s/\s<n
theorem JG (V:VA a n) {s:Int} (h:In1 n s) {k:Nat} (hk:k<9):In1 n (mvn a s k):=by
 unfold mvn
 split
 ·exact ⟨Int.le_refl _,by omega⟩
 ·exact V.mv (by omega) h.2 hk
theorem Hn (V:VA a n): ∀(w:List Nat) {x:Int},(∀k∈w,k<9)->0<=x->x<n->0<=iD a x w->iD a x w=x/\w= [] \/Relation.TransGen (Step a) x (iD a x w)
 | [],x,_,_,_,_=>.inl ⟨rfl,rfl⟩
 | k::w,x,hw,h0,h1,h=>by
  have hk:k<9:=hw k (by simp)
  have em:mvn a x k=mv a x k:=by unfold mvn;rw[if_neg (by omega)]
  have e:iD a x (k::w)=iD a (mv a x k) w:=by show iD a (mvn a x k) w=_;rw[em]
  rw[e] at h⊢
  have hm:0<=mv a x k:=by
   rcases Int.lt_or_le (mv a x k) 0 with q | q
   ·have:=pe a w _ q;omega
   ·exact q
  have st:Step a x (mv a x k):=⟨k,hk,rfl,hm⟩
  rcases Hn V w (x:=mv a x k) (fun j hj=>hw j (aX _ hj)) hm (V.mv h0 h1 hk).2 h with ⟨q,-⟩ | q
  ·right;rw[q];exact .single st
  ·right;exact Relation.TransGen.trans (.single st) q
theorem xW {out:List Bool} {s:Nat} {t:Int} (t0:0<=t) (h:nth out t=true):nth (kT a out s) t=true:=by
 unfold kT
 split
 ·by_cases e:(s:Int)=t
  ·subst e
   by_cases hl:s<out.length
   ·rw[bd (by rw[List.length_set];exact hl)];simp
   ·rw[List.set_eq_of_length_le (by omega)];exact h
  ·have:=AC (xs:=out) (x:=true) (i:=(s:Int)) (j:=t) (by omega) t0 e
   have h2:nth (out.set s true) t=nth out t:=by simpa using this
   rw[h2];exact h
 ·exact h
theorem DP {t:Int} (t0:0<=t) (h:nth a.2.1 t=true): ∀j,nth (it a j) t=true
 | 0=>h
 | j+1=>by
  have key: ∀m,nth (cH a (it a j) m) t=true:=by
   intro m
   induction m with
   | zero=>exact DP t0 h j
   | succ m ih=>exact xW t0 ih
  exact key _
theorem wm (V:VA a n) {w:List Nat} {s:Int} (hw: ∀k∈w,k<9) (h0:0<=s) (h1:s<n) (h:acn a (iD a s w)=true):nth (live a) s=true:=by
 have hr:0<=iD a s w:=by
  unfold acn at h
  split at h
  ·cases h
  ·omega
 have hl:nth (live a) (iD a s w)=true:=DP hr (by
  unfold acn at h
  rw[if_neg (by omega)] at h;exact h) _
 rcases Hn V w hw h0 h1 hr with ⟨q,-⟩ | q
 ·rw[q] at hl;exact hl
 ·exact AO V h0 h1 q hl
end
section
variable {a:AutT} {n:Nat}
end
end D
namespace D
open Go.RowKit
theorem AP {a:AutT} {n:Nat} (V:VA a n) {c:List Int} {nx:Int->List (Option Int)} {ac:Int->Bool} (hnx: ∀r,good n (live a) r->nx (nth c r)=j0 a c (live a) r) (hac: ∀r,good n (live a) r->ac (nth c r)=nth a.2.1 r):Quot a nx ac (fun s=>nth c s) (good n (live a)) (In1 n):=by
 have hs: ∀(s:Int) (k:Nat),k<9->nth (j0 a c (live a) s) (k:Int)=if 0<=mv a s k/\nth (live a) (mv a s k)=true then some (nth c (mv a s k)) else none:=fun s k hk=>by
  unfold j0;rw[bd (by simpa using hk)];simp
 refine ⟨⟨by have:=V.start;omega,V.start.2⟩,fun s k hi hk=>JG V hi hk,fun s h=>h.1,fun s k h hk hg=>?_,fun s k h hk hg=>?_,fun s h=>hac s h,fun s k hi hk hb hg=>?_,fun s hi hb=>?_⟩
 ·show nth (nx (nth c s)) (k:Int)=_
  rw[hnx s h,hs s k hk,if_pos ⟨hg.1,hg.2.2⟩]
 ·show nth (nx (nth c s)) (k:Int)=_
  rw[hnx s h,hs s k hk,if_neg fun q=>hg ⟨q.1,(V.mv h.1 h.2.1 hk).2,q.2⟩]
 ·rcases Int.lt_or_le s 0 with q | q
  ·have:mvn a s k= -1:=by unfold mvn;rw[if_pos q]
   rw[this] at hg
   have:=hg.1;omega
  ·have e:mvn a s k=mv a s k:=by unfold mvn;rw[if_neg (by omega)]
   rw[e] at hg
   exact hb ⟨q,hi.2,qQ V q hi.2 ⟨k,hk,rfl,hg.1⟩ hg.2.2⟩
 ·rcases Int.lt_or_le s 0 with q | q
  ·unfold acn;rw[if_pos q]
  ·cases h:acn a s with
   | false=>rfl
   | true=>exact absurd ⟨q,hi.2,wm V (w:=[]) (fun k hk=>by cases hk) q hi.2 h⟩ hb
theorem DQ {a r:AutT} {n N:Nat} (V:VA a n) {c:List Int} {nx:Int->List (Option Int)} {ac:Int->Bool} (hnx: ∀r,good n (live a) r->nx (nth c r)=j0 a c (live a) r) (hac: ∀r,good n (live a) r->ac (nth c r)=nth a.2.1 r) (hs:nth (live a) a.1=true) (H:NumA r nx (nth c a.1) ac N) {w:List Nat} (hw: ∀k∈w,k<9):acw r w=acw a w:=
 (AP V hnx hac).acw ⟨V.start.1,V.start.2,hs⟩ H hw
theorem zt {a:AutT} {n:Nat} (V:VA a n) (hs:nth (live a) a.1=false) {w:List Nat} (hw: ∀k∈w,k<9):acw a w=false:=by
 cases h:acw a w with
 | false=>rfl
 | true =>
  have:=wm V hw V.start.1 V.start.2 h
  rw[hs] at this;cases this
end D
namespace D
open Go.RowKit
theorem xX {w:List Nat} (hw: ∀k∈w,k<9):acw nothing w=false:=zt sv (by decide) hw
theorem DR {a r:AutT} {n:Nat} (V:VA a n) (h:LY a n r) {w:List Nat} (hw: ∀k∈w,k<9):acw r w=acw a w:=by
 rcases h with ⟨hs,rfl⟩ | ⟨hs,j,c,nx,ac,N,-,hnx,hac,hE,hl,rfl⟩
 ·rw[zt V hs hw,xX hw]
 ·exact DQ V hnx hac hs ⟨hE,rfl,rfl,rfl,hl⟩ hw
theorem ue {a b:AutT} (op:Int) {test:Bool->Bool->Option Bool} (ht: ∀x y,test x y=some (opB op x y)) (ha:Data.sm a) (hb:Data.sm b): ∃r,eT a b op=some r/\c8 a b test=some r/\Data.sm r.1/\(r.2=true->aE a=some true/\aE b=some true/\VA r.1 r.1.2.1.length/\r.1.2.1.length<=12/\ ∀w:List Nat,(∀k∈w,k<9)->acw r.1 w=opB op (acw a w) (acw b w)):=by
 obtain ⟨r,h1,h2,h3,h4⟩:=DJ op ht ha hb
 refine ⟨r,h1,h2,h3,fun h=>?_⟩
 obtain ⟨e1,e2,e3,e4,N,n,hE,hv,hf⟩:=h4 h
 refine ⟨e1,e2,e3,e4,fun w hw=>?_⟩
 rw[DR hv hf hw,zr (N:=N) ⟨hE,rfl,rfl,rfl,fun x _=>by simp[nxP]⟩ hw]
end D
namespace D
open Go.RowKit
def rj:AutT:=(0,[true],[[0,0,0,0,0,0,0,0,0]])
theorem Lz:nR=some rj:=by kernel_rfl
theorem xY:VA rj 1:=⟨rfl,by decide,rfl,fun r hr=>by obtain rfl:=al hr;rfl,fun r hr t ht=>by
 obtain rfl:=al hr
 have:t=0:=by simpa using ht
 subst this;decide⟩
theorem DS: ∀k,k<9->mvn rj 0 k=0:=by decide
theorem zu:acn rj 0=true:=by decide
theorem zw: ∀w:List Nat,(∀k∈w,k<9)->iD rj 0 w=0
 | [],_=>rfl
 | k::w,h=>by
  show iD rj (mvn rj 0 k) w=0
  rw[DS k (h k (by simp))]
  exact zw w fun j hj=>h j (aX _ hj)
def nxC (a:AutT) (t:Int):List (Option Int):=(List.range 9).map fun k=>some (mvn a t k)
theorem xZ (a:AutT) (t:Int):nxP rj a (0,t)=(nxC a t).map (Option.map fun t=>((0:Int),t)):=by
 unfold nxP nxC
 rw[List.map_map]
 refine List.map_congr_left fun k hk=>?_
 simp only[Function.comp,Option.map_some,DS k (List.mem_range.1 hk)]
theorem uf (a:AutT) (t:Int):nxP a a (t,t)=(nxC a t).map (Option.map fun t=>(t,t)):=by
 unfold nxP nxC
 rw[List.map_map];rfl
theorem DT (a:AutT) (hs:Data.sm a): ∃r,bX a=some r/\bW a=some r/\Data.sm r.1/\(r.2=true->VA r.1 r.1.2.1.length/\r.1.2.1.length<=12/\ ∀w:List Nat,(∀k∈w,k<9)->acw r.1 w= !(acw a w)):=by
 obtain ⟨va,e1,e2,ka⟩:=j4 a hs
 obtain ⟨vb,e3,kb⟩:=DH rj (by decide) (by decide)
 have hvb:vb=true:=kb.2 ⟨by decide,xY⟩
 subst hvb
 unfold bX bW eT c8
 rw[Lz];simp only[ae,kd]
 rw[e3];simp only[ae,if_true]
 rw[e1,e2];simp only[ae]
 cases va with
 | false=>exact ⟨((0,[],[]),false),rfl,rfl,qM,fun h=>by cases h⟩
 | true =>
  obtain ⟨h12,Va⟩:=ka rfl
  obtain ⟨N,hN,es⟩:=DF xY Va (by decide) h12 3
  obtain ⟨N',hN',ei⟩:=DI (test:=fun a0 a1=>cE a0 a1) (tb:=fun x _=> !x) Va Va h12 h12 (fun x y=>rfl)
  have j1: ∀x y:Int,((0:Int),x)=(0,y)->x=y:=fun x y h=>(Prod.ext_iff.1 h).2
  have j2: ∀x y:Int,(x,x)=(y,y)->x=y:=fun x y h=>(Prod.ext_iff.1 h).1
  have H:=kW xY Va (by decide) h12
  have f1:(rj.1,a.1)=(fun t=>((0:Int),t)) a.1:=rfl
  have f2:(a.1,a.1)=(fun t:Int=>(t,t)) a.1:=rfl
  have k1:bfE (nxC a) a.1 N:=(DN (nx':=nxP rj a) j1 (xZ a)).1 hN
  have k2:bfE (nxC a) a.1 N':=(DN (nx':=nxP a a) j2 (uf a)).1 hN'
  obtain rfl:=tS k1 k2
  obtain ⟨r,r1,r2,r3,r4⟩:=sx (acc:=D0 rj a 3) H hN
  have eS:(0,(bfS (nxP a a) (a.1,a.1) N).map (fun x:Int×Int=> !(acn a x.1)),bfR (nxP a a) (a.1,a.1) N)=((0,(bfS (nxP rj a) (rj.1,a.1) N).map (D0 rj a 3),bfR (nxP rj a) (rj.1,a.1) N):AutT):=by
   rw[f1,f2,qN j1 (xZ a),qN j2 (uf a),xV j1 (xZ a),xV j2 (uf a),List.map_map,List.map_map]
   refine congrArg (fun x=>((0:Int),x,bfR (nxC a) a.1 N)) (List.map_congr_left fun t _=>?_)
   show (!(acn a t))=D0 rj a 3 (0,t)
   unfold D0 opB
   rw[zu];simp
  refine ⟨r,?_,?_,r3,fun h=>?_⟩
  ·rw[if_pos rfl,es];simp only[ae]
   exact (congrArg (fun x=>Option.bind x fun r2:AutT×Bool=>some ((r2.1.1,r2.1.2.1,r2.1.2.2),r2.2)) r1).trans rfl
  ·rw[if_pos rfl]
   have ei':=congrArg (fun x=>(Option.bind x fun r4:AutT×Bool=>(hY (r4.1.1,r4.1.2.1,r4.1.2.2)).bind fun r5=>some ((r5.1.1,r5.1.2.1,r5.1.2.2),r5.2)).bind fun r1=>some ((r1.1.1,r1.1.2.1,r1.1.2.2),r1.2)) ei
   refine ei'.trans ?_
   simp only[ae,kd]
   rw[eS,r2];rfl
  ·obtain ⟨q1,q2,n,q3,q4⟩:=r4 h
   refine ⟨q1,q2,fun w hw=>?_⟩
   rw[DR q3 q4 hw,zr (N:=N) ⟨hN,rfl,rfl,rfl,fun x _=>by simp[nxP]⟩ hw]
   have h1:acw rj w=true:=by
    show acn rj (iD rj 0 w)=true
    rw[zw w hw,zu]
   rw[h1]
   unfold opB
   simp
end D
open Go.ChangeShapes Go.WideShapes Go.ChangeAt Go.RowKit
theorem own:ownKnob Tryz.prog.godebug=none:=by kernel_rfl
theorem laidOut:laidOutB Tryz.prog=true:=by kernel_rfl
theorem nr {H:Type} {enc:TypeId×Value->H} {P:Program} (hl:laidOutB P=true) {W W':World} (hb:Below W.heap.size W W') :
  ∀ {ts:List TypeId} {vs:List Value} {ds:List (DataW H)} {ps:List MemPlace},(∀t∈ts,P.readableRec t=true/\t<P.types.size)->
   DataW.TrodAll enc P W 0 (fun _=>true) true ts vs ds ps->(∀x∈ps,x.block<W.heap.size)->DataW.TrodAll enc P W' 0 (fun b=>decide (b<W.heap.size)) true ts vs ds ps
 | [],[],[],ps,_,h,_=>h
 | t::ts,v::vs,d::ds,ps,hr,⟨p,q,h1,h2,h3⟩,hlt=>by
  subst h3
  exact ⟨p,q,Below.trod hl (hr t (by simp)).1 (hr t (by simp)).2 h1 hb fun x hx=>hlt x (by simp[hx]),nr hl hb (fun t ht=>hr t (by simp[ht])) h2 fun x hx=>hlt x (by simp[hx]),rfl⟩
 | [],_::_,_,_,_,h,_=>h.elim
 | [],[],_::_,_,_,h,_=>h.elim
 | _::_,[],_,_,_,h,_=>h.elim
 | _::_,_::_,[],_,_,h,_=>h.elim
theorem Gk {H:Type} {enc:TypeId×Value->H} {f:Func} {s:ChangeSpec} {W W':World} {args:Array Value} {ds:List (DataW H)} {before:List MemPlace} (tb:TypeId)
  (hb:Tryz.prog.underlying tb=some .bool) (hr:f.resultTypes= #[tb]) (hp:(f.params.toList.all fun t=>Tryz.prog.readableRec t&&decide (t<Tryz.prog.types.size))=true) (hv:s.vars= [])
  (hW:DataW.Whole enc Tryz.prog f.params.toList s.vars false W args.toList ds [] before) (hres:(s.fn H (ds++ [])).results= [.lit (.bool true)]) (hargs:(s.fn H (ds++ [])).args=ds) (hvars:(s.fn H (ds++ [])).vars= [])
  (hbel:Below W.heap.size W W'):s.post enc Tryz.prog f false true false false W args (.bool true) W':=by
 obtain ⟨p,q,h1,h2,h3,h4,h5⟩:=hW
 have hW':DataW.Whole enc Tryz.prog f.params.toList s.vars false W args.toList ds [] before:=⟨p,q,h1,h2,h3,h4,h5⟩
 have hq:q= []:=by rw[hv] at h2;exact h2
 subst hq
 simp only[List.append_nil] at h3
 subst h3
 refine ⟨ds,[],before,[],before,[],hW',?_,?_,?_,hbel.frame _,fun h=>by cases h⟩
 ·rw[hres,hr]
  exact trodAll_mk1 (shut_bool hb true)
 ·rw[hargs]
  exact nr laidOut hbel (fun t ht=>by have:=List.all_eq_true.1 hp t ht;simpa using this) h1 fun x hx=>by simpa using hW'.lt x hx
 ·rw[hvars,hv];rfl
namespace D
open Go.RowKit
theorem x8 (x y:AutT) (hx:Data.sm x):b0 x y=some (decide (x=y)):=by
 obtain ⟨-,⟨ha,-⟩,hn,hr⟩:=hx
 unfold b0
 by_cases c1:x.1=y.1
 case neg=>rw[if_pos (by simpa using c1)];simp[Prod.ext_iff,c1]
 rw[if_neg (by simpa using c1)]
 by_cases c2:x.2.1.length=y.2.1.length
 case neg=>rw[if_pos (by simp;omega)];simp[Prod.ext_iff];exact fun _ e=>absurd (by rw[e]) c2
 rw[if_neg (by simp;omega)]
 by_cases c3:x.2.2.length=y.2.2.length
 case neg=>rw[if_pos (by simp;omega)];simp[Prod.ext_iff];exact fun _ _ e=>absurd (by rw[e]) c3
 rw[if_neg (by simp;omega)]
 rw[eqB (f:=cM x y) x.2.1 y.2.1 (by omega) c2 (fun i h h'=>by
  simp only[cM,vV h,if_true,iS h,iS h',ae,aM (show i<9223372036854775807 by omega)]
  by_cases c:x.2.1[i] =y.2.1[i] <;> simp[c]) (by simp only[cM,xH];rfl)]
 by_cases c4:x.2.1=y.2.1
 case neg=>rw[if_neg c4];simp[Prod.ext_iff,c4]
 rw[if_pos c4]
 rw[eqB (f:=cN x y) x.2.2 y.2.2 (by omega) c3 (fun i h h'=>by
  obtain ⟨r,e,hr'⟩:=xP x.2.2[i] y.2.2[i] ((hr _ (List.getElem_mem h)).1)
  simp only[cN,vV h,if_true,iS h,iS h',ae,aM (show i<9223372036854775807 by omega),e]
  by_cases c:x.2.2[i] =y.2.2[i]
  ·rw[if_neg (by simpa using hr'.2 c),if_pos c]
  ·rw[if_pos (by simpa using fun e=>c (hr'.1 e)),if_neg c]) (by simp only[cN,xH];rfl)]
 by_cases c5:x.2.2=y.2.2
 ·rw[if_pos c5];simp[Prod.ext_iff,c1,c4,c5]
 ·rw[if_neg c5];simp[Prod.ext_iff,c5]
end D
namespace D
open Go.RowKit
theorem MB {a:AutT} (hs:Data.sm a): ∃r,gb a=some r/\Data.sm r:=by
 obtain ⟨b,e1,-,k⟩:=j4 a hs
 unfold gb
 simp only[kd]
 rw[e1];simp only[ae]
 cases b with
 | false=>exact ⟨_,rfl,qM⟩
 | true =>
  obtain ⟨h12,V⟩:=k rfl
  obtain ⟨r,es,-,hr⟩:=Gi V (by omega)
  rw[if_pos rfl,es]
  exact ⟨r,rfl,hr⟩
theorem MC {xs:List Int} (hl:xs.length<=1048576): ∃r:AutT×AutT,bE xs=some r/\Data.sm r.1/\Data.sm r.2:=by
 unfold bE nQ
 obtain ⟨r0,e0,k0⟩:=K4 hl
 rw[e0];simp only[ae]
 obtain ⟨r1,e1,h1,k1⟩:=JA (h:=r0.2) hl k0
 rw[e1];simp only[ae]
 obtain ⟨r2,e2,k2⟩:=qD (h:=r1.2.2) hl k1 (n:=5) (by omega)
 rw[e2];simp only[ae]
 by_cases c:r2.1=true
 ·rw[if_pos c]
  obtain ⟨m,e3,h3⟩:=MB h1
  have e3:gb (r1.1.1,r1.1.2.1,r1.1.2.2)=some m:=e3
  rw[e3]
  exact ⟨_,rfl,h1,h3⟩
 ·rw[if_neg c]
  obtain ⟨m,e3,h3,-⟩:=JA (h:=r2.2.2) hl k2
  rw[e3]
  exact ⟨_,rfl,h1,h3⟩
theorem eq_self {a:AutT} (hs:Data.sm a):b0 a a=some true:=by
 have h:=x8 a a hs
 rw[h];simp
theorem wo {r:AutT×List Int} (hw:r.2.length<=1000000): ∃b i,aO (dg r) bt (true,0)=some (.brk (b,i))/\(b=true->cA r.2=true):=by
 obtain ⟨s,e,h1,h2⟩:=di (f:=dg r) (fun i s=>s.2=(i:Int)/\(s.1=true->cA (r.2.take i)=true)) r.2.length (fun i s hi hI=>by
  obtain ⟨h1,h2⟩:=hI
  unfold dg
  have hw1:IntKind.i64.wrap ((i:Int)+1)=((i+1:Nat):Int):=by rw[dh (by omega) (by omega)];omega
  rw[h1,nZ,if_pos (by simpa using hi)]
  by_cases c:s.1=true
  ·rw[if_pos c,aF (by omega) (by omega)];simp only[ae]
   by_cases c2:nth r.2 (i:Int)≥0
   ·rw[if_pos (by simpa using c2)]
    refine ⟨_,rfl,hw1,fun h=>?_⟩
    have h:decide (nth r.2 (i:Int)<9)=true:=h
    have h:=of_decide_eq_true h
    exact kX (h2 c) hi ⟨c2,by omega⟩
   ·rw[if_neg (by simpa using c2)]
    exact ⟨_,rfl,hw1,fun h=>by cases h⟩
  ·rw[if_neg c]
   exact ⟨_,rfl,hw1,fun h=>by cases h⟩) (fun s hI=>by
  unfold dg
  rw[hI.1,nZ,if_neg (by simp)]
  obtain ⟨x,y⟩:=s
  obtain rfl:y=_:=hI.1
  rfl) (s:=(true,0)) ⟨rfl,fun _=>rfl⟩ (lD (by omega))
 obtain ⟨b,i⟩:=s
 rw[List.take_of_length_le (aA _)] at h2
 exact ⟨b,i,e,h2⟩
theorem wq (xs:List Int) (hx:Data.lim xs):gE xs=some true:=by
 unfold gE xw
 simp only[ae]
 by_cases c:(xs.length:Int)>1048576
 ·rw[if_pos (by simpa using c)]
 rw[if_neg (by simpa using c)]
 have hl:xs.length<=1048576:=by omega
 obtain ⟨⟨a,b⟩,e1,sa,sb⟩:=MC hl
 obtain ⟨⟨q,w⟩,e2,-,hw⟩:=DB hl
 have hw:w.length<=5:=hw
 rw[e1,e2];simp only[ae,kd]
 obtain ⟨r3,s3,i3,m3,k3⟩:=ue 1 (test:=fun a0 a1=>bz a0 a1) (fun x y=>by
  show bz x y=_
  unfold bz opB
  cases x <;> simp) sa sb
 obtain ⟨r4,s4,i4,m4,k4⟩:=ue 2 (test:=fun a0 a1=>cg a0 a1) (fun x y=>by
  show cg x y=_
  unfold cg opB
  cases x <;> simp) sa sb
 obtain ⟨r5,s5,i5,m5,k5⟩:=ue 3 (test:=fun a0 a1=>bC a0 a1) (fun x y=>by
  show bC x y=_
  unfold bC opB
  cases x <;> simp) sa sb
 obtain ⟨r6,s6,i6,m6,k6⟩:=DT a sa
 have e3:cy a b=some r3:=by
  unfold cy;simp only[kd];rw[i3];rfl
 have e4:eg a b=some r4:=by
  unfold eg;simp only[kd];rw[i4];rfl
 have e5:cL a b=some r5:=by
  unfold cL;simp only[kd];rw[i5];rfl
 have e7:cz a b=some r3:=by
  unfold cz;simp only[kd];rw[s3];rfl
 rw[e3,e4,e5,i6,e7,s6];simp only[ae,kd]
 have nf: ∀p:Bool,(p !=p)=false:=fun p=>by cases p <;> rfl
 rw[nf,nf,eq_self m3,eq_self m6];simp only[Bool.false_eq_true,if_false,if_true,ae]
 obtain ⟨va,v1,v2,ka⟩:=lG a sa
 obtain ⟨vb,v3,v4,kb⟩:=lG b sb
 have hno:(va&&vb)=false->r3.2=false/\r4.2=false/\r5.2=false:=fun h=>by
  have key: ∀r:AutT×Bool,(r.2=true->aE a=some true/\aE b=some true/\VA r.1 r.1.2.1.length/\r.1.2.1.length<=12/\True)->r.2=false:=fun r k=>by
   cases hr:r.2 with
   | false=>rfl
   | true =>
    obtain ⟨q1,q2,-⟩:=k hr
    rw[v1] at q1;rw[v3] at q2
    rw[aa q1,aa q2] at h;cases h
  exact ⟨key r3 fun h=>⟨(k3 h).1,(k3 h).2.1,(k3 h).2.2.1,(k3 h).2.2.2.1,trivial⟩,key r4 fun h=>⟨(k4 h).1,(k4 h).2.1,(k4 h).2.2.1,(k4 h).2.2.2.1,trivial⟩,key r5 fun h=>⟨(k5 h).1,(k5 h).2.1,(k5 h).2.2.1,(k5 h).2.2.2.1,trivial⟩⟩
 rw[v1];simp only[ae]
 cases va with
 | false =>
  obtain ⟨z1,z2,z3⟩:=hno rfl
  simp[z1,z2,z3]
 | true =>
  rw[v3];simp only[ae,if_true]
  cases vb with
  | false =>
   obtain ⟨z1,z2,z3⟩:=hno rfl
   simp[z1,z2,z3]
  | true =>
   simp only[if_true]
   obtain ⟨h12a,Va⟩:=ka.1 rfl
   obtain ⟨h12b,Vb⟩:=kb.1 rfl
   rw[Hm Va v1 (by omega),Hm Vb v3 (by omega)];simp only[ae]
   obtain ⟨lt,j,el,hlt⟩:=wo (r:=(q,w)) (by show w.length<=_;omega)
   rw[aJ el]
   simp only
   have iv: ∀ {r:AutT},Data.sm r->VA r r.2.1.length->r.2.1.length<=12->aj r w=some (pf r w):=fun {r} hs V h12=>by
    obtain ⟨v,u1,u2,k⟩:=lG r hs
    have hv:v=true:=k.2 ⟨h12,V⟩
    subst hv
    exact Ly V u2 (by omega)
   have a3:r3.2=true->aj r3.1 w=some (pf a w&&pf b w):=fun h=>by
    obtain ⟨-,-,V,h12,k⟩:=k3 h
    rw[iv m3 V h12]
    unfold pf
    cases hL:cA w with
    | false=>rfl
    | true=>rw[k _ (j5 hL)];simp[opB]
   have a4:r4.2=true->aj r4.1 w=some (pf a w || pf b w):=fun h=>by
    obtain ⟨-,-,V,h12,k⟩:=k4 h
    rw[iv m4 V h12]
    unfold pf
    cases hL:cA w with
    | false=>rfl
    | true=>rw[k _ (j5 hL)];simp[opB]
   have a5:r5.2=true->aj r5.1 w=some (pf a w && !pf b w):=fun h=>by
    obtain ⟨-,-,V,h12,k⟩:=k5 h
    rw[iv m5 V h12]
    unfold pf
    cases hL:cA w with
    | false=>rfl
    | true=>rw[k _ (j5 hL)];simp[opB]
   have a6:r6.2=true->lt=true->aj r6.1 w=some (!pf a w):=fun h h2=>by
    obtain ⟨V,h12,k⟩:=k6 h
    rw[iv m6 V h12]
    have hL:cA w=true:=hlt h2
    unfold pf
    rw[hL,k _ (j5 hL)];simp
   generalize pf a w=pa at a3 a4 a5 a6⊢
   generalize pf b w=pb at a3 a4 a5 a6⊢
   cases h3:r3.2 <;> cases h4:r4.2 <;> cases h5:r5.2 <;> cases h6:r6.2 <;> cases lt <;> cases pa <;> cases pb <;> simp[h3,h4,h5,h6,a3,a4,a5,a6]
end D
open Go.ChangeShapes Go.WideShapes Go.ChangeAt Go.RowKit
namespace D
theorem op5:Opens Tryz.prog 5 rU8:=FW Tryz.underlying5
theorem Nf:Opens Tryz.prog 22 (au 5 rU8):=xG Tryz.underlying22 (by kernel_rfl) (by decide) op5
theorem MF {W:World} {base:Nat} {z:Value} {H:Type} {enc:TypeId×Value->H} {d:DataW H} {p:List MemPlace} (hv:Value.okWide Tryz.prog W .any base 22 z) (h:DataW.Trod enc Tryz.prog W 0 (fun _=>true) true 22 z d p) :
  ∃(x:List Int) (v0:Value),z=v0/\Data.lim x/\(au 5 rU8).rd (hp W) [v0] x:=by
 obtain ⟨fuel,hf⟩:=h
 obtain ⟨a,l,c,rfl⟩:=okWide_slice Tryz.underlying22 hv
 obtain ⟨x,hx,hl⟩:=Nf.out enc W _ _ _ hf
 exact ⟨x,_,rfl,hl,hx⟩
end D
open D (Data)
theorem ug (W:World) (args:Array Value) (H:Type) (enc:TypeId×Value->H) (base:Nat) (ds gs:List (DataW H)) (before:List MemPlace)
  (hval: ∀(j:Nat) t v,Tryz.f3.params[j]? =some t->args[j]? =some v->Value.okWide Tryz.prog W .any base t v)
  (hW:DataW.Whole enc Tryz.prog Tryz.f3.params.toList Rows.fnBooleanSpec.vars false W args.toList ds gs before) :
  Calls Tryz.prog 3 args W fun e W'=> ∃v,e= .returned v/\Rows.fnBooleanSpec.post enc Tryz.prog Tryz.f3 false true false false W args v W':=by
 have hW':=hW
 obtain ⟨p,q,hA,hV,rfl,hfz,hnd⟩:=hW
 rw[Tryz.params3] at hA hval
 obtain ⟨z0,vs0,d0,ds0,p0,q0,hargs,rfl,rfl,h0,r0⟩:=trodAll_cons hA
 obtain ⟨rfl,rfl,rfl⟩:=trodAll_nil r0
 obtain rfl:args= #[z0]:=by cases args;simp_all
 obtain ⟨rfl,rfl⟩:=trodVars_none hV
 obtain ⟨x0,v0_0,rfl,l0,r0_0⟩:=D.MF (hval 0 _ _ rfl rfl) h0
 have hc:=D.tR x0 true (D.wq x0 l0) (I:=D.hp W) (w0:=W) z0 r0_0 D.Lay.all W [] (D.St.init W)
 refine hc.mono fun e W' ⟨v,he,hv,hs⟩=>?_
 subst he;subst hv
 exact ⟨_,rfl,Gk (f:=Tryz.f3) (s:=Rows.fnBooleanSpec) 4 Tryz.underlying4 rfl (by kernel_rfl) rfl hW' rfl rfl rfl (D.St.below hs)⟩
theorem oL (os:Os) (started:os.Started) (H:Type) (enc:TypeId×Value->H) :
  ReturnsInHanded {} Tryz.checked os 3 .any (Rows.fnBooleanSpec.pre6 enc Tryz.prog Tryz.f3 Rows.fnBooleanRow.domain false) (Rows.fnBooleanSpec.post enc Tryz.prog Tryz.f3 false true false false):=by
 refine returnsInHanded_of_change_sized (C:=Tryz.checked) own started (by kernel_rfl) Tryz.func3
  (ChangeSpec.witness6 (enc:=enc) (C:=Tryz.checked) false ⟨#[],#[.slice none 0 0],[]⟩ 8 (by kernel_rfl) (by kernel_rfl) (by kernel_rfl) (by kernel_rfl)) ?_
 intro W base args ds gs before hval hW hcnd hsz _
 exact ug W args H enc base ds gs before hval hW
set_option maxHeartbeats 4000000 in
theorem oM:joinedFacts Tryz.pinned.checked.prog 3 Tryz.f3 Rows.fnBooleanSpec Rows.fnBooleanRow=true:=by
 unfold joinedFacts
 repeat' (with_reducible refine Bool.and_eq_true_iff.2 ⟨?_,?_⟩)
 all_goals as_aux_lemma=>kernel_rfl
theorem holdsLFnBoolean:Rows.FnBooleanSaid:=
 OpenClaim.holds_of_wide 3 Tryz.f3 rfl rfl rfl rfl rfl rfl rfl ⟨rfl,rfl,rfl,rfl,rfl⟩ rfl rfl rfl rfl rfl (by kernel_rfl) Tryz.func3 oM
  (of_decide_eq_true (by kernel_rfl)) (by unfold Func.isWrapper;first | (rw[if_pos (by decide +kernel)];kernel_rfl) | (rw[if_neg (by decide +kernel)];exact ⟨rfl,rfl⟩))
  (fun os started H enc _=>oL os started H enc)
end Go.Proofs.YtobhhnobjflbnaaGreat
