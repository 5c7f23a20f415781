/- FnDeclarative: for every input the law returns true and changes nothing that was there. Part 7 of 8. -/
import Derived.Test.YtbhafdfiplkacaaGreatQC5
set_option linter.unusedVariables false
set_option linter.unusedSimpArgs false
set_option linter.unnecessarySimpa false
set_option linter.unusedSectionVars false
set_option maxRecDepth 1000000
namespace Go.Proofs.YtbhafdfiplkacaaGreat
namespace D
open Go.RowKit
instance trInh {α:Type} :Inhabited (Tr α):=⟨.nil⟩
def szX:Tr Tok->Int
 | .nil=>0
 | .node t ks=>min (szL t 1 ks) 100000
where szL (t:Tok) (acc:Int):List (Tr Tok)->Int
 | [] =>acc
 | k::ks=>szL t (acc+(if t.1=7 then (szX k+3)*t.2.2.2 else szX k)) ks
theorem eP {x:Tr Tok} (h:WT x):1<=szX x/\szX x<=100000:=by
 refine WT.ind (p:=fun x=>1<=szX x/\szX x<=100000) ?_ ?_ ?_ h
 ·intro t _
  show 1<=min (1:Int) 100000/\min (1:Int) 100000<=100000
  omega
 ·intro t a e _ ih
  show 1<=min ((1:Int)+(if t.1=7 then (szX a+3)*t.2.2.2 else szX a)) 100000/\min ((1:Int)+(if t.1=7 then (szX a+3)*t.2.2.2 else szX a)) 100000<=100000
  split
  ·rename_i k
   have hr:=rG (show 0<=ar t by omega) k
   have:0<=(szX a+3)*t.2.2.2:=Int.mul_nonneg (by omega) (by omega)
   omega
  ·omega
 ·intro t a b e _ _ iha ihb
  have k:t.1≠7:=by
   rcases fJ (show 0<=ar t by omega) with ⟨_,k⟩ | ⟨k,_⟩ | ⟨k,_⟩ <;> omega
  show 1<=min ((1:Int)+(if t.1=7 then (szX a+3)*t.2.2.2 else szX a)+(if t.1=7 then (szX b+3)*t.2.2.2 else szX b)) 100000/\min ((1:Int)+(if t.1=7 then (szX a+3)*t.2.2.2 else szX a)+(if t.1=7 then (szX b+3)*t.2.2.2 else szX b)) 100000<=100000
  rw[if_neg k,if_neg k]
  omega
theorem C7 {a h:Int} (h1:1<=a/\a<=100000) (h2:1<=h/\h<=3):IntKind.i64.wrap ((IntKind.i64.wrap (a+3))*h)=(a+3)*h:=by
 rw[bQ (n:=a+3) (by omega) (by omega)]
 have k1:0<=(a+3)*h:=Int.mul_nonneg (by omega) (by omega)
 have k2:(a+3)*h<=100003*3:=Int.mul_le_mul (by omega) (by omega) (by omega) (by omega)
 exact bQ (by omega) (by omega)
theorem LA {a h:Int} (h1:1<=a/\a<=100000) (h2:1<=h/\h<=3):0<=(a+3)*h/\(a+3)*h<=300009:=by
 have k1:0<=(a+3)*h:=Int.mul_nonneg (by omega) (by omega)
 have k2:(a+3)*h<=100003*3:=Int.mul_le_mul (by omega) (by omega) (by omega) (by omega)
 omega
theorem lH {t:Tok} {ks:List (Tr Tok)} :Tr.get (.node t ks)=some (t,ks):=rfl
theorem uV {f:Tr Tok->Option Int} {t:Tok} {ks:List (Tr Tok)} {i:Nat} {acc:Int} (hi:i<ks.length) (hf:f (nth ks (i:Int))=some (szX (nth ks (i:Int)))) (hw:WT (nth ks (i:Int))) (ht:0<=ar t) (ha:0<=acc/\acc<=1000000) (hik:i<=1000000) :
  br f (.node t ks) (t,ks) (acc,(i:Int))=some (.nxt (acc+(if t.1=7 then (szX (nth ks (i:Int))+3)*t.2.2.2 else szX (nth ks (i:Int))),((i+1:Nat):Int))):=by
 unfold br
 simp only[lH]
 have hr:=eP hw
 rw[if_pos (by simp <;> omega),aF (by omega) (by omega)];simp only[aa]
 by_cases k:t.1=7
 ·have h7:=rG ht k
  have hm:=LA hr h7.2
  rw[if_pos (by simpa using k),if_pos k,hf];simp only[aa]
  rw[C7 hr h7.2,bQ (by omega) (by omega),ak (by omega)]
 ·rw[if_neg (by simpa using k),if_neg k,hf];simp only[aa]
  rw[bQ (by omega) (by omega),ak (by omega)]
theorem wi {α:Type} [Inhabited α] {a:α} {l:List α} :nth (a::l) ((0:Nat):Int)=a:=rfl
theorem LB {α:Type} [Inhabited α] {a b:α} {l:List α} :nth (a::b::l) ((1:Nat):Int)=b:=rfl
theorem SX {x:Tr Tok} (h:WT x): ∀n,(flat x).length<=n->bI n x=some (szX x):=by
 refine WT.ind (p:=fun x=> ∀n,(flat x).length<=n->bI n x=some (szX x)) ?_ ?_ ?_ h
 ·intro t e n hn
  rw[sy] at hn
  match n,hn with
  | n+1,_ =>
   rw[bI];simp only[lH,aa]
   have hL:aC (br (bI n) (.node t []) (t,[])) aP (1,0)=some (.brk (1,0)):=aL (f:=br (bI n) (.node t []) (t,[])) (fun i=>(1,(i:Int))) 0 (fun i hi=>by omega) (by unfold br;simp) (by unfold aP;omega)
   rw[ah hL]
   all_goals rfl
 ·intro t a e wa ih n hn
  rw[rj,af] at hn
  match n,hn with
  | n+1,hn =>
   have hr:=eP wa
   rw[bI];simp only[lH,aa]
   have hL:aC (br (bI n) (.node t [a]) (t,[a])) aP (1,0)=some (.brk (szX.szL t 1 [a],1)):=aL (f:=br (bI n) (.node t [a]) (t,[a])) (fun i=>(szX.szL t 1 ([a].take i),(i:Int))) 1 (fun i hi=>by
    obtain rfl:i=0:=by omega
    exact uV (acc:=1) (i:=0) (by simp) (ih n (by simp at hn;omega)) wa (by omega) (by omega) (by omega)) (by unfold br;simp) (by unfold aP;omega)
   rw[ah hL]
   all_goals rfl
 ·intro t a b e wa wb iha ihb n hn
  rw[lC,af,af] at hn
  match n,hn with
  | n+1,hn =>
   have hra:=eP wa
   have hrb:=eP wb
   have k:t.1≠7:=by
    rcases fJ (show 0<=ar t by omega) with ⟨_,k⟩ | ⟨k,_⟩ | ⟨k,_⟩ <;> omega
   rw[bI];simp only[lH,aa]
   have hL:aC (br (bI n) (.node t [a,b]) (t,[a,b])) aP (1,0)=some (.brk (szX.szL t 1 [a,b],2)):=aL (f:=br (bI n) (.node t [a,b]) (t,[a,b])) (fun i=>(szX.szL t 1 ([a,b].take i),(i:Int))) 2 (fun i hi=>by
    have:i=0\/i=1:=by omega
    rcases this with rfl | rfl
    ·exact uV (acc:=1) (i:=0) (by simp) (iha n (by simp at hn;omega)) wa (by omega) (by omega) (by omega)
    ·exact uV (acc:=1+(if t.1=7 then (szX a+3)*t.2.2.2 else szX a)) (i:=1) (by simp) (ihb n (by simp at hn;omega)) wb (by omega) (by rw[if_neg k];omega) (by omega)) (by unfold br;simp) (by unfold aP;omega)
   rw[ah hL]
   all_goals rfl
theorem ep {A:List Tok} {t:Tok} (h:A.length<=1000000):aR (A++ [t]) (IntKind.i64.wrap (((A++ [t]).length:Int) - 1))=some t/\IntKind.i64.wrap (((A++ [t]).length:Int) - 1)=(A.length:Int):=by
 have e:IntKind.i64.wrap (((A++ [t]).length:Int) - 1)=(A.length:Int):=by
  rw[bQ (by simp only[af,al,az];omega) (by simp only[af,al,az];omega)]
  simp only[af,al,az];omega
 refine ⟨?_,e⟩
 rw[e,aF (by omega) (by simp only[af,al,az];omega),bM (by simp)]
 simp
theorem XH {t:Tok} (h:ar t=2):(if t.1==4 then (some (t.1==4)) else (some (t.1==5)):Option Bool)=some true:=by
 rcases fJ (show 0<=ar t by omega) with ⟨_,k | k⟩ | ⟨e,_⟩ | ⟨e,_⟩
 ·simp[k]
 ·simp[k]
 ·omega
 ·omega
theorem O1 {t:Tok} (h:ar t=1\/ar t=0):(if t.1==4 then (some (t.1==4)) else (some (t.1==5)):Option Bool)=some false:=by
 rcases fJ (show 0<=ar t by omega) with ⟨e,k⟩ | ⟨e,k | k⟩ | ⟨e,k | k | k⟩
 ·omega
 all_goals simp[k]
theorem Vi {t:Tok} (h:ar t=0):(t.1==6)=false/\(t.1==7)=false:=by
 rcases fJ (show 0<=ar t by omega) with ⟨e,k⟩ | ⟨e,k | k⟩ | ⟨e,k | k | k⟩
 ·omega
 ·omega
 ·omega
 all_goals simp[k]
theorem Ig {t:Tok} (h:ar t=1):((t.1==6)=true/\t.1=6)\/((t.1==6)=false/\(t.1==7)=true/\t.1=7):=by
 rcases fJ (show 0<=ar t by omega) with ⟨e,k⟩ | ⟨e,k | k⟩ | ⟨e,k | k | k⟩
 ·omega
 ·left;simp[k]
 ·right;simp[k]
 all_goals omega
theorem oB {a b:Tr Tok} {t:Tok} (wb:WT b) (hl:((flat a++flat b)++ [t]).length<=1000000) :
  (((flat a++flat b)++ [t]).take ((((flat a++flat b).length:Nat):Int)).toNat)=flat a++flat b /\
  eS (flat a++flat b)=some (((flat a).length:Nat):Int) /\
  (((flat a++flat b)++ [t]).take ((((flat a).length:Nat):Int)).toNat)=flat a /\
  (flat a++flat b).drop ((((flat a).length:Nat):Int)).toNat=flat b:=by
 refine ⟨?_,SR wb (by simp only[af,al,az] at hl⊢;omega),?_,?_⟩
 ·rw[Int.toNat_natCast,List.take_left]
 ·rw[Int.toNat_natCast,aj,List.take_left]
 ·rw[Int.toNat_natCast,List.drop_left]
theorem Vj {x:Tr Tok} (h:WT x): ∀n,(flat x).length<=n->(flat x).length<=1000000->dN n (flat x)=some (szX x):=by
 refine WT.ind (p:=fun x=> ∀n,(flat x).length<=n->(flat x).length<=1000000->dN n (flat x)=some (szX x)) ?_ ?_ ?_ h
 ·intro t e n hn hl
  rw[sy] at hn hl⊢
  match n,hn with
  | n+1,_ =>
   have hk:=Vi e
   rw[dN]
   have:=(ep (A:=[]) (t:=t) (by simp)).1
   rw[List.nil_append] at this
   rw[this];simp only[aa]
   rw[O1 (.inr e)];simp only[aa,hk.1,hk.2,Bool.false_eq_true,if_false]
   rfl
 ·intro t a e wa ih n hn hl
  rw[rj] at hn hl⊢
  simp only[af,al,az] at hn hl
  match n,hn with
  | n+1,hn =>
   have hr:=eP wa
   rw[dN]
   obtain ⟨l1,l2⟩:=ep (A:=flat a) (t:=t) (by omega)
   rw[l1];simp only[aa]
   rw[O1 (.inl e)];simp only[aa,Bool.false_eq_true,if_false]
   rw[l2,Int.toNat_natCast,List.take_left,dX (by simp only[af,al,az];omega)];simp only[aa]
   rw[ih n (by omega) (by omega)];simp only[aa]
   rcases Ig e with ⟨k1,k2⟩ | ⟨k1,k2,k3⟩
   ·rw[if_pos k1,bQ (by omega) (by omega)]
    show some (min 100000 (szX a+1))=some (min ((1:Int)+(if t.1=7 then (szX a+3)*t.2.2.2 else szX a)) 100000)
    rw[if_neg (by omega)]
    congr 1;omega
   ·have h7:=rG (show 0<=ar t by omega) k3
    have hm:=LA hr h7.2
    rw[if_neg (by simp[k1]),if_pos k2,C7 hr h7.2,bQ (by omega) (by omega)]
    show some (min 100000 ((szX a+3)*t.2.2.2+1))=some (min ((1:Int)+(if t.1=7 then (szX a+3)*t.2.2.2 else szX a)) 100000)
    rw[if_pos k3]
    congr 1;omega
 ·intro t a b e wa wb iha ihb n hn hl
  rw[lC] at hn hl⊢
  obtain ⟨p1,p2,p3,p4⟩:=oB (a:=a) (t:=t) wb hl
  simp only[af,al,az] at hn hl
  match n,hn with
  | n+1,hn =>
   have hra:=eP wa
   have hrb:=eP wb
   have k:t.1≠7:=by
    rcases fJ (show 0<=ar t by omega) with ⟨_,k⟩ | ⟨k,_⟩ | ⟨k,_⟩ <;> omega
   rw[dN]
   obtain ⟨l1,l2⟩:=ep (A:=flat a++flat b) (t:=t) (by rw[af];omega)
   rw[l1];simp only[aa]
   rw[XH e];simp only[aa,if_true]
   rw[l2,p1,p2,dX (by simp only[af,al,az];omega)];simp only[aa]
   rw[dX (by simp only[af,al,az];omega),p3,p4];simp only[aa]
   rw[iha n (by omega) (by omega),dX (by simp only[af,al,az];omega)];simp only[aa]
   rw[ihb n (by have:=wa.pos;omega) (by omega)];simp only[aa]
   rw[bQ (n:=szX a+szX b) (by omega) (by omega),bQ (by omega) (by omega)]
   show some (min 100000 (szX a+szX b+1))=some (min ((1:Int)+(if t.1=7 then (szX a+3)*t.2.2.2 else szX a)+(if t.1=7 then (szX b+3)*t.2.2.2 else szX b)) 100000)
   rw[if_neg k,if_neg k]
   congr 1;omega
def Ih:Tr Tok:=.node (2,0,0,0) []
def yy (x:Tr Tok):Nat->Int->Tr Tok
 | 0,_=>Ih
 | h+1,low=>if 0<low then .node (4,0,0,0) [x,yy x h (max 0 (low - 1))] else .node (5,0,0,0) [.node (4,0,0,0) [x,yy x h (max 0 (low - 1))],Ih]
mutual
def nw:Tr Tok->Tr Tok
 | .nil=>.nil
 | .node t ks=>if t.1=7 then yy ((ML ks).headD .nil) t.2.2.2.toNat t.2.2.1 else .node t (ML ks)
def ML:List (Tr Tok)->List (Tr Tok)
 | [] =>[]
 | k::ks=>nw k::ML ks
end
theorem ar4:ar (4,0,0,0)=2:=by decide
theorem ar5:ar (5,0,0,0)=2:=by decide
theorem ar2:ar (2,0,0,0)=0:=by decide
theorem LC:WT Ih:=.node ar2 fun k hk=>by cases hk
theorem oC:flat Ih= [(2,0,0,0)]:=sy _
theorem WT.two {t:Tok} {a b:Tr Tok} (h:ar t=2) (ha:WT a) (hb:WT b):WT (.node t [a,b]):=.node h fun k hk=>by
 rcases ay hk with rfl | hk
 ·exact ha
 ·obtain rfl:=au hk
  exact hb
theorem WT.one {t:Tok} {a:Tr Tok} (h:ar t=1) (ha:WT a):WT (.node t [a]):=.node h fun k hk=>by
 obtain rfl:=au hk
 exact ha
theorem EL {x:Tr Tok} (hx:WT x): ∀(h:Nat) (low:Int),WT (yy x h low)
 | 0,_=>LC
 | h+1,low=>by
  rw[yy]
  split
  ·exact .two ar4 hx (EL hx h _)
  ·exact .two ar5 (.two ar4 hx (EL hx h _)) LC
theorem Bm (x:Tr Tok): ∀(h:Nat) (low:Int),(flat (yy x h low)).length<=((flat x).length+3)*h+1
 | 0,_=>by rw[yy,oC];simp
 | h+1,low=>by
  have ih:=Bm x h (max 0 (low - 1))
  rw[yy]
  split
  ·rw[lC];simp only[af,al,az]
   rw[Nat.mul_succ];omega
  ·rw[lC,lC,oC];simp only[af,al,az]
   rw[Nat.mul_succ];omega
theorem T3 {t:Tok} {a:Tr Tok} :nw (.node t [a])=if t.1=7 then yy (nw a) t.2.2.2.toNat t.2.2.1 else .node t [nw a]:=by rw[nw,ML,ML];rfl
theorem exp2 {t:Tok} {a b:Tr Tok} (h:t.1≠7):nw (.node t [a,b])= .node t [nw a,nw b]:=by rw[nw,if_neg h,ML,ML,ML]
theorem T4 {t:Tok} (h:t.1≠7):nw (.node t [])= .node t []:=by rw[nw,if_neg h,ML]
theorem no7 {t:Tok} (h:ar t=2\/ar t=0):t.1≠7:=by
 rcases fJ (show 0<=ar t by omega) with ⟨_,k⟩ | ⟨k,_⟩ | ⟨_,k⟩ <;> omega
theorem LD {x:Tr Tok} (h:WT x):WT (nw x):=by
 refine WT.ind (p:=fun x=>WT (nw x)) ?_ ?_ ?_ h
 ·intro t e
  rw[T4 (no7 (.inr e))]
  exact .node e fun k hk=>by cases hk
 ·intro t a e _ ih
  rw[T3]
  split
  ·exact EL ih _ _
  ·exact .one e ih
 ·intro t a b e _ _ iha ihb
  rw[exp2 (no7 (.inl e))]
  exact .two e iha ihb
theorem Bn {x:Tr Tok} (h:WT x):szX x<100000->((flat (nw x)).length:Int)<=szX x:=by
 refine WT.ind (p:=fun x=>szX x<100000->((flat (nw x)).length:Int)<=szX x) ?_ ?_ ?_ h
 ·intro t e _
  rw[T4 (no7 (.inr e)),sy]
  show (1:Int)<=min 1 100000
  omega
 ·intro t a e wa ih hs
  have hr:=eP wa
  have hs':min ((1:Int)+(if t.1=7 then (szX a+3)*t.2.2.2 else szX a)) 100000<100000:=hs
  show _<=min ((1:Int)+(if t.1=7 then (szX a+3)*t.2.2.2 else szX a)) 100000
  rw[T3]
  by_cases k:t.1=7
  ·rw[if_pos k] at hs'⊢
   rw[if_pos k]
   have h7:=rG (show 0<=ar t by omega) k
   have hge:szX a+3<=(szX a+3)*t.2.2.2:=by
    have:=Int.mul_le_mul_of_nonneg_left (c:=szX a+3) h7.2.1 (by omega)
    omega
   have h1:=ih (by omega)
   have h2:=Bm (nw a) t.2.2.2.toNat t.2.2.1
   have h3:(((flat (nw a)).length+3)*t.2.2.2.toNat:Int)<=(szX a+3)*t.2.2.2:=by
    rw[Int.toNat_of_nonneg (by omega)]
    exact Int.mul_le_mul_of_nonneg_right (by omega) (by omega)
   have h4:((flat (yy (nw a) t.2.2.2.toNat t.2.2.1)).length:Int)<=(((flat (nw a)).length+3)*t.2.2.2.toNat:Int)+1:=by exact_mod_cast h2
   omega
  ·rw[if_neg k] at hs'⊢
   rw[if_neg k,rj]
   have h1:=ih (by omega)
   simp only[af,al,az]
   omega
 ·intro t a b e wa wb iha ihb hs
  have hra:=eP wa
  have hrb:=eP wb
  have k:=no7 (.inl e)
  have hs':min ((1:Int)+(if t.1=7 then (szX a+3)*t.2.2.2 else szX a)+(if t.1=7 then (szX b+3)*t.2.2.2 else szX b)) 100000<100000:=hs
  show _<=min ((1:Int)+(if t.1=7 then (szX a+3)*t.2.2.2 else szX a)+(if t.1=7 then (szX b+3)*t.2.2.2 else szX b)) 100000
  rw[if_neg k,if_neg k] at hs'⊢
  rw[exp2 k,lC]
  have h1:=iha (by omega)
  have h2:=ihb (by omega)
  simp only[af,al,az]
  omega
theorem zQ {x:Tr Tok} : ∀(h n:Nat) (low:Int),h<n->h<=3->0<=low->low<=3->jw n x low (h:Int)=some (yy x h low)
 | 0,n+1,low,_,_,_,_=>by
  rw[jw,if_pos (by rfl)];rfl
 | h+1,n+1,low,h1,h2,h3,h4=>by
  rw[jw,if_neg (by simp;omega),bQ (n:=low - 1) (by omega) (by omega),bQ (n:=((h+1:Nat):Int) - 1) (by omega) (by omega)]
  rw[show ((h+1:Nat):Int) - 1=(h:Int) from by omega,zQ h n (max 0 (low - 1)) (by omega) (by omega) (by omega) (by omega)];simp only[aa]
  rw[yy]
  by_cases c:0<low
  ·rw[if_pos (by simpa using c),if_pos c]
  ·rw[if_neg (by simpa using c),if_neg c];rfl
theorem ya {a b:List Tok} {t:Tok} (h:a.length+b.length<=1000000):dK a b t=some ((a++b)++ [t]):=by
 unfold dK uC
 rw[aJ (by simp only[af,al,az];omega)];simp only[aa,List.nil_append]
 rw[aJ (by omega)];simp only[aa]
 rw[aJ (by simp only[af,al,az];omega)];rfl
theorem LF {x:Tr Tok} : ∀(h n:Nat) (low:Int),h<n->h<=3->0<=low->low<=3->(flat x).length<=100000->jv n (flat x) low (h:Int)=some (flat (yy x h low))
 | 0,n+1,low,_,_,_,_,_=>by
  rw[jv,if_pos (by rfl),yy,oC];rfl
 | h+1,n+1,low,h1,h2,h3,h4,h5=>by
  rw[jv,if_neg (by simp;omega),bQ (n:=low - 1) (by omega) (by omega),bQ (n:=((h+1:Nat):Int) - 1) (by omega) (by omega)]
  rw[show ((h+1:Nat):Int) - 1=(h:Int) from by omega,LF h n (max 0 (low - 1)) (by omega) (by omega) (by omega) (by omega) h5];simp only[aa]
  have hl:=Bm x h (max 0 (low - 1))
  have hl3:((flat x).length+3)*h<=100003*3:=Nat.mul_le_mul (by omega) (by omega)
  rw[ya (by omega),yy];simp only[aa]
  by_cases c:0<low
  ·rw[if_pos (by simpa using c),if_pos c,lC]
  ·rw[if_neg (by simpa using c),if_neg c,lC,lC,oC]
   show (lV 2).bind _=_
   unfold lV;simp only[aa]
   rw[ya (by simp only[af,al,az];omega)];rfl
theorem kY:1000000000000<=dn:=by rw[M0];unfold aP;omega
theorem O2 {x:Tr Tok} (h:WT x): ∀n,(flat x).length<=n->bg n x=some (nw x):=by
 have hF:=kY
 refine WT.ind (p:=fun x=> ∀n,(flat x).length<=n->bg n x=some (nw x)) ?_ ?_ ?_ h
 ·intro t e n hn
  rw[sy] at hn
  have k:=no7 (.inr e)
  match n,hn with
  | n+1,_ =>
   rw[bg];simp only[lH,aa]
   rw[if_neg (by simpa using k),T4 k]
   have hL:aC (ba (bg n) (t,[])) aP (0,t.1,t.2.1,t.2.2.1,t.2.2.2,[])=some (.brk (0,t.1,t.2.1,t.2.2.1,t.2.2.2,[])):=aL (f:=ba (bg n) (t,[])) (fun i=>((i:Int),t.1,t.2.1,t.2.2.1,t.2.2.2,ML (([] :List (Tr Tok)).take i))) 0 (fun i hi=>by omega) (by unfold ba;simp) (by unfold aP;omega)
   rw[ah hL]
   all_goals rfl
 ·intro t a e wa ih n hn
  rw[rj,af] at hn
  match n,hn with
  | n+1,hn =>
   have ia:=ih n (by simp at hn;omega)
   rw[bg,T3];simp only[lH,aa]
   rcases Ig e with ⟨k1,k2⟩ | ⟨k1,k2,k3⟩
   ·rw[if_neg (by simp;omega),if_neg (by omega)]
    have hL:aC (ba (bg n) (t,[a])) aP (0,t.1,t.2.1,t.2.2.1,t.2.2.2,[])=some (.brk (1,t.1,t.2.1,t.2.2.1,t.2.2.2,[nw a])):=aL (f:=ba (bg n) (t,[a])) (fun i=>((i:Int),t.1,t.2.1,t.2.2.1,t.2.2.2,[nw a].take i)) 1 (fun i hi=>by
     obtain rfl:i=0:=by omega
     unfold ba
     simp only
     rw[if_pos (by simp),aF (by omega) (by simp),wi];simp only[aa]
     rw[ia];simp only[aa]
     rw[aJ (by simp)];rfl) (by unfold ba;simp) (by unfold aP;omega)
    rw[ah hL]
    all_goals rfl
   ·have h7:=rG (show 0<=ar t by omega) k3
    rw[if_pos k2,if_pos k3,show aR [a] 0=some a from rfl];simp only[aa]
    rw[ia];simp only[aa]
    have:=zQ (x:=nw a) t.2.2.2.toNat dn t.2.2.1 (by omega) (by omega) (by omega) (by omega)
    rw[Int.toNat_of_nonneg (by omega)] at this
    rw[this];rfl
 ·intro t a b e wa wb iha ihb n hn
  rw[lC,af,af] at hn
  have k:=no7 (.inl e)
  match n,hn with
  | n+1,hn =>
   have ia:=iha n (by simp at hn;omega)
   have ib:=ihb n (by simp at hn;omega)
   rw[bg,exp2 k];simp only[lH,aa]
   rw[if_neg (by simpa using k)]
   have hL:aC (ba (bg n) (t,[a,b])) aP (0,t.1,t.2.1,t.2.2.1,t.2.2.2,[])=some (.brk (2,t.1,t.2.1,t.2.2.1,t.2.2.2,[nw a,nw b])):=aL (f:=ba (bg n) (t,[a,b])) (fun i=>((i:Int),t.1,t.2.1,t.2.2.1,t.2.2.2,[nw a,nw b].take i)) 2 (fun i hi=>by
    have:i=0\/i=1:=by omega
    rcases this with rfl | rfl
    ·unfold ba
     simp only
     rw[if_pos (by simp),aF (by omega) (by simp),wi];simp only[aa]
     rw[ia];simp only[aa]
     rw[aJ (by simp)];rfl
    ·unfold ba
     simp only
     rw[if_pos (by simp),aF (by omega) (by simp),LB];simp only[aa]
     rw[ib];simp only[aa]
     rw[aJ (by simp)];rfl) (by unfold ba;simp) (by unfold aP;omega)
   rw[ah hL]
   all_goals rfl
theorem LG {x:Tr Tok} (h:WT x): ∀n out,(flat x).length<=n->out.length+(flat x).length<=1000000->bf n x out=some (out++flat x):=by
 refine WT.ind (p:=fun x=> ∀n out,(flat x).length<=n->out.length+(flat x).length<=1000000->bf n x out=some (out++flat x)) ?_ ?_ ?_ h
 ·intro t e n out hn hl
  rw[sy] at hn hl⊢
  simp only[al,az] at hl
  match n,hn with
  | n+1,_ =>
   rw[bf];simp only[lH,aa]
   have hL:aC (aY (bf n) (t,[])) aP (0,out)=some (.brk (0,out)):=aL (f:=aY (bf n) (t,[])) (fun i=>((i:Int),out)) 0 (fun i hi=>by omega) (by unfold aY;simp) (by unfold aP;omega)
   rw[ah hL]
   simp only
   rw[aJ (by simp;omega)];rfl
 ·intro t a e wa ih n out hn hl
  rw[rj] at hn hl⊢
  simp only[af,al,az] at hn hl
  match n,hn with
  | n+1,hn =>
   rw[bf];simp only[lH,aa]
   have hL:aC (aY (bf n) (t,[a])) aP (0,out)=some (.brk (1,out++flat a)):=aL (f:=aY (bf n) (t,[a])) (fun i=>((i:Int),if i=0 then out else out++flat a)) 1 (fun i hi=>by
    obtain rfl:i=0:=by omega
    unfold aY
    simp only
    rw[if_pos (by simp),aF (by omega) (by simp),wi];simp only[aa,if_true]
    rw[ih n _ (by omega) (by omega)];rfl) (by unfold aY;simp) (by unfold aP;omega)
   rw[ah hL]
   simp only
   rw[aJ (by simp;omega)];simp
 ·intro t a b e wa wb iha ihb n out hn hl
  rw[lC] at hn hl⊢
  simp only[af,al,az] at hn hl
  match n,hn with
  | n+1,hn =>
   rw[bf];simp only[lH,aa]
   have hL:aC (aY (bf n) (t,[a,b])) aP (0,out)=some (.brk (2,(out++flat a)++flat b)):=aL (f:=aY (bf n) (t,[a,b])) (fun i=>((i:Int),if i=0 then out else if i=1 then out++flat a else (out++flat a)++flat b)) 2 (fun i hi=>by
    have:i=0\/i=1:=by omega
    rcases this with rfl | rfl
    ·unfold aY
     simp only
     rw[if_pos (by simp),aF (by omega) (by simp),wi];simp only[aa,if_true]
     rw[iha n _ (by omega) (by omega)];rfl
    ·unfold aY
     simp only
     rw[if_pos (by simp),aF (by omega) (by simp),LB];simp only[aa,if_true]
     rw[ihb n _ (by omega) (by simp;omega)];rfl) (by unfold aY;simp) (by unfold aP;omega)
   rw[ah hL]
   simp only
   rw[aJ (by simp;omega)];simp
theorem O3 {x:Tr Tok} (h:WT x): ∀n,(flat x).length<=n->(flat x).length<=1000000->szX x<=50000->ct n (flat x)=some (flat (nw x)):=by
 have hF:=kY
 refine WT.ind (p:=fun x=> ∀n,(flat x).length<=n->(flat x).length<=1000000->szX x<=50000->ct n (flat x)=some (flat (nw x))) ?_ ?_ ?_ h
 ·intro t e n hn hl hs
  rw[sy] at hn hl⊢
  match n,hn with
  | n+1,_ =>
   have hk:=Vi e
   rw[ct]
   have:=(ep (A:=[]) (t:=t) (by simp)).1
   rw[List.nil_append] at this
   rw[this];simp only[aa]
   rw[O1 (.inr e)];simp only[aa,hk.1,hk.2,Bool.false_eq_true,if_false]
   rw[T4 (no7 (.inr e)),sy]
 ·intro t a e wa ih n hn hl hs
  have hs':min ((1:Int)+(if t.1=7 then (szX a+3)*t.2.2.2 else szX a)) 100000<=50000:=hs
  rw[rj] at hn hl⊢
  simp only[af,al,az] at hn hl
  match n,hn with
  | n+1,hn =>
   have hr:=eP wa
   have hsa:szX a<=50000:=by
    by_cases k:t.1=7
    ·rw[if_pos k] at hs'
     have h7:=rG (show 0<=ar t by omega) k
     have hge:szX a+3<=(szX a+3)*t.2.2.2:=by
      have:=Int.mul_le_mul_of_nonneg_left (c:=szX a+3) h7.2.1 (by omega)
      omega
     omega
    ·rw[if_neg k] at hs';omega
   have hla:=Bn wa (by omega)
   rw[ct]
   obtain ⟨l1,l2⟩:=ep (A:=flat a) (t:=t) (by omega)
   rw[l1];simp only[aa]
   rw[O1 (.inl e)];simp only[aa,Bool.false_eq_true,if_false]
   rw[l2,Int.toNat_natCast,List.take_left,dX (by simp only[af,al,az];omega)];simp only[aa]
   rw[ih n (by omega) (by omega) hsa,T3];simp only[aa]
   rcases Ig e with ⟨k1,k2⟩ | ⟨k1,k2,k3⟩
   ·rw[if_pos k1,if_neg (by omega),ya (by simp;omega),rj];simp
   ·have h7:=rG (show 0<=ar t by omega) k3
    rw[if_neg (by simp[k1]),if_pos k2,if_pos k3]
    have:=LF (x:=nw a) t.2.2.2.toNat dn t.2.2.1 (by omega) (by omega) (by omega) (by omega) (by omega)
    rw[Int.toNat_of_nonneg (by omega)] at this
    rw[this];rfl
 ·intro t a b e wa wb iha ihb n hn hl hs
  have k:=no7 (.inl e)
  have hs':min ((1:Int)+(if t.1=7 then (szX a+3)*t.2.2.2 else szX a)+(if t.1=7 then (szX b+3)*t.2.2.2 else szX b)) 100000<=50000:=hs
  rw[if_neg k,if_neg k] at hs'
  rw[lC] at hn hl⊢
  obtain ⟨p1,p2,p3,p4⟩:=oB (a:=a) (t:=t) wb hl
  simp only[af,al,az] at hn hl
  match n,hn with
  | n+1,hn =>
   have hra:=eP wa
   have hrb:=eP wb
   have hla:=Bn wa (by omega)
   have hlb:=Bn wb (by omega)
   rw[ct]
   obtain ⟨l1,l2⟩:=ep (A:=flat a++flat b) (t:=t) (by rw[af];omega)
   rw[l1];simp only[aa]
   rw[XH e];simp only[aa,if_true]
   rw[l2,p1,p2,dX (by simp only[af,al,az];omega)];simp only[aa]
   rw[dX (by simp only[af,al,az];omega),p3,p4];simp only[aa]
   rw[iha n (by omega) (by omega) (by omega),dX (by simp only[af,al,az];omega)];simp only[aa]
   rw[ihb n (by have:=wa.pos;omega) (by omega) (by omega)];simp only[aa]
   rw[ya (by omega),exp2 k,lC];rfl
def yc (e:List Tok):List Tok×Bool:=
 if decide (e.length<=24)&&isX e then (if 5000<szX (sA e) then ([],false) else (if 400<(flat (nw (sA e))).length then ([],false) else (flat (nw (sA e)),true))) else ([],false)
theorem yd {e:List Tok} (he:e.length<=1048576):kA e=some (yc e)/\kE e=some (yc e):=by
 have hF:=kY
 unfold kA kE yc
 rw[sB he,xW he];simp only[aa]
 by_cases c:(decide (e.length<=24)&&isX e)=true
 ·rw[if_pos c,if_pos c,if_pos c,wh he];simp only[aa]
  rw[ai] at c
  obtain ⟨x,h1,hw,rfl⟩:=zP c.2
  have h24:(flat x).length<=24:=by simpa using c.1
  have hr:=eP hw
  rw[lY hw,Vj hw dn (by omega) (by omega),SX hw dn (by omega)];simp only[aa]
  by_cases c2:5000<szX x
  ·have c2':decide (szX x>5000)=true:=by simpa using c2
   simp only[gt_iff_lt,c2,decide_true,if_true,and_self]
  ·have c2':decide (szX x>5000)=false:=by simpa using c2
   simp only[gt_iff_lt,c2,decide_false,if_false,Bool.false_eq_true]
   have hl:=Bn hw (by omega)
   rw[O3 hw dn (by omega) (by omega) (by omega),O2 hw dn (by omega)];simp only[aa]
   unfold oX
   rw[LG (LD hw) dn [] (by omega) (by simp;omega)];simp only[aa,List.nil_append]
   by_cases c3:400<(flat (nw x)).length
   ·have c3':decide (((flat (nw x)).length:Int)>400)=true:=decide_eq_true (by omega)
    simp only[c3',c3,decide_true,if_true,and_self]
   ·have c3':decide (((flat (nw x)).length:Int)>400)=false:=decide_eq_false (by omega)
    simp only[c3',c3,decide_false,if_false,Bool.false_eq_true,and_self]
 ·rw[if_neg c,if_neg c,if_neg c];exact ⟨rfl,rfl⟩
theorem SY {e:List Tok} (h:(yc e).2=true): ∃y,WT y/\(yc e).1=flat y/\(flat y).length<=400:=by
 unfold yc at h⊢
 split at h
 ·rename_i c
  rw[if_pos c]
  rw[ai] at c
  obtain ⟨x,h1,hw,rfl⟩:=zP c.2
  rw[lY hw] at h⊢
  split at h
  ·cases h
  ·rename_i c2
   rw[if_neg c2]
   split at h
   ·cases h
   ·rename_i c3
    rw[if_neg c3]
    exact ⟨_,LD hw,rfl,by omega⟩
 ·cases h
end D
namespace D
open Go.RowKit
def behind (a:AutT) (s v k:Int):List Int:=dq (afL a k.toNat (dq (cS a s v) 30)) 30
def nbA (g:GrT) (a:AutT) (x s:Nat) (y:ArT):List Int:=(behind a s (nth g.1 x) y.2.1).map fun t=>y.2.2*(a.2.1.length:Int)+t
def nbV (g:GrT) (a:AutT) (x s:Nat):List Int:=(arcL g.2 x).flatMap (nbA g a x s)
def nbC (g:GrT) (a:AutT) (c:Nat):List Int:=nbV g a (c / a.2.1.length) (c % a.2.1.length)
theorem pD {g:GrT} (G:GOk g) {x:Nat} {y:ArT} (h:y∈arcL g.2 x):(0<=y.2.1/\y.2.1<6)/\0<=y.2.2/\y.2.2<g.1.length:=by
 obtain ⟨e,he,hy⟩:=List.mem_flatMap.1 h
 obtain ⟨h1,h2,h3⟩:=G.edge e he
 unfold GB at hy
 rcases aI hy with hy | hy <;> split at hy
 ·obtain rfl:y=fwd e:=by simpa using hy
  exact ⟨⟨by simp[fwd];omega,by simp[fwd];omega⟩,h2⟩
 ·cases hy
 ·obtain rfl:y=inv e:=by simpa using hy
  exact ⟨⟨by simp[inv];omega,by simp[inv];omega⟩,h1⟩
 ·cases hy
section
variable {g:GrT} {a:AutT} (G:GOk g) (V:VA a a.2.1.length) (hn:a.2.1.length<=12)
include G V hn
theorem tU {s v:Int} {k:Int} (hs:0<=s/\s<a.2.1.length) (hv:0<=v/\v<=2) (hk:0<=k/\k<6):(∀t∈behind a s v k,0<=t/\t<(a.2.1.length:Int))/\(behind a s v k).length<=30/\afL a k.toNat (dq (cS a s v) 30)<2 ^ 30:=by
 have h1:=(ja V hn hs hv).2
 have h2:=Qm V (k:=k.toNat) (by omega) (lS V hn h1)
 exact ⟨lS V hn h2,kW _ _,aG h2 (Nat.pow_le_pow_right (by decide) (by omega))⟩
theorem Qt {x s:Nat} {y:ArT} (hx:x<g.1.length) (hs:s<a.2.1.length) (hy:y∈arcL g.2 x): ∀z∈nbA g a x s y,0<=z/\z<((a.2.1.length*g.1.length:Nat):Int):=by
 intro z hz
 obtain ⟨t,ht,rfl⟩:=List.mem_map.1 hz
 obtain ⟨k1,k2,k3⟩:=pD G hy
 have hv:=G.val _ (bB (xs:=g.1) (i:=(x:Int)) (by omega) (by omega))
 obtain ⟨t0,t1⟩:=(tU G V hn (s:=(s:Int)) ⟨by omega,by omega⟩ hv k1).1 t ht
 obtain ⟨q,hq⟩: ∃q:Nat,y.2.2=(q:Int):=⟨y.2.2.toNat,by omega⟩
 obtain ⟨r,rfl⟩: ∃r:Nat,t=(r:Int):=⟨t.toNat,by omega⟩
 rw[hq] at k3⊢
 have:q*a.2.1.length+r<g.1.length*a.2.1.length:=by
  have:(q+1)*a.2.1.length<=g.1.length*a.2.1.length:=Nat.mul_le_mul_right _ (by omega)
  rw[Nat.add_mul] at this;omega
 rw[Nat.mul_comm a.2.1.length]
 constructor
 ·exact_mod_cast Nat.zero_le _
 ·exact_mod_cast this
theorem Vk {x s:Nat} (hx:x<g.1.length) (hs:s<a.2.1.length): ∀z∈nbV g a x s,0<=z/\z<((a.2.1.length*g.1.length:Nat):Int):=by
 intro z hz
 obtain ⟨y,hy,hz⟩:=List.mem_flatMap.1 hz
 exact Qt G V hn hx hs hy z hz
theorem LH {x s:Nat} {y:ArT} (hx:x<g.1.length) (hs:s<a.2.1.length) (hy:y∈arcL g.2 x):(nbA g a x s y).length<=30:=by
 unfold nbA
 rw[List.length_map]
 exact kW _ _
end
section
variable {g:GrT} {a:AutT} {F:Nat->List Int} {N:Nat}
theorem W0 {x s:Nat} {o1 o2:List (List Int)} {y:ArT} {T:List Int} (hc:x*a.2.1.length+s<N) (hN:N<=60) (hF:(F (x*a.2.1.length+s)).length<=10000) (hT:T.length<=30) (hy: ∀t∈T,0<=y.2.2*(a.2.1.length:Int)+t/\y.2.2*(a.2.1.length:Int)+t<60/\0<=t/\t<=60) :
  aC (cV a ((x:Int),o1) ((s:Int),o2) y T) aP (0,rm N F)=some (.brk ((T.length:Int),rm N fun z=>if z=x*a.2.1.length+s then F z++T.map fun t=>y.2.2*(a.2.1.length:Int)+t else F z)):=by
 have ec:IntKind.i64.wrap (IntKind.i64.wrap ((x:Int)*(a.2.1.length:Int))+(s:Int))=((x*a.2.1.length+s:Nat):Int):=by
  have:((x:Int)*(a.2.1.length:Int))=((x*a.2.1.length:Nat):Int):=by simp
  rw[this,tJ (by omega),bQ (by omega) (by omega)];rfl
 have:=aL (f:=cV a ((x:Int),o1) ((s:Int),o2) y T) (fun j=>((j:Int),rm N fun z=>if z=x*a.2.1.length+s then F z++(T.take j).map fun t=>y.2.2*(a.2.1.length:Int)+t else F z)) T.length (fun j hj=>by
  unfold cV
  simp only
  obtain ⟨y0,y1,t0,t1⟩:=hy _ (bB (xs:=T) (i:=(j:Int)) (by omega) (by omega))
  rw[if_pos (by simp;omega),aF (by omega) (by omega)];simp only[aa,ec,sw hc,if_true]
  have ev:IntKind.i64.wrap (IntKind.i64.wrap (y.2.2*(a.2.1.length:Int))+nth T (j:Int))=y.2.2*(a.2.1.length:Int)+nth T (j:Int):=by
   rw[bQ (n:=y.2.2*(a.2.1.length:Int)) (by omega) (by omega),bQ (by omega) (by omega)]
  rw[ev,aJ (by simp;omega)];simp only[aa,Int.toNat_natCast,Lr]
  rw[jb (by rw[rF];omega),jb trivial,ak (by omega)];simp only[aa]
  congr 3
  refine lT fun z hz=>?_
  by_cases e:z=x*a.2.1.length+s
  ·subst e
   rw[if_pos rfl,if_pos rfl,sx hj,aK,aj];rfl
  ·simp only[if_neg e]) (by unfold cV;simp) (gD (by omega))
 rw[List.take_length] at this
 rw[<-this]
 congr 2
 refine lT fun z hz=>?_
 split <;> simp
end
section
variable {g:GrT} {a:AutT} (G:GOk g) (V:VA a a.2.1.length) (hn:a.2.1.length<=12)
include G V hn
theorem nN:a.2.1.length*g.1.length<=60:=by
 have:=Nat.mul_le_mul hn G.n5;omega
theorem cN {x s:Nat} (hx:x<g.1.length) (hs:s<a.2.1.length):x*a.2.1.length+s<a.2.1.length*g.1.length:=by
 have:(x+1)*a.2.1.length<=g.1.length*a.2.1.length:=Nat.mul_le_mul_right _ (by omega)
 rw[Nat.add_mul,Nat.mul_comm g.1.length] at this;omega
theorem W1 {F:Nat->List Int} {x s:Nat} {o1 o2:List (List Int)} (hx:x<g.1.length) (hs:s<a.2.1.length) (hF:F (x*a.2.1.length+s)= []) :
  aC (dS g a ((x:Int),o1) (arcL g.2 x) ((s:Int),o2)) aP (0,rm (a.2.1.length*g.1.length) F)=some (.brk (((arcL g.2 x).length:Int),rm (a.2.1.length*g.1.length) fun z=>if z=x*a.2.1.length+s then nbV g a x s else F z)):=by
 have hl:=nt g.2 x
 have hm:=G.m
 have:=aL (f:=dS g a ((x:Int),o1) (arcL g.2 x) ((s:Int),o2)) (fun j=>((j:Int),rm (a.2.1.length*g.1.length) fun z=>if z=x*a.2.1.length+s then ((arcL g.2 x).take j).flatMap (nbA g a x s) else F z)) (arcL g.2 x).length (fun j hj=>by
  unfold dS
  simp only
  have hy:=bB (xs:=arcL g.2 x) (i:=(j:Int)) (by omega) (by omega)
  obtain ⟨k1,k2,k3⟩:=pD G hy
  have hv:=G.val _ (bB (xs:=g.1) (i:=(x:Int)) (by omega) (by omega))
  obtain ⟨q1,q2,q3⟩:=tU G V hn (s:=(s:Int)) (v:=nth g.1 (x:Int)) (k:=(nth (arcL g.2 x) (j:Int)).2.1) ⟨by omega,by omega⟩ hv k1
  rw[if_pos (by simp;omega),aF (by omega) (by omega)];simp only[aa]
  rw[jb (by omega),aF (xs:=g.1) (by omega) (by omega)];simp only[aa]
  obtain ⟨k,hk⟩: ∃k:Nat,(nth (arcL g.2 x) (j:Int)).2.1=(k:Int):=⟨_,(Int.toNat_of_nonneg k1.1).symm⟩
  have ea:=Vf V hn (s:=(s:Int)) (v:=nth g.1 (x:Int)) (k:=k) ⟨by omega,by omega⟩ hv (by omega)
  have ea:p9 (a.1,a.2.1,a.2.2) (pL 1 (s:Int)) (nth g.1 (x:Int)) (k:Int)=_:=ea
  rw[hk,ea];simp only[aa]
  have ek:k=(nth (arcL g.2 x) (j:Int)).2.1.toNat:=by rw[hk];rfl
  rw[ek,qq q3];simp only[aa]
  have hb:(((arcL g.2 x).take j).flatMap (nbA g a x s)).length<=30*((arcL g.2 x).take j).length:=mJ fun y hy=>LH G V hn hx hs (List.mem_of_mem_take hy)
  have ht:((arcL g.2 x).take j).length<=24:=by rw[aD];omega
  have h3:=W0 (F:=fun z=>if z=x*a.2.1.length+s then ((arcL g.2 x).take j).flatMap (nbA g a x s) else F z) (o1:=o1) (o2:=o2) (y:=nth (arcL g.2 x) (j:Int)) (T:=behind a (s:Int) (nth g.1 (x:Int)) (nth (arcL g.2 x) (j:Int)).2.1) (cN G V hn hx hs) (nN G V hn) (by simp only[if_true];omega) q2 (fun t ht=>by
   have h1:=Qt G V hn hx hs hy _ (List.mem_map.2 ⟨t,ht,rfl⟩)
   have h2:=q1 t ht
   have:=nN G V hn
   omega)
  unfold behind at h3
  have h3:aC (cV a ((x:Int),o1) ((s:Int),o2) (nth (arcL g.2 x) (j:Int)) (dq (afL a (nth (arcL g.2 x) (j:Int)).2.1.toNat (dq (cS a (s:Int) (nth g.1 (x:Int))) 30)) 30)) aP (0,rm (a.2.1.length*g.1.length) fun z=>if z=x*a.2.1.length+s then ((arcL g.2 x).take j).flatMap (nbA g a x s) else F z)=_:=h3
  rw[ah h3,ak (by omega)]
  congr 3
  refine lT fun z hz=>?_
  by_cases e:z=x*a.2.1.length+s
  ·subst e
   rw[if_pos rfl,if_pos rfl,sx hj,List.flatMap_append]
   simp[nbA,behind]
  ·simp only[if_neg e]) (by unfold dS;simp) (gD (by omega))
 rw[List.take_length] at this
 rw[show nbV g a x s=(arcL g.2 x).flatMap (nbA g a x s) from rfl,<-this]
 congr 2
 refine lT fun z hz=>?_
 split
 ·rename_i e;subst e;rw[hF];simp
 ·rfl
theorem Qu {x s:Nat} (hs:s<a.2.1.length):nbC g a (x*a.2.1.length+s)=nbV g a x s:=by
 unfold nbC
 rw[Nat.mul_comm,Nat.mul_add_div (by omega),Nat.mul_add_mod,Nat.div_eq_of_lt hs,Nat.mod_eq_of_lt hs,Nat.add_zero]
theorem W2 {x:Nat} {o1:List (List Int)} (hx:x<g.1.length) :
  aC (dU g a ((x:Int),o1) (arcL g.2 x)) aP (0,rm (a.2.1.length*g.1.length) fun z=>if z<x*a.2.1.length then nbC g a z else [])=some (.brk ((a.2.1.length:Int),rm (a.2.1.length*g.1.length) fun z=>if z<(x+1)*a.2.1.length then nbC g a z else [])):=by
 have:=aL (f:=dU g a ((x:Int),o1) (arcL g.2 x)) (fun j=>((j:Int),rm (a.2.1.length*g.1.length) fun z=>if z<x*a.2.1.length+j then nbC g a z else [])) a.2.1.length (fun j hj=>by
  unfold dU
  simp only
  rw[if_pos (by simp;omega)]
  have h2:=W1 G V hn (F:=fun z=>if z<x*a.2.1.length+j then nbC g a z else []) (o1:=o1) (o2:=rm (a.2.1.length*g.1.length) fun z=>if z<x*a.2.1.length+j then nbC g a z else []) hx hj (by simp)
  rw[ah h2,ak (by omega)]
  congr 3
  refine lT fun z hz=>?_
  by_cases e:z=x*a.2.1.length+j
  ·subst e
   rw[if_pos rfl,if_pos (by omega),Qu G V hn hj]
  ·rw[if_neg e]
   by_cases e2:z<x*a.2.1.length+j
   ·rw[if_pos e2,if_pos (by omega)]
   ·rw[if_neg e2,if_neg (by omega)]) (by unfold dU;simp) (gD (by omega))
 rw[Nat.add_mul,Nat.one_mul]
 exact this
theorem SZ:eD g a=some (rm (a.2.1.length*g.1.length) (nbC g a)):=by
 have hN:=nN G V hn
 unfold eD
 have ew:IntKind.i64.wrap ((a.2.1.length:Int)*(g.1.length:Int))=((a.2.1.length*g.1.length:Nat):Int):=by
  rw[show ((a.2.1.length:Int)*(g.1.length:Int))=((a.2.1.length*g.1.length:Nat):Int) from by simp,tJ (by omega)]
 have ea:=Qo G
 have ea:qP (g.1,g.2)=_:=ea
 rw[ew,Qn (by omega),ea];simp only[aa]
 have:=aL (f:=fR g a (rm g.1.length (arcL g.2))) (fun j=>((j:Int),rm (a.2.1.length*g.1.length) fun z=>if z<j*a.2.1.length then nbC g a z else [])) g.1.length (fun j hj=>by
  unfold fR
  simp only
  rw[if_pos (by rw[rF];simp;omega),sw hj];simp only[aa]
  rw[ah (W2 G V hn hj),ak (by have:=G.n5;omega)]) (by unfold fR;rw[rF];simp) (gD (by have:=G.n5;omega))
 have e0:(rm (a.2.1.length*g.1.length) fun _=>([] :List Int))=rm (a.2.1.length*g.1.length) fun z=>if z<0*a.2.1.length then nbC g a z else []:=lT fun z hz=>by rw[if_neg (by omega)]
 rw[e0,show (0:Int)=((0:Nat):Int) from rfl,ah this]
 congr 1
 refine lT fun z hz=>?_
 rw[if_pos (by rw[Nat.mul_comm g.1.length];exact hz)]
end
end D
namespace D
open Go.RowKit
def XI {R S T:Type} (φ:S->T):Out R S->Out R T
 | .ret r=>.ret r
 | .nxt s=>.nxt (φ s)
 | .brk s=>.brk (φ s)
theorem C8 {R S T:Type} {f:S->Option (Out R S)} {f':T->Option (Out R T)} (φ:S->T) (Inv:S->Prop)
  (h: ∀s,Inv s->f' (φ s)=(f s).map (XI φ)) (hi: ∀s s',Inv s->f s=some (.nxt s')->Inv s'): ∀n s,Inv s->aC f' n (φ s)=(aC f n s).map (XI φ)
 | 0,_,_=>rfl
 | n+1,s,hs=>by
  have e:=h s hs
  unfold aC
  rw[e]
  cases hf:f s with
  | none=>rfl
  | some o =>
   cases o with
   | ret r=>rfl
   | brk s'=>rfl
   | nxt s'=>exact C8 φ Inv h hi n s' (hi s s' hs hf)
section
variable {a:AutT} {n:Nat} (V:VA a n) (hn:n<=12)
include V hn
theorem C9 {s v:Int} (hs:0<=s/\s<n) (hv:0<=v/\v<=2):gi a s v=some (cS a s v:Int):=by
 have e:=(ja V hn hs hv).1
 have k:=C8 (f:=bJ a v) (f':=ke a v) (fun st=>(st.2,st.1)) (fun st=> -1<=st.2/\st.2<n) (by
  rintro ⟨m,s⟩ ⟨h0,h1⟩
  unfold ke bJ
  simp only at h0 h1⊢
  by_cases c:0<=s
  ·simp only[decide_eq_true (show s≥0 from c),if_true,jb c,aa]
   have ew:IntKind.i64.wrap (6+v)=(((6+v).toNat:Nat):Int):=by rw[bQ (by omega) (by omega)];omega
   have e2:=xS V (s:=s) (k:=(6+v).toNat) c h1 (by omega)
   have e2:bc (a.1,a.2.1,a.2.2) s (((6+v).toNat:Nat):Int)=_:=e2
   rw[ew,e2,V.get c h1];simp only[aa]
   rw[V.get2 c h1 (by omega)];simp only[aa]
   split <;> rfl
  ·simp only[decide_eq_false (show¬s≥0 from c),Bool.false_eq_true,if_false];rfl) (by
  rintro ⟨m,s⟩ ⟨m',s'⟩ ⟨h0,h1⟩ hf
  unfold bJ at hf
  simp only at h0 h1 hf⊢
  by_cases c:0<=s
  ·simp only[decide_eq_true (show s≥0 from c),if_true,jb c,aa] at hf
   have ew:IntKind.i64.wrap (6+v)=(((6+v).toNat:Nat):Int):=by rw[bQ (by omega) (by omega)];omega
   have e2:=xS V (s:=s) (k:=(6+v).toNat) c h1 (by omega)
   have e2:bc (a.1,a.2.1,a.2.2) s (((6+v).toNat:Nat):Int)=_:=e2
   rw[ew,e2] at hf;simp only[aa] at hf
   split at hf
   ·cases hf
    exact V.mv c h1 (by omega)
   ·cases hf
  ·simp only[decide_eq_false (show¬s≥0 from c),Bool.false_eq_true,if_false] at hf;cases hf) aP (0,s) ⟨by simp only;omega,hs.2⟩
 unfold dR at e
 unfold gi
 simp only at k
 rw[k]
 cases hl:aC (bJ a v) aP (0,s) with
 | none=>rw[hl] at e;cases e
 | some o =>
  rw[hl] at e
  cases o with
  | ret r=>exact e
  | brk s'=>exact e
  | nxt s'=>cases e
end
def yz (y:ArT):Int×Bool:=y.1
theorem Vl {g:GrT} (G:GOk g) {x:Nat} :qQ g x=some ((arcL g.2 x).map yz):=by
 unfold qQ
 have:=aL (f:=jK g x) (fun i=>((arcL (g.2.take i) x).map yz,(i:Int))) g.2.length (fun i hi=>by
  unfold jK
  simp only
  have hm:=G.m
  have l1:=nt (g.2.take i) x
  have l3:(g.2.take i).length<=12:=by rw[aD];omega
  rw[if_pos (by simp;omega),aF (by omega) (by omega)];simp only[aa]
  rw[sx hi,ak (by omega)]
  generalize nth g.2 (i:Int)=e
  have ea:arcL (g.2.take i++ [e]) x=arcL (g.2.take i) x++GB e x:=by simp[arcL]
  rw[ea,aK]
  generalize hL:(arcL (g.2.take i) x).map yz=L
  have hl:L.length<=24:=by rw[<-hL,List.length_map];omega
  unfold GB
  by_cases c1:e.2.1=(x:Int)
  ·rw[if_pos (by simpa using c1),if_pos c1,aJ (by simp;omega)];simp only[aa]
   by_cases c2:e.2.2.1=(x:Int)
   ·rw[if_pos (by simpa using c2),if_pos c2,aJ (by simp;omega)];simp[yz,fwd,inv]
   ·rw[if_neg (by simpa using c2),if_neg c2];simp[yz,fwd,inv]
  ·rw[if_neg (by simpa using c1),if_neg c1];simp only[aa]
   by_cases c2:e.2.2.1=(x:Int)
   ·rw[if_pos (by simpa using c2),if_pos c2,aJ (by simp;omega)];simp[yz,fwd,inv]
   ·rw[if_neg (by simpa using c2),if_neg c2];simp[yz,fwd,inv]) (by unfold jK;simp) (gD (by have:=G.m;omega))
 have this:aC (jK g x) aP (([] :List (Int×Bool)),0)=_:=this
 rw[this,List.take_length];rfl
theorem GH {g:GrT} (G:GOk g) {j:Nat} (hj:j<g.2.length):jL g (nth g.2 (j:Int)).1=some (j:Int):=by
 unfold jL
 have hm:=G.m
 obtain ⟨o,e,hq⟩:=b9 (f:=lj g (nth g.2 (j:Int)).1) (fun i s=>s=(i:Int)/\i<=j) (fun o=>o= .ret (j:Int)) 12 (s:=0) (by
  rintro i s hi ⟨rfl,hij⟩
  unfold lj
  rw[if_pos (by simp;omega),aF (by omega) (by omega)];simp only[aa]
  by_cases c:i=j
  ·subst c
   exact .inr ⟨_,by rw[if_pos (by simp)],(fun s' e=>by cases e),rfl⟩
  ·have h1:=G.lt (i:=i) (j:=j) (by omega) hj
   exact .inl ⟨by omega,_,by rw[if_neg (by simp;omega),ak (by omega)],rfl,by omega⟩) ⟨rfl,by omega⟩ (by unfold aP;omega)
 subst hq
 rw[e];rfl
theorem O4 {g:GrT} (G:GOk g) {x:Nat} {y:ArT} (h:y∈arcL g.2 x): ∃(j:Int) (e:EdT),jL g y.1.1=some j/\aR g.2 j=some e/\iu e y.1.2=some y.2.1/\oc e y.1.2=some y.2.2:=by
 obtain ⟨e,he,hy⟩:=List.mem_flatMap.1 h
 obtain ⟨j,hj,rfl⟩:=xO he
 obtain ⟨h1,h2,h3⟩:=G.edge _ he
 refine ⟨j,nth g.2 (j:Int),?_,aF (by omega) (by omega),?_,?_⟩
 all_goals
  unfold GB at hy
  rcases aI hy with hy | hy <;> split at hy
  ·obtain rfl:=au hy
   simp only[fwd]
   first | exact GH G hj | (unfold iu;rw[bQ (n:=2*_) (by omega) (by omega)];rfl) | (unfold oc;rfl)
  ·cases hy
  ·obtain rfl:=au hy
   simp only[inv]
   first | exact GH G hj | (unfold iu;rw[bQ (n:=2*_) (by omega) (by omega),bQ (by omega) (by omega)];rfl) | (unfold oc;rfl)
  ·cases hy
abbrev S4:=(Int×Bool)×Int×Int
def stA (g:GrT) (a:AutT) (x s:Nat) (y:ArT):List S4:=(behind a s (nth g.1 x) y.2.1).map fun t=>(y.1,y.2.2,t)
def stV (g:GrT) (a:AutT) (x s:Nat):List S4:=(arcL g.2 x).flatMap (stA g a x s)
theorem Vm (g:GrT) (a:AutT) (x s:Nat):(stV g a x s).map (fun p=>p.2.1*(a.2.1.length:Int)+p.2.2)=nbV g a x s:=by
 unfold stV nbV
 rw[List.map_flatMap]
 congr 1
 funext y
 unfold stA nbA
 rw[List.map_map];rfl
section
variable {g:GrT} {a:AutT} (G:GOk g) (V:VA a a.2.1.length) (hn:a.2.1.length<=12)
include G V hn
theorem S5 {x s:Nat} {y:ArT} (hx:x<g.1.length) (hs:s<a.2.1.length) (hy:y∈arcL g.2 x):(stA g a x s y).length<=30:=by
 unfold stA;rw[List.length_map]
 exact (tU G V hn (s:=s) ⟨by omega,by omega⟩ (G.val _ (bB (by omega) (by omega))) (pD G hy).1).2.1
theorem W3 {x:Nat} {i:Nat} {e:EdT} {o:List S4} {y:ArT} {C:Nat} (hC:C<2 ^ a.2.1.length) (hy:y∈arcL g.2 x) (hi:aR ((arcL g.2 x).map yz) (i:Int)=some (yz y)) (he:iu e y.1.2=some y.2.1) :
  aC (gT a (C:Int) ((arcL g.2 x).map yz) (o,(i:Int)) e) aP (0,0)=some (.brk ((afS a y.2.1.toNat C a.2.1.length:Int),(a.2.1.length:Int))):=by
 obtain ⟨k0,k1⟩:=(pD G hy).1
 have:=aL (f:=gT a (C:Int) ((arcL g.2 x).map yz) (o,(i:Int)) e) (fun q=>((afS a y.2.1.toNat C q:Int),(q:Int))) a.2.1.length (fun q hq=>by
  unfold gT
  simp only
  have he:iu (e.1,e.2.1,e.2.2.1,e.2.2.2) (yz y).2=some y.2.1:=he
  have ek:y.2.1=((y.2.1.toNat:Nat):Int):=by omega
  have em:=V.get2 (s:=(q:Int)) (k:=y.2.1.toNat) (by omega) (by omega) (by omega)
  rw[<-ek] at em
  have hlt:=Lq V (k:=y.2.1.toNat) (C:=C) (by omega) q (by omega)
  have hC':C<2 ^ 62:=aG hC (p62 (by omega))
  have hmv:=(V.mv (s:=(q:Int)) (k:=y.2.1.toNat) (by omega) (by omega) (by omega)).2
  rw[if_pos (by simp;omega),V.get (by omega) (by omega)];simp only[aa]
  rw[hi];simp only[aa]
  rw[he];simp only[aa]
  rw[em];simp only[aa]
  rw[jb (by omega),uT hC' (by omega),ak (by omega),afS];simp only[aa]
  by_cases b:C.testBit q=true
  ·rw[if_pos b]
   by_cases c:0<=D.mv a (q:Int) y.2.1.toNat
   ·obtain ⟨t,ht⟩: ∃t:Nat,D.mv a (q:Int) y.2.1.toNat=(t:Int):=⟨_,(Int.toNat_of_nonneg c).symm⟩
    rw[if_pos (by simpa using c),if_pos ⟨b,c⟩,jb c,ht,nO (by omega),zM (aG hlt (p62 (by omega))) (Nat.pow_lt_pow_right (by decide) (by omega))];rfl
   ·rw[if_neg (by simpa using c),if_neg (fun h=>c h.2)];rfl
  ·rw[if_neg b,if_neg (fun h=>b h.1)];rfl) (by unfold gT;simp) (gD (by omega))
 exact this
theorem W4 {x:Nat} {i:Nat} {e:EdT} {o:List S4} {y:ArT} {m:Nat} (hm:m<2 ^ a.2.1.length) (ho:o.length<=100000) (hi:aR ((arcL g.2 x).map yz) (i:Int)=some (yz y)) (he:oc e y.1.2=some y.2.2) {z:Int} :
  aC (gU a ((arcL g.2 x).map yz) (o,(i:Int)) e ((m:Int),z)) aP (o,0)=some (.brk (o++(dq m 30).map (fun t=>(y.1,y.2.2,t)),(a.2.1.length:Int))):=by
 have:=aL (f:=gU a ((arcL g.2 x).map yz) (o,(i:Int)) e ((m:Int),z)) (fun q=>(o++(dq m q).map (fun t=>(y.1,y.2.2,t)),(q:Int))) a.2.1.length (fun q hq=>by
  unfold gU
  simp only
  have he:oc (e.1,e.2.1,e.2.2.1,e.2.2.2) (yz y).2=some y.2.2:=he
  have hm':m<2 ^ 62:=aG hm (p62 (by omega))
  have hl:=kW m q
  rw[if_pos (by simp;omega),jb (by omega),uT hm' (by omega),ak (by omega),iF];simp only[aa]
  by_cases b:m.testBit q=true
  ·rw[if_pos b,if_pos b,hi];simp only[aa]
   rw[he];simp only[aa]
   rw[aJ (by simp;omega)];simp only[aa,aK,aj];rfl
  ·rw[if_neg b,if_neg b];rfl) (by unfold gU;simp) (gD (by omega))
 rw[q7 hm (show a.2.1.length<=30 by omega)]
 simpa [dq] using this
theorem S6 {x s:Nat} (hx:x<g.1.length) (hs:s<a.2.1.length):kP g a x s=some (stV g a x s):=by
 have hv:=G.val _ (bB (xs:=g.1) (i:=(x:Int)) (by omega) (by omega))
 have ec:=C9 V hn (s:=(s:Int)) ⟨by omega,by omega⟩ hv
 have hC:=(ja V hn (s:=(s:Int)) ⟨by omega,by omega⟩ hv).2
 unfold kP
 rw[aF (by omega) (by omega)];simp only[aa]
 have ec:gi (a.1,a.2.1,a.2.2) (s:Int) (nth g.1 (x:Int))=_:=ec
 have ef:qQ (g.1,g.2) (x:Int)=_:=Vl G
 rw[ec,ef];simp only[aa]
 generalize hCC:cS a (s:Int) (nth g.1 (x:Int))=C at hC
 have l1:=nt g.2 x
 have hm:=G.m
 have:=aL (f:=gV g a (C:Int) ((arcL g.2 x).map yz)) (fun i=>(((arcL g.2 x).take i).flatMap (stA g a x s),(i:Int))) (arcL g.2 x).length (fun i hi=>by
  unfold gV
  simp only
  have hy:=List.getElem_mem hi
  generalize hyy:(arcL g.2 x)[i] =y at hy
  have hi2:aR ((arcL g.2 x).map yz) (i:Int)=some (yz y):=by rw[aW (by simpa using hi)];simp[hyy]
  obtain ⟨j,e,e1,e2,e3,e4⟩:=O4 G hy
  obtain ⟨k0,k1⟩:=(pD G hy).1
  rw[if_pos (by simp;omega),hi2];simp only[aa]
  have e1:jL (g.1,g.2) (yz y).1=_:=e1
  rw[e1];simp only[aa]
  rw[e2];simp only[aa]
  rw[ah (W3 G V hn hC hy hi2 e3)]
  have hlt:=Lq V (k:=y.2.1.toNat) (C:=C) (by omega) a.2.1.length (aq _)
  have hol:=mJ (f:=stA g a x s) (B:=30) (xs:=(arcL g.2 x).take i) fun z hz=>S5 G V hn hx hs (List.mem_of_mem_take hz)
  have hol2:((arcL g.2 x).take i).length<=24:=by rw[aD];omega
  rw[ah (W4 G V hn hlt (by omega) hi2 e4),ak (by omega)]
  congr 3
  have et:(arcL g.2 x).take (i+1)=(arcL g.2 x).take i++ [y]:=by rw[List.take_add_one];simp[hi,hyy]
  rw[et,List.flatMap_append]
  congr 1
  simp only[List.flatMap_cons,List.flatMap_nil,List.append_nil]
  unfold stA behind
  rw[hCC,q7 hC (show a.2.1.length<=30 by omega),EI]) (by unfold gV;simp) (gD (by omega))
 rw[List.take_length] at this
 have this:aC (gV g a (C:Int) ((arcL g.2 x).map yz)) aP (([] :List S4),0)=_:=this
 rw[ah this];rfl
end
end D
namespace D
open Go.RowKit
abbrev BfT:=List Int×List Int
def Qv (d:Int) (s:BfT) (x:Int):BfT:=if nth s.1 x<0 then (s.1.set x.toNat d,s.2++ [x]) else s
def zR (d:Int) (s:BfT) (xs:List Int):BfT:=xs.foldl (Qv d) s
theorem Da (d:Int) (s:BfT) (xs:List Int) (x:Int):zR d s (xs++ [x])=Qv d (zR d s xs) x:=by simp[zR]
structure BI (N:Nat) (s:BfT):Prop where
 len:s.1.length=N
 nd:s.2.Nodup
 rng: ∀x∈s.2,0<=x/\x<N
 seen: ∀x:Int,0<=x->x<N->(nth s.1 x<0↔x∉s.2)
 top: ∀x:Int,0<=x->x<N-> -1<=nth s.1 x/\nth s.1 x<s.2.length
theorem BI.le {N:Nat} {s:BfT} (h:BI N s):s.2.length<=N:=by
 have:=h.nd.length_le_of_subset (l₂:=(List.range N).map fun i:Nat=>(i:Int)) (fun x hx=>by
  obtain ⟨h0,h1⟩:=h.rng x hx
  exact List.mem_map.2 ⟨x.toNat,List.mem_range.2 (by omega),by omega⟩)
 simpa using this
theorem BI.one {N:Nat} {s:BfT} (h:BI N s) {d x:Int} (hx:0<=x/\x<N) (hd:0<=d/\d<=s.2.length):BI N (Qv d s x)/\s.2 <+:(Qv d s x).2/\ ∀y,0<=y->0<=nth s.1 y->nth (Qv d s x).1 y=nth s.1 y:=by
 unfold Qv
 split
 ·rename_i hn
  have hnot:=(h.seen x hx.1 hx.2).1 hn
  refine ⟨⟨by simp[h.len],?_,?_,?_,?_⟩,List.prefix_append _ _,?_⟩
  ·exact List.nodup_append.2 ⟨h.nd,by simp,by rintro a ha b hb rfl;simp at hb;exact hnot (hb ▸ ha)⟩
  ·intro y hy
   rcases aI hy with hy | hy
   ·exact h.rng y hy
   ·obtain rfl:y=x:=by simpa using hy
    exact hx
  ·intro y h0 h1
   by_cases e:x=y
   ·subst e
    rw[eO hx.1 (by rw[h.len];exact hx.2)]
    simp;omega
   ·rw[fI hx.1 h0 e,h.seen y h0 h1]
    simp;omega
  ·intro y h0 h1
   by_cases e:x=y
   ·subst e
    rw[eO hx.1 (by rw[h.len];exact hx.2)]
    simp;omega
   ·rw[fI hx.1 h0 e]
    have:=h.top y h0 h1
    simp;omega
  ·intro y h0 h1
   refine fI hx.1 h0 ?_
   rintro rfl
   omega
 ·exact ⟨h,List.prefix_refl _,fun y _ _=>rfl⟩
theorem BI.all {N:Nat} {d:Int} : ∀ {xs:List Int} {s:BfT},BI N s->(∀x∈xs,0<=x/\x<N)->(0<=d/\d<=s.2.length)->BI N (zR d s xs)/\s.2 <+:(zR d s xs).2/\ ∀y,0<=y->0<=nth s.1 y->nth (zR d s xs).1 y=nth s.1 y
 | [],s,h,_,_=>⟨h,List.prefix_refl _,fun _ _ _=>rfl⟩
 | x::xs,s,h,hx,hd=>by
  obtain ⟨h1,h2,h3⟩:=h.one (hx x (by simp)) hd
  have hl:=h2.length_le
  obtain ⟨k1,k2,k3⟩:=BI.all (xs:=xs) h1 (fun y hy=>hx y (by simp[hy])) ⟨hd.1,by omega⟩
  refine ⟨k1,h2.trans k2,fun y h0 hy=>?_⟩
  have e:=h3 y h0 hy
  exact (k3 y h0 (by rw[e];exact hy)).trans e
def bsS (nx:Int->List Int) (N:Nat) (v:Int):Nat->BfT
 | 0=>((List.replicate N (-1)).set v.toNat 0,[v])
 | i+1=>match (bsS nx N v i).2[i]? with
  | some x=>zR (nth (bsS nx N v i).1 x+1) (bsS nx N v i) (nx x)
  | none=>bsS nx N v i
section
variable {nx:Int->List Int} {N:Nat} {v:Int} (hv:0<=v/\v<N) (hn: ∀x:Int,0<=x->x<N-> ∀y∈nx x,0<=y/\y<N)
include hv
theorem S7 {x:Int} (h0:0<=x) (h1:x<N):nth (List.replicate N (-1:Int)) x= -1:=by
 have:x.toNat<N:=by omega
 simp[nth,List.getD_eq_getElem?_getD,List.getElem?_replicate,this]
theorem BI.zero:BI N (bsS nx N v 0):=by
 refine ⟨by simp[bsS],by simp[bsS],fun x hx=>?_,fun x h0 h1=>?_,fun x h0 h1=>?_⟩
 ·obtain rfl:x=v:=by simpa [bsS] using hx
  exact hv
 all_goals
  unfold bsS
  by_cases e:v=x
  ·subst e
   rw[eO hv.1 (by simpa using hv.2)]
   simp
  ·rw[fI hv.1 h0 e,S7 hv h0 h1]
   first | omega | (simp;omega) | simp
include hn
theorem Bo {i:Nat} (h:BI N (bsS nx N v i)):BI N (bsS nx N v (i+1))/\(bsS nx N v i).2 <+:(bsS nx N v (i+1)).2:=by
 rw[bsS]
 split
 ·rename_i x hx
  have hm:=List.mem_of_getElem? hx
  obtain ⟨x0,x1⟩:=h.rng x hm
  have hp: ¬nth (bsS nx N v i).1 x<0:=fun c=>(h.seen x x0 x1).1 c hm
  have ht:=h.top x x0 x1
  obtain ⟨k1,k2,_⟩:=h.all (xs:=nx x) (d:=nth (bsS nx N v i).1 x+1) (hn x x0 x1) ⟨by omega,by omega⟩
  exact ⟨k1,k2⟩
 ·exact ⟨h,List.prefix_refl _⟩
theorem ye: ∀i,BI N (bsS nx N v i)
 | 0=>BI.zero hv
 | i+1=>(Bo hv hn (ye i)).1
theorem EM: ∃K,K<=N/\K=(bsS nx N v K).2.length/\ ∀i,i<K->i<(bsS nx N v i).2.length:=by
 have key: ∀m i,i+m=N->(∀j,j<i->j<(bsS nx N v j).2.length)-> ∃K,K<=N/\K=(bsS nx N v K).2.length/\ ∀i,i<K->i<(bsS nx N v i).2.length:=by
  have hge: ∀i,(∀j,j<i->j<(bsS nx N v j).2.length)->i<=(bsS nx N v i).2.length:=by
   intro i hj
   cases i with
   | zero=>omega
   | succ i =>
    have:=hj i (by omega)
    have hp:=(Bo hv hn (ye hv hn i)).2.length_le
    omega
  intro m
  induction m with
  | zero =>
   intro i hi hj
   have h1:=(ye hv hn i).le
   have h2:=hge i hj
   exact ⟨i,by omega,by omega,hj⟩
  | succ m ih =>
   intro i hi hj
   by_cases h:i<(bsS nx N v i).2.length
   ·exact ih (i+1) (by omega) fun j hj'=>by
     by_cases e:j=i
     ·subst e;exact h
     ·exact hj j (by omega)
   ·have h2:=hge i hj
    exact ⟨i,by omega,by omega,hj⟩
 exact key N 0 (by omega) (by omega)
end
end D
namespace D
open Go.RowKit
theorem S8:(List.range 61).all (fun N=>decide (bU [-1] (N:Int)=some (List.replicate N (-1))))=true:=by kernel_rfl
theorem Vn {N:Nat} (h:N<=60):bU [-1] (N:Int)=some (List.replicate N (-1)):=
 of_decide_eq_true (List.all_eq_true.1 S8 N (List.mem_range.2 (by omega)))
theorem O5 {α:Type} {xs:List α} {i:Nat} {x:α} (h:i<=xs.length):(xs++ [x]).drop i=xs.drop i++ [x]:=List.drop_append_of_le_length h
theorem zS {α:Type} {xs:List α} {i:Nat} {x:α} (h:xs[i]? =some x):aR (xs.drop i) 0=some x:=by
 unfold aR
 rw[if_pos (by decide)]
 simpa using h
section
variable {nx:Int->List Int} {N:Nat} {v:Int} (hN:N<=60) (hv:0<=v/\v<N) (hn: ∀x:Int,0<=x->x<N-> ∀y∈nx x,0<=y/\y<N) (hl: ∀x,(nx x).length<=100000)
include hN hv hn hl
theorem S9 {i:Nat} {x:Int} (hx:(bsS nx N v i).2[i]? =some x) (j:Nat) :
  BI N (zR (nth (bsS nx N v i).1 x+1) (bsS nx N v i) ((nx x).take j))/\(zR (nth (bsS nx N v i).1 x+1) (bsS nx N v i) ((nx x).take j)).2[i]? =some x/\nth (zR (nth (bsS nx N v i).1 x+1) (bsS nx N v i) ((nx x).take j)).1 x=nth (bsS nx N v i).1 x/\(0<=x/\x<N)/\(0<=nth (bsS nx N v i).1 x/\nth (bsS nx N v i).1 x<60)/\i<(zR (nth (bsS nx N v i).1 x+1) (bsS nx N v i) ((nx x).take j)).2.length:=by
 have h:=ye hv hn i
 have hm:=List.mem_of_getElem? hx
 obtain ⟨x0,x1⟩:=h.rng x hm
 have hp: ¬nth (bsS nx N v i).1 x<0:=fun c=>(h.seen x x0 x1).1 c hm
 have ht:=h.top x x0 x1
 have hle:=h.le
 obtain ⟨k1,k2,k3⟩:=h.all (xs:=(nx x).take j) (d:=nth (bsS nx N v i).1 x+1) (fun y hy=>hn x x0 x1 y (List.mem_of_mem_take hy)) ⟨by omega,by omega⟩
 obtain ⟨t,ht'⟩:=k2
 have hi:=(List.getElem?_eq_some_iff.1 hx).1
 have e:(zR (nth (bsS nx N v i).1 x+1) (bsS nx N v i) ((nx x).take j)).2[i]? =some x:=by
  rw[<-ht',List.getElem?_append_left hi,hx]
 exact ⟨k1,e,k3 x x0 (by omega),⟨x0,x1⟩,⟨by omega,by omega⟩,(List.getElem?_eq_some_iff.1 e).1⟩
theorem W5 {i:Nat} {x:Int} (hx:(bsS nx N v i).2[i]? =some x) :
  aC (dI (nx x)) aP ((bsS nx N v i).2.drop i,0,(bsS nx N v i).1)=some (.brk ((bsS nx N v (i+1)).2.drop i,((nx x).length:Int),(bsS nx N v (i+1)).1)):=by
 have:=aL (f:=dI (nx x)) (fun j=>((zR (nth (bsS nx N v i).1 x+1) (bsS nx N v i) ((nx x).take j)).2.drop i,(j:Int),(zR (nth (bsS nx N v i).1 x+1) (bsS nx N v i) ((nx x).take j)).1)) (nx x).length (fun j hj=>by
  have hlx:=hl x
  obtain ⟨k1,k2,k3,⟨x0,x1⟩,k4,k5⟩:=S9 hN hv hn hl hx j
  have hy:=hn x x0 x1 _ (bB (xs:=nx x) (i:=(j:Int)) (by omega) (by omega))
  unfold dI
  simp only
  rw[sx hj,Da]
  generalize zR (nth (bsS nx N v i).1 x+1) (bsS nx N v i) ((nx x).take j)=s at k1 k2 k3 k5
  have hle:=k1.le
  have hlen:=k1.len
  rw[if_pos (by simp;omega),aF (by omega) (by omega)];simp only[aa]
  rw[aF (xs:=s.1) hy.1 (by omega)];simp only[aa]
  rw[zS k2];simp only[aa]
  rw[aF (xs:=s.1) x0 (by omega)];simp only[aa]
  rw[aJ (by simp;omega),ak (by omega),k3,bQ (by omega) (by omega)]
  unfold Qv
  by_cases c:nth s.1 (nth (nx x) (j:Int))<0
  ·rw[if_pos (by simpa using c),if_pos c,O5 (by omega)];rfl
  ·rw[if_neg (by simpa using c),if_neg c];rfl) (by unfold dI;simp) (gD (by have:=hl x;omega))
 rw[List.take_length] at this
 have e:bsS nx N v (i+1)=zR (nth (bsS nx N v i).1 x+1) (bsS nx N v i) (nx x):=by rw[bsS,hx]
 rw[e]
 exact this
theorem GI {K:Nat} (hK:K<=N) (hE:K=(bsS nx N v K).2.length) (hR: ∀i,i<K->i<(bsS nx N v i).2.length):lX (rm N fun z=>nx (z:Int)) [v] =some (bsS nx N v K).1:=by
 unfold lX
 rw[rF,Vn hN];simp only[aa]
 have e0:aC (dH [v]) aP (([] :List Int),0,List.replicate N (-1))=some (.brk ([v],1,(bsS nx N v 0).1)):=by
  have:=aL (f:=dH [v]) (fun j=>if j=0 then (([] :List Int),(0:Int),List.replicate N (-1:Int)) else ([v],1,(bsS nx N v 0).1)) 1 (fun j hj=>by
   obtain rfl:j=0:=by omega
   unfold dH
   simp only[if_true]
   rw[if_pos (by simp),show aR [v] 0=some v from rfl];simp only[aa]
   rw[aF (xs:=List.replicate N (-1)) hv.1 (by simpa using hv.2)];simp only[aa]
   rw[aJ (by simp)];rfl) (by unfold dH;simp) (by unfold aP;omega)
  exact this
 rw[ah e0]
 have:=aL (f:=eJ (rm N fun z=>nx (z:Int))) (fun i=>((bsS nx N v i).2.drop i,(bsS nx N v i).1)) K (fun i hi=>by
  have hi2:=hR i hi
  obtain ⟨x,hx⟩: ∃x,(bsS nx N v i).2[i]? =some x:=⟨_,List.getElem?_eq_getElem hi2⟩
  obtain ⟨k1,k2,k3,⟨x0,x1⟩,k4,k5⟩:=S9 hN hv hn hl hx 0
  unfold eJ
  simp only
  rw[if_pos (by simp;omega),zS hx];simp only[aa]
  obtain ⟨z,rfl⟩: ∃z:Nat,x=(z:Int):=⟨_,(Int.toNat_of_nonneg x0).symm⟩
  rw[sw (by omega)];simp only[aa]
  rw[ah (W5 hN hv hn hl hx)]
  have hp:=(Bo hv hn (ye hv hn i)).2.length_le
  rw[jb (by simp;omega)];simp only[aa]
  rw[List.drop_drop]) (by
  unfold eJ
  rw[if_neg (by simp;omega)]) (gD (by omega))
 have this:aC (eJ (rm N fun z=>nx (z:Int))) aP ([v],(bsS nx N v 0).1)=_:=this
 rw[ah this]
end
end D
namespace D
open Go.RowKit
theorem Bp {n:Nat} {r:List Int} :(∀t∈r,-1<=t/\t<=(n:Int) - 1)↔ ∀t∈r,-1<=t/\t<(n:Int):=forall_congr' fun t=>forall_congr' fun _=>and_congr Iff.rfl (by omega)
theorem Vo (a:AutT) (h1:a.2.1.length<=9223372036854775807) (h2:a.2.2.length<=9223372036854775807): ∃b,oY a=some b/\(b=true↔VA a a.2.1.length):=by
 unfold oY
 rw[IA];simp only[aa,kV h1]
 by_cases c1:0<=a.1/\a.1<=(a.2.1.length:Int) - 1
 case neg=>exact ⟨false,by rw[if_neg (by simpa using c1)],by simp;exact fun h=>c1 ⟨h.start.1,by have:=h.start.2;omega⟩⟩
 rw[if_pos (by simpa using c1)]
 by_cases c2:a.2.2.length=a.2.1.length
 case neg=>exact ⟨false,by rw[if_pos (by simp;omega)],by simp;exact fun h=>c2 h.nlen⟩
 rw[if_neg (by simp;omega)]
 have inner: ∀i:Nat,i<a.2.2.length->(nth a.2.2 i).length=9->(aC (gg a i) aP 0=some (.brk 9)/\ ∀t∈nth a.2.2 (i:Int),-1<=t/\t<=(a.2.1.length:Int) - 1)\/(aC (gg a i) aP 0=some (.ret false)/\ ¬ ∀t∈nth a.2.2 (i:Int),-1<=t/\t<=(a.2.1.length:Int) - 1):=by
  intro i hi hr
  have:=scan (f:=gg a i) (nth a.2.2 (i:Int)) (fun t=> -1<=t/\t<=(a.2.1.length:Int) - 1) false (by omega) (fun j hj=>by
   unfold gg
   rw[if_pos (by simp;omega),aF (by omega) (by omega)];simp only[aa]
   rw[aF (by omega) (by omega)];simp only[aa,kV h1]
   rw[IA];simp only[aa,ak (show j<9223372036854775807 by omega)]
   by_cases c: -1<=nth (nth a.2.2 (i:Int)) (j:Int)/\nth (nth a.2.2 (i:Int)) (j:Int)<=(a.2.1.length:Int) - 1
   ·rw[if_pos (by simpa using c),if_pos c]
   ·rw[if_neg (by simpa using c),if_neg c]) (by unfold gg;rw[if_neg (by simp[hr])])
  rwa [hr] at this
 have outer:=scan (f:=kF a) a.2.2 (fun r=>r.length=9/\ ∀t∈r,-1<=t/\t<=(a.2.1.length:Int) - 1) false h2 (fun i hi=>by
  unfold kF
  rw[if_pos (by simp;omega),aF (by omega) (by omega)];simp only[aa]
  by_cases c:(nth a.2.2 (i:Int)).length=9
  ·rw[if_neg (by simp;omega)]
   rcases inner i hi c with ⟨e,k⟩ | ⟨e,k⟩
   ·rw[ah e,if_pos ⟨c,k⟩,ak (show i<9223372036854775807 by omega)]
   ·rw[bK e,if_neg (fun h=>k h.2)]
  ·rw[if_pos (by simp;omega),if_neg (fun h=>c h.1)]) (by unfold kF;rw[if_neg (by simp;omega)])
 rcases outer with ⟨e,k⟩ | ⟨e,k⟩
 ·exact ⟨true,by rw[ah e],by simp;exact ⟨rfl,⟨c1.1,by omega⟩,c2,fun r hr=>(k r hr).1,fun r hr=>Bp.1 (k r hr).2⟩⟩
 ·exact ⟨false,by rw[bK e],by simp;exact fun h=>k fun r hr=>⟨h.row r hr,Bp.2 (h.ent r hr)⟩⟩
theorem Ta (a:AutT) (h1:a.2.1.length<=9223372036854775807) (h2:a.2.2.length<=9223372036854775807): ∃b,cG a=some b/\(b=true↔a.2.1.length<=12/\VA a a.2.1.length):=by
 unfold cG
 by_cases c:a.2.1.length<=12
 ·rw[if_pos (by simp;omega)]
  obtain ⟨b,e,hb⟩:=Vo a h1 h2
  exact ⟨b,by show (oY a).bind _=_;rw[e];rfl,by rw[hb];simp[c]⟩
 ·exact ⟨false,by rw[if_neg (by simp;omega)],by simp;exact fun h=>absurd h c⟩
theorem Tb (a:AutT) (h1:a.2.1.length<=9223372036854775807) (h2:a.2.2.length<=9223372036854775807) (h3: ∀r∈a.2.2,r.length<=9223372036854775807): ∃b,bF a=some b/\(b=true↔a.2.1.length<=12/\VA a a.2.1.length):=by
 unfold bF
 rw[Gz];simp only[aa,kV h1]
 by_cases c0:1<=(a.2.1.length:Int)/\(a.2.1.length:Int)<=12
 case neg=>exact ⟨false,by rw[if_neg (by simpa using c0)],by simp;exact fun h h'=>c0 ⟨by have:=h'.start;omega,by omega⟩⟩
 rw[if_pos (by simpa using c0),Gz];simp only[aa]
 by_cases c1:0<=a.1/\a.1<=(a.2.1.length:Int) - 1
 case neg=>exact ⟨false,by rw[if_neg (by simpa using c1)],by simp;exact fun _ h=>c1 ⟨h.start.1,by have:=h.start.2;omega⟩⟩
 rw[if_pos (by simpa using c1)]
 by_cases c2:a.2.2.length=a.2.1.length
 case neg=>exact ⟨false,by rw[if_pos (by simp;omega)],by simp;exact fun _ h=>c2 h.nlen⟩
 rw[if_neg (by simp;omega)]
 have inner: ∀x:List Int,x.length<=9223372036854775807->(aC (bW a x) aP 0=some (.brk (x.length:Int))/\ ∀t∈x,-1<=t/\t<=(a.2.1.length:Int) - 1)\/(aC (bW a x) aP 0=some (.ret false)/\ ¬ ∀t∈x,-1<=t/\t<=(a.2.1.length:Int) - 1):=by
  intro x hx
  refine scan (f:=bW a x) x (fun t=> -1<=t/\t<=(a.2.1.length:Int) - 1) false hx (fun j hj=>?_) (by unfold bW;rw[if_neg (by simp)])
  unfold bW
  rw[if_pos (by simp;omega),aF (by omega) (by omega)];simp only[aa,kV h1]
  rw[Gz];simp only[aa,ak (show j<9223372036854775807 by omega)]
  by_cases c: -1<=nth x (j:Int)/\nth x (j:Int)<=(a.2.1.length:Int) - 1
  ·rw[if_pos (by simpa using c),if_pos c]
  ·rw[if_neg (by simpa using c),if_neg c]
 have outer:=scan (f:=dG a) a.2.2 (fun r=>(∀t∈r,-1<=t/\t<=(a.2.1.length:Int) - 1)/\r.length=9) false h2 (fun i hi=>by
  unfold dG
  rw[if_pos (by simp;omega),aF (by omega) (by omega)];simp only[aa]
  rcases inner (nth a.2.2 (i:Int)) (h3 _ (bB (by omega) (by omega))) with ⟨e,k⟩ | ⟨e,k⟩
  ·rw[ah e]
   by_cases c:(nth a.2.2 (i:Int)).length=9
   ·rw[if_neg (by simp;omega),if_pos ⟨k,c⟩,ak (show i<9223372036854775807 by omega)]
   ·rw[if_pos (by simp;omega),if_neg (fun h=>c h.2)]
  ·rw[bK e,if_neg (fun h=>k h.1)]) (by unfold dG;rw[if_neg (by simp)])
 rcases outer with ⟨e,k⟩ | ⟨e,k⟩
 ·exact ⟨true,by rw[ah e],by simp;exact ⟨by omega,rfl,⟨c1.1,by omega⟩,c2,fun r hr=>(k r hr).2,fun r hr=>Bp.1 (k r hr).1⟩⟩
 ·exact ⟨false,by rw[bK e],by simp;exact fun _ h=>k fun r hr=>⟨Bp.2 (h.ent r hr),h.row r hr⟩⟩
end D
namespace D
open Go.RowKit
theorem yf (g:GrT):a6 g=aQ g:=by
 have h0:mr g=dQ g:=rfl
 have h1:jm g=cU g:=by
  funext s
  unfold jm cU
  split
  ·cases hx:aR g.2 s with
   | none=>rfl
   | some x=>rfl
  ·rfl
 unfold a6 aQ
 rw[h0,h1];rfl
def GOOD (g:GrT) (a:AutT):Prop:=GOk g/\a.2.1.length<=12/\VA a a.2.1.length
theorem EN (g:GrT) (a:AutT) (hg:Data.sm g) (ha:Data.sm a): ∃b c,a6 g=some b/\aQ g=some b/\cG a=some c/\bF a=some c/\(b=true↔Wo g)/\(c=true↔a.2.1.length<=12/\VA a a.2.1.length):=by
 obtain ⟨b,e1,k1⟩:=Bf g (km hg.1).1 (km hg.2).1
 have hb:=(km ha.2.1).1
 have hn:=km ha.2.2
 obtain ⟨c,e2,k2⟩:=Tb a (by omega) (by omega) (fun r hr=>by have:=(km (hn.2 r hr)).1;omega)
 obtain ⟨c',e3,k3⟩:=Ta a (by omega) (by omega)
 have hc:c'=c:=by
  cases c <;> cases c' <;> simp_all
 subst hc
 exact ⟨b,c',by rw[yf,e1],e1,e3,e2,k1,k2⟩
theorem Tc (g:GrT) (a:AutT) (hg:Data.sm g) (ha:Data.sm a): ∃b c,a6 g=some b/\aQ g=some b/\cG a=some c/\bF a=some c/\(b=true->GOk g)/\(c=true->a.2.1.length<=12/\VA a a.2.1.length):=by
 obtain ⟨b,c,h1,h2,h3,h4,h5,h6⟩:=EN g a hg ha
 exact ⟨b,c,h1,h2,h3,h4,fun h=>(h5.1 h).1,h6.1⟩
theorem O6 (g:GrT) (a:AutT) (hg:Data.sm g) (ha:Data.sm a) (x:Int): ∃b,jn g a x 0=some b/\bC g a [x] =some b/\(b=true↔(Wo g/\GOOD g a)/\0<=x/\x<g.1.length):=by
 obtain ⟨b,c,e1,e2,e3,e4,k1,k2⟩:=EN g a hg ha
 have hl:=(km hg.1).1
 have hla:=(km ha.2.1).1
 have ew:IntKind.i64.wrap ((g.1.length:Int) - 1)=(g.1.length:Int) - 1:=bQ (by omega) (by omega)
 have ew2:IntKind.i64.wrap ((a.2.1.length:Int) - 1)=(a.2.1.length:Int) - 1:=bQ (by omega) (by omega)
 have es:jn g a x 0=some (b&&(c&&(decide (0<=x/\x<=(g.1.length:Int) - 1)))):=by
  unfold jn
  have e1:a6 (g.1,g.2)=_:=e1
  have e3:cG (a.1,a.2.1,a.2.2)=_:=e3
  rw[e1,e3,IA,IA,ew,ew2];simp only[aa]
  cases b <;> cases c <;> simp only[Bool.false_eq_true,if_false,if_true,Bool.false_and,Bool.true_and]
  by_cases h:0<=x/\x<=(g.1.length:Int) - 1
  ·have:=(k2.1 rfl).2.start
   simp only[h,and_self,decide_true,if_true]
   rw[decide_eq_true (by omega)]
  ·rw[decide_eq_false h];rfl
 have ei:bC g a [x] =some (b&&(c&&(decide (0<=x/\x<=(g.1.length:Int) - 1)))):=by
  unfold bC
  have e2:aQ (g.1,g.2)=_:=e2
  have e4:bF (a.1,a.2.1,a.2.2)=_:=e4
  rcases Ic (f:=bX g [x]) 1 (fun _=>0<=x/\x<=(g.1.length:Int) - 1) false (by decide) (fun i hi=>by
   obtain rfl:i=0:=by omega
   unfold bX
   rw[if_pos (by simp),show aR [x] ((0:Nat):Int)=some x from rfl];simp only[aa]
   rw[Gz,ew];simp only[aa,decide_eq_true_eq]
   split <;> rfl) (by unfold bX;simp) with ⟨k,h⟩ | ⟨k,h⟩
  ·rw[ah k,e2,e4];simp only[aa]
   rw[decide_eq_true (h 0 (by decide))]
   cases b <;> cases c <;> rfl
  ·rw[bK k,decide_eq_false (fun c=>h fun _ _=>c)]
   cases b <;> cases c <;> rfl
 refine ⟨_,es,ei,fun hb=>?_,fun hb=>?_⟩
 ·simp only[ai,decide_eq_true_eq] at hb
  obtain ⟨h1,h2,h3⟩:=hb
  exact ⟨⟨k1.1 h1,(k1.1 h1).1,(k2.1 h2).1,(k2.1 h2).2⟩,h3.1,by omega⟩
 ·simp only[ai,decide_eq_true_eq]
  exact ⟨k1.2 hb.1.1,k2.2 hb.1.2.2,hb.2.1,by have:=hb.2.2;omega⟩
theorem LI (g:GrT) (a:AutT) (hg:Data.sm g) (ha:Data.sm a) (x:Int): ∃b,jn g a x 0=some b/\bC g a [x] =some b/\(b=true->GOOD g a/\0<=x/\x<g.1.length):=by
 obtain ⟨b,h1,h2,h3⟩:=O6 g a hg ha x
 exact ⟨b,h1,h2,fun h=>⟨(h3.1 h).1.2,(h3.1 h).2⟩⟩
def nxC (g:GrT) (a:AutT) (z:Int):List Int:=nbC g a z.toNat
section
variable {g:GrT} {a:AutT} (H:GOOD g a)
include H
theorem GOOD.divmod {x:Int} (h0:0<=x) (h1:x<(a.2.1.length*g.1.length:Nat)):x.toNat / a.2.1.length<g.1.length/\x.toNat % a.2.1.length<a.2.1.length:=by
 have hp:=H.2.2.pos
 exact ⟨(Nat.div_lt_iff_lt_mul hp).2 (by rw[Nat.mul_comm];omega),Nat.mod_lt _ hp⟩
theorem Vp (x:Int) (h0:0<=x) (h1:x<(a.2.1.length*g.1.length:Nat)): ∀y∈nxC g a x,0<=y/\y<(a.2.1.length*g.1.length:Nat):=by
 obtain ⟨k1,k2⟩:=H.divmod h0 h1
 exact Vk H.1 H.2.2 H.2.1 k1 k2
theorem Td {x:Int} (h0:0<=x) (h1:x<(a.2.1.length*g.1.length:Nat)):(nxC g a x).length<=720:=by
 obtain ⟨k1,k2⟩:=H.divmod h0 h1
 have:=mJ (f:=nbA g a (x.toNat / a.2.1.length) (x.toNat % a.2.1.length)) (B:=30) (xs:=arcL g.2 (x.toNat / a.2.1.length)) fun y hy=>LH H.1 H.2.2 H.2.1 k1 k2 hy
 have l1:=nt g.2 (x.toNat / a.2.1.length)
 have:=H.1.m
 show (nbV g a _ _).length<=720
 unfold nbV
 omega
end
def nxN (g:GrT) (a:AutT) (z:Int):List Int:=if 0<=z/\z<(a.2.1.length*g.1.length:Nat) then nxC g a z else []
section
variable {g:GrT} {a:AutT} (H:GOOD g a)
include H
theorem oD: ∀x:Int,0<=x->x<(a.2.1.length*g.1.length:Nat)-> ∀y∈nxN g a x,0<=y/\y<(a.2.1.length*g.1.length:Nat):=fun x h0 h1=>by
 unfold nxN;rw[if_pos ⟨h0,h1⟩];exact Vp H x h0 h1
theorem yg (x:Int):(nxN g a x).length<=720:=by
 unfold nxN;split
 ·rename_i h;exact Td H h.1 h.2
 ·simp
theorem Te:eD g a=some (rm (a.2.1.length*g.1.length) fun z=>nxN g a (z:Int)):=by
 rw[SZ H.1 H.2.2 H.2.1]
 congr 1
 refine lT fun z hz=>?_
 unfold nxN
 rw[if_pos ⟨by omega,by omega⟩];rfl
theorem O7 {x:Int} (h0:0<=x) (h1:x<(a.2.1.length*g.1.length:Nat)): ∃l:List S4,kP g a (Dz x (a.2.1.length:Int)) (Int.tmod x (a.2.1.length:Int))=some l/\l.map (fun p=>p.2.1*(a.2.1.length:Int)+p.2.2)=nxN g a x/\ ∀p∈l,(0<=p.2.1/\p.2.1<60)/\0<=p.2.2/\p.2.2<60:=by
 obtain ⟨k1,k2⟩:=H.divmod h0 h1
 have hp:=H.2.2.pos
 have hN:=nN H.1 H.2.2 H.2.1
 have e1:Dz x (a.2.1.length:Int)=((x.toNat / a.2.1.length:Nat):Int):=by
  unfold Dz
  have:x.tdiv (a.2.1.length:Int)=((x.toNat / a.2.1.length:Nat):Int):=by
   rw[Int.tdiv_eq_ediv_of_nonneg h0]
   rw[show x / (a.2.1.length:Int)=((x.toNat:Nat):Int) / (a.2.1.length:Int) from by rw[Int.toNat_of_nonneg h0]]
   simp
  rw[this,tJ (by have:=H.1.n5;omega)]
 have e2:Int.tmod x (a.2.1.length:Int)=((x.toNat % a.2.1.length:Nat):Int):=by
  rw[Int.tmod_eq_emod_of_nonneg h0]
  rw[show x % (a.2.1.length:Int)=((x.toNat:Nat):Int) % (a.2.1.length:Int) from by rw[Int.toNat_of_nonneg h0]]
  simp
 refine ⟨_,by rw[e1,e2];exact S6 H.1 H.2.2 H.2.1 k1 k2,?_,fun p hp=>?_⟩
 ·rw[Vm];unfold nxN;rw[if_pos ⟨h0,h1⟩];rfl
 ·obtain ⟨y,hy,hp⟩:=List.mem_flatMap.1 hp
  obtain ⟨t,ht,rfl⟩:=List.mem_map.1 hp
  have h2:=(pD H.1 hy).2
  have h3:=(tU H.1 H.2.2 H.2.1 (s:=((x.toNat % a.2.1.length:Nat):Int)) ⟨by omega,by omega⟩ (H.1.val _ (bB (xs:=g.1) (i:=((x.toNat / a.2.1.length:Nat):Int)) (Int.natCast_nonneg _) (Int.ofNat_lt.2 k1))) (pD H.1 hy).1).1 t ht
  have:=H.1.n5
  have:=H.2.1
  exact ⟨⟨h2.1,by simp only;omega⟩,h3.1,by simp only;omega⟩
end
def RKs (g:GrT) (a:AutT) (v:Int):List Int:=(bsS (nxN g a) (a.2.1.length*g.1.length) v (a.2.1.length*g.1.length)).1
theorem wj {nx:Int->List Int} {N:Nat} {v:Int} (hv:0<=v/\v<N) (hn: ∀x:Int,0<=x->x<N-> ∀y∈nx x,0<=y/\y<N) {K:Nat} (hE:K=(bsS nx N v K).2.length): ∀d,bsS nx N v (K+d)=bsS nx N v K
 | 0=>rfl
 | d+1=>by
  have ih:=wj hv hn hE d
  rw[<-Nat.add_assoc,bsS,ih]
  have:(bsS nx N v K).2[K+d]? =none:=List.getElem?_eq_none (by omega)
  rw[this]
section
variable {g:GrT} {a:AutT} (H:GOOD g a) {x:Int} (hx:0<=x/\x<g.1.length)
include H hx
theorem Ii:0<=x*(a.2.1.length:Int)+a.1/\x*(a.2.1.length:Int)+a.1<(a.2.1.length*g.1.length:Nat):=by
 obtain ⟨z,rfl⟩: ∃z:Nat,x=(z:Int):=⟨_,(Int.toNat_of_nonneg hx.1).symm⟩
 have hs:=H.2.2.start
 obtain ⟨s,hs'⟩: ∃s:Nat,a.1=(s:Int):=⟨_,(Int.toNat_of_nonneg hs.1).symm⟩
 rw[hs'] at hs⊢
 have:=cN H.1 H.2.2 H.2.1 (x:=z) (s:=s) (by omega) (by omega)
 constructor
 ·exact Int.add_nonneg (Int.mul_nonneg (by omega) (by omega)) (by omega)
 ·exact_mod_cast this
theorem Qw:IntKind.i64.wrap ((IntKind.i64.wrap (x*(a.2.1.length:Int)))+a.1)=x*(a.2.1.length:Int)+a.1:=by
 have h:=Ii H hx
 have hN:=nN H.1 H.2.2 H.2.1
 have hs:=H.2.2.start
 have hn:=H.2.1
 have h5:=H.1.n5
 rw[bQ (n:=x*(a.2.1.length:Int)) (by omega) (by omega),bQ (by omega) (by omega)]
theorem W6:BI (a.2.1.length*g.1.length) (bsS (nxN g a) (a.2.1.length*g.1.length) (x*(a.2.1.length:Int)+a.1) (a.2.1.length*g.1.length)):=ye (Ii H hx) (oD H) _
theorem GJ:(RKs g a (x*(a.2.1.length:Int)+a.1)).length=a.2.1.length*g.1.length:=(W6 H hx).len
theorem Vq (e:bC g a [x] =some true):fD g a x=some (RKs g a (x*(a.2.1.length:Int)+a.1)):=by
 unfold fD
 have e:bC (g.1,g.2) (a.1,a.2.1,a.2.2) [x] =_:=e
 rw[e];simp only[aa,if_true]
 have e2:eD (g.1,g.2) (a.1,a.2.1,a.2.2)=_:=Te H
 rw[e2];simp only[aa]
 have hN:=nN H.1 H.2.2 H.2.1
 obtain ⟨K,hK,hE,hR⟩:=EM (Ii H hx) (oD H)
 rw[Qw H hx,GI hN (Ii H hx) (oD H) (fun x=>by have:=yg H x;omega) hK hE hR];simp only[aa]
 have hk:bsS (nxN g a) (a.2.1.length*g.1.length) (x*(a.2.1.length:Int)+a.1) K=bsS (nxN g a) (a.2.1.length*g.1.length) (x*(a.2.1.length:Int)+a.1) (a.2.1.length*g.1.length):=by
  have:=wj (Ii H hx) (oD H) hE (a.2.1.length*g.1.length - K)
  rw[show K+(a.2.1.length*g.1.length - K)=a.2.1.length*g.1.length from by omega] at this
  exact this.symm
 have hl:=GJ H hx
 rw[hk]
 show ((chk _).bind fun _=>_).bind _=_
 have hv:=Ii H hx
 rw[jb (by rw[show (bsS _ _ _ _).1.length=_ from hl];omega)];rfl
theorem W7 {o1 o2:List Int} {i:Nat} {z:Int} {l:List S4} (hz:(bsS (nxN g a) (a.2.1.length*g.1.length) (x*(a.2.1.length:Int)+a.1) i).2[i]? =some z)
  (hl:l.map (fun p=>p.2.1*(a.2.1.length:Int)+p.2.2)=nxN g a z) (hp: ∀p∈l,(0<=p.2.1/\p.2.1<60)/\0<=p.2.2/\p.2.2<60) :
  aC (gX a (o1,o2,(i:Int)) l) aP ((bsS (nxN g a) (a.2.1.length*g.1.length) (x*(a.2.1.length:Int)+a.1) i).1,(bsS (nxN g a) (a.2.1.length*g.1.length) (x*(a.2.1.length:Int)+a.1) i).2,0)=some (.brk ((bsS (nxN g a) (a.2.1.length*g.1.length) (x*(a.2.1.length:Int)+a.1) (i+1)).1,(bsS (nxN g a) (a.2.1.length*g.1.length) (x*(a.2.1.length:Int)+a.1) (i+1)).2,(l.length:Int))):=by
 have hN:=nN H.1 H.2.2 H.2.1
 have hv:=Ii H hx
 have hnn:=H.2.1
 generalize hV:x*(a.2.1.length:Int)+a.1=v at hz hv⊢
 have hlen:l.length<=720:=by have:=yg H z;rw[<-hl,List.length_map] at this;exact this
 have e:bsS (nxN g a) (a.2.1.length*g.1.length) v (i+1)=zR (nth (bsS (nxN g a) (a.2.1.length*g.1.length) v i).1 z+1) (bsS (nxN g a) (a.2.1.length*g.1.length) v i) (nxN g a z):=by rw[bsS,hz]
 have:=aL (f:=gX a (o1,o2,(i:Int)) l) (fun j=>((zR (nth (bsS (nxN g a) (a.2.1.length*g.1.length) v i).1 z+1) (bsS (nxN g a) (a.2.1.length*g.1.length) v i) ((nxN g a z).take j)).1,(zR (nth (bsS (nxN g a) (a.2.1.length*g.1.length) v i).1 z+1) (bsS (nxN g a) (a.2.1.length*g.1.length) v i) ((nxN g a z).take j)).2,(j:Int))) l.length (fun j hj=>by
  obtain ⟨k1,k2,k3,⟨x0,x1⟩,k4,k5⟩:=S9 hN hv (oD H) (fun x=>by have:=yg H x;omega) hz j
  have hjn:j<(nxN g a z).length:=by rw[<-hl,List.length_map];exact hj
  have hy:=oD H z x0 x1 _ (bB (xs:=nxN g a z) (i:=(j:Int)) (by omega) (by omega))
  have hq:=hp _ (bB (xs:=l) (i:=(j:Int)) (by omega) (by omega))
  have hyl:nth (nxN g a z) (j:Int)=(nth l (j:Int)).2.1*(a.2.1.length:Int)+(nth l (j:Int)).2.2:=by rw[<-hl,SJ (by omega) (by omega)]
  unfold gX
  simp only
  rw[sx hjn,Da]
  generalize zR (nth (bsS (nxN g a) (a.2.1.length*g.1.length) v i).1 z+1) (bsS (nxN g a) (a.2.1.length*g.1.length) v i) ((nxN g a z).take j)=s at k1 k2 k3 k5
  have hle:=k1.le
  have hsl:=k1.len
  rw[if_pos (by simp;omega),aF (by omega) (by omega)];simp only[aa]
  rw[bQ (n:=(nth l (j:Int)).2.1*(a.2.1.length:Int)) (by omega) (by omega),<-hyl,bQ (by omega) (by omega)]
  rw[aF (xs:=s.1) hy.1 (by omega)];simp only[aa]
  rw[show aR s.2 (i:Int)=some z from by unfold aR;rw[if_pos (by omega)];exact k2];simp only[aa]
  rw[aF (xs:=s.1) x0 (by omega)];simp only[aa]
  rw[aJ (by simp;omega),ak (by omega),k3,bQ (by omega) (by omega)]
  unfold Qv
  by_cases c:nth s.1 (nth (nxN g a z) (j:Int))<0
  ·rw[if_pos (by simpa using c),if_pos c];rfl
  ·rw[if_neg (by simpa using c),if_neg c];rfl) (by unfold gX;simp) (gD (by omega))
 have et:(nxN g a z).take l.length=nxN g a z:=by
  have:l.length=(nxN g a z).length:=by rw[<-hl,List.length_map]
  rw[this,List.take_length]
 rw[et] at this
 rw[e]
 exact this
theorem Tf:mV g a x=some (RKs g a (x*(a.2.1.length:Int)+a.1)):=by
 have hN:=nN H.1 H.2.2 H.2.1
 have hv:=Ii H hx
 have hpos:=H.2.2.pos
 unfold mV
 have ew:IntKind.i64.wrap ((g.1.length:Int)*(a.2.1.length:Int))=((a.2.1.length*g.1.length:Nat):Int):=by
  rw[show ((g.1.length:Int)*(a.2.1.length:Int))=((a.2.1.length*g.1.length:Nat):Int) from by rw[Nat.mul_comm];simp,tJ (by omega)]
 have e0:aC (gW g a) aP (([] :List Int),0)=some (.brk (List.replicate (a.2.1.length*g.1.length) (-1),((a.2.1.length*g.1.length:Nat):Int))):=by
  have:=aL (f:=gW g a) (fun i=>(List.replicate i (-1),(i:Int))) (a.2.1.length*g.1.length) (fun i hi=>by
   unfold gW
   simp only
   rw[ew,if_pos (by simp only[decide_eq_true_eq];omega),aJ (by simp;omega),ak (by omega)];simp only[aa]
   rw[List.replicate_succ']) (by unfold gW;simp only;rw[ew,if_neg (by simp)]) (gD (by omega))
  exact this
 rw[ah e0,Qw H hx]
 simp only
 generalize hV:x*(a.2.1.length:Int)+a.1=v at hv
 rw[show aR [v] 0=some v from rfl];simp only[aa]
 rw[aF (xs:=List.replicate _ (-1:Int)) hv.1 (by simpa using hv.2)];simp only[aa]
 obtain ⟨K,hK,hE,hR⟩:=EM hv (oD H)
 have:=aL (f:=gY g a) (fun i=>((bsS (nxN g a) (a.2.1.length*g.1.length) v i).1,(bsS (nxN g a) (a.2.1.length*g.1.length) v i).2,(i:Int))) K (fun i hi=>by
  have hi2:=hR i hi
  obtain ⟨z,hz⟩: ∃z,(bsS (nxN g a) (a.2.1.length*g.1.length) v i).2[i]? =some z:=⟨_,List.getElem?_eq_getElem hi2⟩
  obtain ⟨z0,z1⟩:=(ye hv (oD H) i).rng z (List.mem_of_getElem? hz)
  obtain ⟨l,es,hl,hp⟩:=O7 H z0 z1
  have es:kP (g.1,g.2) (a.1,a.2.1,a.2.2) (Dz z (a.2.1.length:Int)) (Int.tmod z (a.2.1.length:Int))=_:=es
  unfold gY
  simp only
  rw[if_pos (by simp only[decide_eq_true_eq];omega)]
  rw[show aR (bsS (nxN g a) (a.2.1.length*g.1.length) v i).2 (i:Int)=some z from by unfold aR;rw[if_pos (by omega)];exact hz];simp only[aa]
  rw[jb (by omega),es];simp only[aa]
  have h2:=W7 H hx (o1:=(bsS (nxN g a) (a.2.1.length*g.1.length) v i).1) (o2:=(bsS (nxN g a) (a.2.1.length*g.1.length) v i).2) (by rw[hV];exact hz) hl hp
  rw[hV] at h2
  rw[ah h2,ak (by omega)]) (by unfold gY;simp only;rw[if_neg (by simp;omega)]) (gD (by omega))
 have this:aC (gY g a) aP ((List.replicate (a.2.1.length*g.1.length) (-1)).set v.toNat 0,[v],0)=_:=this
 rw[ah this]
 simp only
 have:=wj hv (oD H) hE (a.2.1.length*g.1.length - K)
 rw[show K+(a.2.1.length*g.1.length - K)=a.2.1.length*g.1.length from by omega] at this
 unfold RKs
 rw[this]
end
end D
namespace D
open Go.RowKit
theorem Qx {t:Tok} (h:0<=ar t) (k:t.1=3):0<=t.2.1/\t.2.1<=8:=by
 unfold ar at h
 grind
section
variable {g:GrT} (G:GOk g) (hi:aQ g=some true) (hs:a6 g=some true)
include G hi hs
theorem O8 {x:Tr Tok} (h:WT x): ∀n m,(flat x).length<=n->(flat x).length<=m->(flat x).length<=1000000-> ∃r,be n x g=some r/\bP m g (flat x)=some r/\InR r:=by
 refine WT.ind (p:=fun x=> ∀n m,(flat x).length<=n->(flat x).length<=m->(flat x).length<=1000000-> ∃r,be n x g=some r/\bP m g (flat x)=some r/\InR r) ?_ ?_ ?_ h
 ·intro t e n m hn hm hl
  rw[sy] at hn hm hl⊢
  match n,m,hn,hm with
  | n+1,m+1,_,_ =>
   rw[be,bP]
   have:=(ep (A:=[]) (t:=t) (by simp)).1
   rw[List.nil_append] at this
   rw[this];simp only[lH,aa,kl]
   rcases fJ (show 0<=ar t by omega) with ⟨e',k⟩ | ⟨e',k⟩ | ⟨_,k | k | k⟩
   ·omega
   ·omega
   ·simp only[k,Int.reduceBEq,Bool.false_eq_true,if_false]
    exact ⟨[],rfl,rfl,InR.nil⟩
   ·simp only[k,Int.reduceBEq,if_true]
    rw[T2 G.n5,WX G.n5]
    exact ⟨_,rfl,rfl,zO G.n5⟩
   ·have hc:=Qx (show 0<=ar t by omega) k
    simp only[k,Int.reduceBEq,if_true,Bool.false_eq_true,if_false]
    rw[Vh G hi hs hc,WZ G hi hs hc]
    exact ⟨_,rfl,rfl,Qs G hi hs hc⟩
 ·intro t a e wa ih n m hn hm hl
  rw[rj] at hn hm hl⊢
  simp only[af,al,az] at hn hm hl
  match n,m,hn,hm with
  | n+1,m+1,hn,hm =>
   obtain ⟨ra,ia,sa,ha⟩:=ih n m (by omega) (by omega) (by omega)
   rw[be,bP]
   obtain ⟨l1,l2⟩:=ep (A:=flat a) (t:=t) (by omega)
   rw[l1,l2,Int.toNat_natCast,List.take_left];simp only[lH,aa,kl]
   rw[show aR [a] 0=some a from rfl];simp only[aa]
   rw[ia,sa];simp only[aa]
   rw[dX (by simp only[af,al,az];omega)];simp only[aa]
   rcases fJ (show 0<=ar t by omega) with ⟨e',k⟩ | ⟨_,k | k⟩ | ⟨e',k⟩
   ·omega
   ·simp only[k,Int.reduceBEq,if_true,Bool.false_eq_true,if_false]
    obtain ⟨r,e1,e2,hr⟩:=OT G.n5 ha G.n1
    rw[e1,e2]
    exact ⟨r,rfl,rfl,hr⟩
   ·have h7:=rG (show 0<=ar t by omega) k
    simp only[k,Int.reduceBEq,if_true,Bool.false_eq_true,if_false]
    obtain ⟨r,e1,e2,hr⟩:=OU G.n5 ha G.n1 t.2.2.1 (high:=t.2.2.2) ⟨by omega,by omega⟩
    rw[e1,e2]
    exact ⟨r,rfl,rfl,hr⟩
   ·omega
 ·intro t a b e wa wb iha ihb n m hn hm hl
  rw[lC] at hn hm hl⊢
  obtain ⟨p1,p2,p3,p4⟩:=oB (a:=a) (t:=t) wb hl
  simp only[af,al,az] at hn hm hl
  match n,m,hn,hm with
  | n+1,m+1,hn,hm =>
   obtain ⟨ra,ia,sa,ha⟩:=iha n m (by omega) (by omega) (by omega)
   obtain ⟨rb,ib,sb,hb⟩:=ihb n m (by have:=wa.pos;omega) (by have:=wa.pos;omega) (by omega)
   have la:=ha.len
   have lb:=hb.len
   rw[be,bP]
   obtain ⟨l1,l2⟩:=ep (A:=flat a++flat b) (t:=t) (by rw[af];omega)
   rw[l1,l2,p1];simp only[lH,aa,kl]
   rw[show aR [a,b] 0=some a from rfl,show aR [a,b] 1=some b from rfl];simp only[aa]
   rw[ia,ib];simp only[aa]
   rw[p2,dX (by simp only[af,al,az];omega)];simp only[aa]
   rw[dX (by simp only[af,al,az];omega),p3,p4];simp only[aa]
   rw[sa,sb];simp only[aa]
   rw[dX (by simp only[af,al,az];omega)];simp only[aa]
   rcases fJ (show 0<=ar t by omega) with ⟨_,k | k⟩ | ⟨e',k⟩ | ⟨e',k⟩
   ·simp only[k,Int.reduceBEq,if_true,Bool.false_eq_true,if_false]
    rw[Lu (by omega) (by omega),SN ha.str (by omega) (by omega)]
    exact ⟨_,rfl,rfl,qu ha hb⟩
   ·simp only[k,Int.reduceBEq,if_true,Bool.false_eq_true,if_false]
    rw[xP (by omega) (by omega),SM (by omega) (by omega)]
    exact ⟨_,rfl,rfl,xU ha hb⟩
   ·omega
   ·omega
end
theorem LJ {g:GrT} (hg:Data.sm g) {e:List Tok} (he:e.length<=1048576): ∃r:List Pr×Bool,dx g e=some r/\eF g e=some r/\InR r.1:=by
 obtain ⟨b,e1,k1⟩:=ON g (km hg.1).1 (km hg.2).1
 have e2:a6 g=some b:=(yf g).trans e1
 unfold dx eF
 simp only[kl]
 rw[e1,e2];simp only[aa]
 cases b with
 | false=>exact ⟨([],false),rfl,rfl,InR.nil⟩
 | true =>
  simp only[if_true]
  rw[sB he,xW he];simp only[aa]
  by_cases c:(decide (e.length<=24)&&isX e)=true
  ·rw[if_pos c,if_pos c]
   rw[ai] at c
   obtain ⟨x,hr,hw,hf⟩:=zP c.2
   have h24:e.length<=24:=of_decide_eq_true c.1
   have hfu:=kY
   rw[wh he,show sA e=x from by unfold sA;rw[hr]];simp only[aa]
   obtain ⟨r,e3,e4,hr⟩:=O8 (k1 rfl) e1 e2 hw dn dn (by rw[hf];omega) (by rw[hf];omega) (by rw[hf];omega)
   rw[hf] at e4
   rw[e3,e4]
   exact ⟨(r,true),rfl,rfl,hr⟩
  ·rw[if_neg c,if_neg c]
   exact ⟨([],false),rfl,rfl,InR.nil⟩
end D
namespace D
open Go.RowKit
abbrev Lg:=List Nat->Prop
def yA (A B:Lg):Lg:=fun w=> ∃u v,w=u++v/\A u/\B v
def IC (A:Lg):Nat->Lg
 | 0=>fun w=>w= []
 | n+1=>yA A (IC A n)
def Ij (A:Lg):Lg:=fun w=> ∃n,IC A n w
def opL (t:Tok):List Lg->Lg
 | [] =>fun w=>(t.1=2/\w= [])\/(t.1=3/\w= [t.2.1.toNat])
 | [A] =>fun w=>(t.1=6/\Ij A w)\/(t.1=7/\ ∃n:Nat,t.2.2.1<=(n:Int)/\(n:Int)<=t.2.2.2/\IC A n w)
 | [A,B] =>fun w=>(t.1=4/\yA A B w)\/(t.1=5/\(A w\/B w))
 | _=>fun _=>False
mutual
def LX:Tr Tok->Lg
 | .nil=>fun _=>False
 | .node t ks=>opL t (LXL ks)
def LXL:List (Tr Tok)->List Lg
 | [] =>[]
 | k::ks=>LX k::LXL ks
end
theorem LX0 (t:Tok):LX (.node t [])=opL t []:=by rw[LX,LXL]
theorem LX1 (t:Tok) (a:Tr Tok):LX (.node t [a])=opL t [LX a]:=by rw[LX,LXL,LXL]
theorem LX2 (t:Tok) (a b:Tr Tok):LX (.node t [a,b])=opL t [LX a,LX b]:=by rw[LX,LXL,LXL,LXL]
theorem LK {w:List Nat} :LX Ih w↔w= []:=by
 unfold Ih
 rw[LX0]
 constructor
 ·rintro (⟨-,h⟩ | ⟨h,-⟩)
  ·exact h
  ·exact absurd h (by decide)
 ·rintro rfl;exact .inl ⟨rfl,rfl⟩
theorem Qy {a b:Tr Tok} {w:List Nat} :LX (.node (4,0,0,0) [a,b]) w↔yA (LX a) (LX b) w:=by
 rw[LX2]
 constructor
 ·rintro (⟨-,h⟩ | ⟨h,-⟩)
  ·exact h
  ·exact absurd h (by decide)
 ·intro h;exact .inl ⟨rfl,h⟩
theorem Vr {a b:Tr Tok} {w:List Nat} :LX (.node (5,0,0,0) [a,b]) w↔LX a w\/LX b w:=by
 rw[LX2]
 constructor
 ·rintro (⟨h,-⟩ | ⟨-,h⟩)
  ·exact absurd h (by decide)
  ·exact h
 ·intro h;exact .inr ⟨rfl,h⟩
theorem Qz {x:Tr Tok} : ∀(h:Nat) (low:Int) (w:List Nat),low<=(h:Int)->(LX (yy x h low) w↔ ∃n:Nat,low<=(n:Int)/\n<=h/\IC (LX x) n w)
 | 0,low,w,hl=>by
  rw[yy,LK]
  constructor
  ·rintro rfl;exact ⟨0,by omega,aq _,rfl⟩
  ·rintro ⟨n,-,h2,h3⟩
   obtain rfl:n=0:=by omega
   exact h3
 | h+1,low,w,hl=>by
  have ih:=fun w=>Qz (x:=x) h (max 0 (low - 1)) w (by omega)
  have key:yA (LX x) (LX (yy x h (max 0 (low - 1)))) w↔ ∃n:Nat,low<=((n+1:Nat):Int)/\n<=h/\IC (LX x) (n+1) w:=by
   constructor
   ·rintro ⟨u,v,rfl,h1,h2⟩
    obtain ⟨n,h3,h4,h5⟩:=(ih v).1 h2
    exact ⟨n,by omega,h4,u,v,rfl,h1,h5⟩
   ·rintro ⟨n,h1,h2,u,v,rfl,h3,h4⟩
    exact ⟨u,v,rfl,h3,(ih v).2 ⟨n,by omega,h2,h4⟩⟩
  rw[yy]
  by_cases c:0<low
  ·rw[if_pos c,Qy,key]
   constructor
   ·rintro ⟨n,h1,h2,h3⟩
    exact ⟨n+1,h1,by omega,h3⟩
   ·rintro ⟨n,h1,h2,h3⟩
    match n,h1,h2,h3 with
    | 0,h1,_,_=>omega
    | n+1,h1,h2,h3=>exact ⟨n,h1,by omega,h3⟩
  ·rw[if_neg c,Vr,Qy,key,LK]
   constructor
   ·rintro (⟨n,h1,h2,h3⟩ | rfl)
    ·exact ⟨n+1,h1,by omega,h3⟩
    ·exact ⟨0,by omega,by omega,rfl⟩
   ·rintro ⟨n,h1,h2,h3⟩
    match n,h1,h2,h3 with
    | 0,_,_,h3=>exact .inr h3
    | n+1,h1,h2,h3=>exact .inl ⟨n,h1,by omega,h3⟩
theorem Vs {x:Tr Tok} (h:WT x):LX (nw x)=LX x:=by
 refine WT.ind (p:=fun x=>LX (nw x)=LX x) ?_ ?_ ?_ h
 ·intro t e
  rw[T4 (no7 (.inr e))]
 ·intro t a e wa ih
  rw[T3]
  rcases Ig e with ⟨k1,k2⟩ | ⟨k1,k2,k3⟩
  ·rw[if_neg (by omega),LX1,LX1,ih]
  ·rw[if_pos k3,LX1]
   have h7:=rG (show 0<=ar t by omega) k3
   funext w
   rw[Qz _ _ _ (by omega),ih]
   apply propext
   constructor
   ·rintro ⟨n,h1,h2,h3⟩
    exact .inr ⟨k3,n,h1,by omega,h3⟩
   ·rintro (⟨k,-⟩ | ⟨-,n,h1,h2,h3⟩)
    ·omega
    ·exact ⟨n,h1,by omega,h3⟩
 ·intro t a b e wa wb iha ihb
  rw[exp2 (no7 (.inl e)),LX2,LX2,iha,ihb]
end D
namespace D
open Go.RowKit
theorem XJ {a b:Int} :(a==b)=decide (a=b):=by rw[Bool.eq_iff_iff];simp
theorem EO (xs:List Int) (hl:xs.length<=1073741824):cr xs=some (pK xs):=by
 unfold cr
 by_cases h2:xs.length<2
 ·rw[if_pos (by simp;omega)]
  cases xs with
  | nil=>rfl
  | cons a l =>
   cases l with
   | nil=>rfl
   | cons b l=>simp only[al] at h2;omega
 rw[if_neg (by simp;omega)]
 have key:(aC (bG xs) aP 1=some (.ret (pK xs)))\/(∃s,aC (bG xs) aP 1=some (.brk s)/\pK xs=xs):=by
  obtain ⟨o,e,hQ⟩:=b9 (f:=bG xs) (fun t s=>s=((t+1:Nat):Int)/\pK (xs.take (t+1))=xs.take (t+1)) (fun o=>o= .ret (pK xs)\/ ∃s,o= .brk s/\pK xs=xs) (xs.length - 1) (fun t s ht hI=>by
   obtain ⟨rfl,hI⟩:=hI
   unfold bG
   by_cases h1:t+1<xs.length
   ·have hp:((t+1:Nat):Int) - 1=((t:Nat):Int):=by omega
    rw[eN h1,if_pos rfl,aW h1,bQ (n:=((t+1:Nat):Int) - 1) (by omega) (by omega),hp,aW (show t<xs.length by omega)]
    simp only[aa,XJ]
    have hn:=xQ (xs:=xs) (j:=t+1) (by omega) h1
    rw[hI] at hn
    simp only[Nat.add_sub_cancel] at hn
    by_cases he:xs[t+1] =xs[t]
    ·rw[if_pos (decide_eq_true he),uS (by omega),aa]
     rw[if_pos he.symm] at hn
     have hlt:(xs.take (t+1)).length=t+1:=by rw[aD];omega
     obtain ⟨s,e1,ys,rfl,k1,k2,k3,k4⟩:=dD (f:=bY xs ((t+1:Nat):Int)) (fun u s=> ∃ys:List Int,s=(((pK (xs.take (t+2+u))).length:Int),((u+1:Nat):Int),ys)/\ys.length=xs.length/\ys.take (pK (xs.take (t+2+u))).length=pK (xs.take (t+2+u))/\ys.drop (t+1+u)=xs.drop (t+1+u)/\(pK (xs.take (t+2+u))).length<=t+1+u) (xs.length - (t+2)) (fun u s hu hI=>by
      obtain ⟨ys,rfl,k1,k2,k3,k4⟩:=hI
      have hj:t+2+u<xs.length:=by clear k4 k2;omega
      have hj1:t+1+u<xs.length:=by clear k4 k2;omega
      have hj2:t+2+u<ys.length:=by clear k4 k2;omega
      have hj3:t+1+u<ys.length:=by clear k4 k2;omega
      have a1:(0+((t+1:Nat):Int))+((u+1:Nat):Int)=((t+2+u:Nat):Int):=by omega
      have a2:((u+1:Nat):Int) - 1=((u:Nat):Int):=by omega
      have a3:(0+((t+1:Nat):Int))+((u:Nat):Int)=((t+1+u:Nat):Int):=by omega
      unfold bY
      dsimp only
      rw[if_pos (by simp;omega),uS (by omega)]
      simp only[aa]
      rw[bQ (n:=((u+1:Nat):Int) - 1) (by omega) (by omega),a1,a2,a3,aW (xs:=ys) hj2,aW (xs:=ys) hj3,uS (by omega),v7 k3 (by omega) hj2 hj,v7 k3 (aq _) hj3 hj1]
      simp only[aa,XJ,kl]
      have e9:t+2+u - 1=t+1+u:=by clear k4 k2;omega
      have e8:0<t+2+u:=by clear k4 k2;omega
      have hnx:=xQ (xs:=xs) (j:=t+2+u) e8 hj
      simp only[e9] at hnx
      have hd:=CZ k3
      rw[show t+1+u+1=t+1+(u+1) from by omega] at hd
      rw[show t+2+(u+1)=t+2+u+1 from by omega,hnx]
      generalize pK (xs.take (t+2+u))=K at *
      by_cases hq:xs[t+2+u] =xs[t+1+u]
      ·rw[if_neg (by simpa using hq),if_pos hq.symm]
       simp only[aa]
       rw[ak (by omega)]
       exact ⟨_,rfl,ys,rfl,k1,k2,hd,by omega⟩
      ·rw[if_pos (by simpa using hq),if_neg (fun e=>hq e.symm),aW (xs:=ys) (show K.length<ys.length by omega)]
       simp only[aa]
       rw[ak (by omega),ak (by omega)]
       refine ⟨_,rfl,ys.set K.length xs[t+2+u],?_,by simpa using k1,?_,?_,?_⟩
       ·rw[af,List.length_singleton];rfl
       ·rw[af,List.length_singleton,Gt (by omega),k2]
       ·rw[set_drop (by omega)];exact hd
       ·rw[af,List.length_singleton];omega) (fun s hI=>by
      obtain ⟨ys,rfl,k1,k2,k3,k4⟩:=hI
      unfold bY
      rw[if_neg (by simp;omega)]) (s:=(((t+1:Nat):Int),1,xs)) ⟨xs,by rw[Nat.add_zero,hn,hlt];rfl,rfl,by rw[Nat.add_zero,hn,hlt],rfl,by rw[Nat.add_zero,hn,hlt];omega⟩ (np _ (by omega))
     refine .inr ⟨.ret (pK xs),?_,fun s' hh=>(by simp at hh),.inl rfl⟩
     rw[ah e1]
     have hall:xs.take (t+2+(xs.length - (t+2)))=xs:=List.take_of_length_le (by omega)
     rw[hall] at k2 k4⊢
     generalize pK xs=K at *
     have q0:K.length<=ys.length:=by omega
     have z1:((0:Int)+((K.length:Nat):Int)).toNat=K.length:=by omega
     have z2:((0:Int)+(((ys.length:Nat):Int) - 0)).toNat=ys.length:=by omega
     simp only[z1,z2]
     have zl:=CY (z:=(0:Int)) q0
     rw[uS (by omega),aa,uS (by omega),aa,uS (by rw[zl];omega),aa,zL q0,k2,List.drop_zero]
    ·rw[if_neg (by simpa using he),ak (by omega)]
     rw[if_neg (fun e=>he e.symm),<-List.take_succ_eq_append_getElem h1] at hn
     exact .inl ⟨by omega,_,rfl,rfl,hn⟩
   ·refine .inr ⟨.brk ((t+1:Nat):Int),?_,fun s' hh=>(by simp at hh),.inr ⟨_,rfl,?_⟩⟩
    ·rw[if_neg (by simp;omega)]
    ·rw[List.take_of_length_le (by omega)] at hI;exact hI) (s:=1) ⟨rfl,C2 1 (by omega) (fun q h1 h0=>by omega)⟩ (np _ (by omega))
  rcases hQ with rfl | ⟨s,rfl,h⟩
  ·exact .inl e
  ·exact .inr ⟨s,e,h⟩
 rcases key with e | ⟨s,e,h⟩
 ·rw[bK e]
 ·rw[ah e,h]
theorem yh (m:Nat): ∀k,(dq m k).Pairwise (fun a b=>a<b)
 | 0=>List.Pairwise.nil
 | k+1=>by
  rw[iF]
  split
  ·refine List.pairwise_append.2 ⟨yh m k,List.pairwise_singleton _ _,fun a ha b hb=>?_⟩
   obtain ⟨i,hi,_,rfl⟩:=jT.1 ha
   obtain rfl:b=(k:Int):=by simpa using hb
   omega
  ·exact yh m k
theorem Tg {X:List Int} {m:Nat} (h: ∀x∈X,∃i:Nat,i<30/\x=(i:Int)) (hm: ∀i:Nat,i<30->(m.testBit i=true↔(i:Int)∈X)):pK (X.mergeSort fun x y=>decide (x<=y))=dq m 30:=by
 have hp:(X.mergeSort fun x y=>decide (x<=y)).Pairwise (fun a b=>a<=b):=by
  have:=List.pairwise_mergeSort (le:=fun (x y:Int)=>decide (x<=y)) (fun a b c h1 h2=>by
   have h1:=of_decide_eq_true h1;have h2:=of_decide_eq_true h2
   exact decide_eq_true (by omega)) (fun a b=>by
   rw[Bool.or_eq_true,decide_eq_true_eq,decide_eq_true_eq];omega) X
  exact this.imp fun h=>of_decide_eq_true h
 refine C3 (Bd hp) (yh m 30) fun x=>?_
 rw[v8,List.mem_mergeSort,jT]
 constructor
 ·intro hx
  obtain ⟨i,hi,rfl⟩:=h x hx
  exact ⟨i,hi,(hm i hi).2 hx,rfl⟩
 ·rintro ⟨i,hi,hb,rfl⟩
  exact (hm i hi).1 hb
end D
namespace D
open Go.RowKit
theorem QA {p:Prop} [Decidable p] (h:p):chk p=some ():=by unfold chk;rw[if_pos h]
theorem W8 {m:Nat} (hm:m<2 ^ 30):xq (m:Int)=some (dq m 30):=by
 have hm':m<2 ^ 62:=aG hm (Nat.pow_le_pow_right (by decide) (by decide))
 unfold xq
 have:=aL (f:=kQ (m:Int)) (fun i=>(dq m i,(i:Int))) 30 (fun i hi=>by
  have hl:=kW m i
  unfold kQ
  simp only
  rw[if_pos (by simp;omega),QA (by omega),uT hm' (by omega),ak (by omega),iF];simp only[aa]
  by_cases b:m.testBit i=true
  ·rw[if_pos b,if_pos b,aJ (by simp;omega)];rfl
  ·rw[if_neg b,if_neg b];rfl) (by unfold kQ;simp) (by unfold aP;omega)
 have this:aC (kQ (m:Int)) aP (([] :List Int),0)=_:=this
 rw[ah this]
theorem EP (xs:List Int) (h:xs.length<=1000000):jJ xs=some (pK (xs.mergeSort fun x y=>decide (x<=y))):=by
 unfold jJ p7 eT R.OI
 rw[aJ (by simp;omega)];simp only[aa,List.nil_append]
 rw[QA (by omega)];simp only[aa]
 rw[EO _ (by rw[List.length_mergeSort];omega)];rfl
end D
namespace D
open Go.RowKit
def ER (a:AutT) (s v:Int):Bool:=decide (∃q∈dq (cS a s v) 30,nth a.2.1 q=true)
section
variable {a:AutT} {n:Nat} (V:VA a n) (hn:n<=12)
include V hn
theorem ES {s v:Int} (hs:0<=s/\s<n) (hv:0<=v/\v<=2):jI a (pL 1 s) v=some (ER a s v):=by
 obtain ⟨t,rfl⟩: ∃t:Nat,s=(t:Int):=⟨s.toNat,by omega⟩
 obtain ⟨e1,h1⟩:=ja V hn hs hv
 have hC:cS a (t:Int) v<2 ^ 30:=aG h1 (Nat.pow_le_pow_right (by decide) (by omega))
 unfold jI
 rw[nO (by omega),qq (Nat.pow_lt_pow_right (by decide) (by omega)),C4 (by omega)];simp only[aa]
 have hlen:=kW (cS a (t:Int) v) 30
 have h0:eE a v [(t:Int)] 0=some (if ER a (t:Int) v=true then .ret true else .nxt 1):=by
  unfold eE
  rw[if_pos (by simp),show aR [(t:Int)] 0=some (t:Int) from rfl];simp only[aa]
  have e1:dR (a.1,a.2.1,a.2.2) (t:Int) v=_:=e1
  rw[e1];simp only[aa]
  rw[qq hC];simp only[aa]
  rcases scan (f:=jd a (dq (cS a (t:Int) v) 30)) (dq (cS a (t:Int) v) 30) (fun q=> ¬nth a.2.1 q=true) true (by omega) (fun i hi=>by
   have hq:=lS V hn h1 _ (bB (xs:=dq (cS a (t:Int) v) 30) (i:=(i:Int)) (by omega) (by omega))
   unfold jd
   rw[if_pos (by simp;omega),aF (by omega) (by omega)];simp only[aa]
   rw[V.acc hq.1 hq.2,ak (by omega)];simp only[aa]
   cases nth a.2.1 (nth (dq (cS a (t:Int) v) 30) (i:Int)) <;> rfl) (by unfold jd;simp) with ⟨e,h⟩ | ⟨e,h⟩
  ·rw[ah e,if_neg (by unfold ER;rw[decide_eq_true_eq];rintro ⟨q,hq,hqa⟩;exact h q hq hqa)];rfl
  ·rw[bK e,if_pos (by
    unfold ER;rw[decide_eq_true_eq]
    by_cases c: ∃q∈dq (cS a (t:Int) v) 30,nth a.2.1 q=true
    ·exact c
    ·exact absurd (fun q hq hqa=>c ⟨q,hq,hqa⟩) h)]
 have h1':eE a v [(t:Int)] 1=some (.brk 1):=by
  unfold eE;rw[if_neg (by simp)]
 rcases Ic (f:=eE a v [(t:Int)]) 1 (fun _=> ¬ER a (t:Int) v=true) true (by decide) (fun i hi=>by
  obtain rfl:i=0:=by omega
  rw[show ((0:Nat):Int)=0 from rfl,h0]
  cases ER a (t:Int) v <;> rfl) h1' with ⟨e,h⟩ | ⟨e,h⟩
 ·rw[ah e]
  have:=h 0 (by decide)
  rw[Bool.not_eq_true] at this
  rw[this]
 ·rw[bK e]
  have:ER a (t:Int) v=true:=by
   cases hb:ER a (t:Int) v with
   | true=>rfl
   | false=>exact absurd (fun _ _=>by rw[hb];decide) h
  rw[this]
theorem Db {C:Nat} (hC:C<2 ^ n):aO (aC (fF a (C:Int)) aP 0) (fun r=>some r) (fun _=>some false)=some (decide (∃q∈dq C 30,nth a.2.1 q=true)):=by
 have hC':C<2 ^ 62:=aG hC (p62 (by omega))
 rcases Ic (f:=fF a (C:Int)) n (fun i=> ¬(C.testBit i=true/\nth a.2.1 (i:Int)=true)) true (by omega) (fun i hi=>by
  unfold fF
  rw[V.len,if_pos (by simp;omega),jb (by omega),uT hC' (by omega),V.acc (by omega) (by omega),ak (by omega)];simp only[aa]
  cases C.testBit i <;> cases nth a.2.1 (i:Int) <;> rfl) (by unfold fF;rw[V.len];simp) with ⟨e,h⟩ | ⟨e,h⟩
 ·rw[ah e,decide_eq_false]
  rintro ⟨q,hq,hqa⟩
  have hr:=lS V hn hC q hq
  obtain ⟨i,hi,hb,rfl⟩:=jT.1 hq
  exact h i (by omega) ⟨hb,hqa⟩
 ·rw[bK e,decide_eq_true]
  by_cases c: ∃q∈dq C 30,nth a.2.1 q=true
  ·exact c
  ·exact absurd (fun (i:Nat) (hi:i<n) (hh:C.testBit i=true/\nth a.2.1 (i:Int)=true)=>c ⟨(i:Int),jT.2 ⟨i,by omega,hh.1,rfl⟩,hh.2⟩) h
end
section
variable {g:GrT} {a:AutT} (H:GOOD g a)
include H
theorem LL {x s:Nat} (hx:x<g.1.length) (hs:s<a.2.1.length):kG g a (x:Int) (s:Int)=some (ER a (s:Int) (nth g.1 (x:Int))):=by
 have hv:=H.1.val _ (bB (xs:=g.1) (i:=(x:Int)) (by omega) (by omega))
 have ec:=C9 H.2.2 H.2.1 (s:=(s:Int)) ⟨by omega,by omega⟩ hv
 have hC:=(ja H.2.2 H.2.1 (s:=(s:Int)) ⟨by omega,by omega⟩ hv).2
 unfold kG
 rw[aF (by omega) (by omega)];simp only[aa]
 have ec:gi (a.1,a.2.1,a.2.2) (s:Int) (nth g.1 (x:Int))=_:=ec
 rw[ec];simp only[aa]
 have:=Db H.2.2 H.2.1 hC
 exact this
end
def Ti (g:GrT) (a:AutT) (R:List Int) (i:Nat):Bool:=decide (0<=nth R (i:Int))&&ER a ((i % a.2.1.length:Nat):Int) (nth g.1 ((i / a.2.1.length:Nat):Int))
def DB (g:GrT) (a:AutT) (R:List Int):Nat->List Int
 | 0=>[]
 | i+1=>if Ti g a R i=true then DB g a R i++ [((i / a.2.1.length:Nat):Int)] else DB g a R i
def ID (g:GrT) (a:AutT) (R:List Int):Nat->Nat
 | 0=>0
 | i+1=>if Ti g a R i=true then ID g a R i ||| 2 ^ (i / a.2.1.length) else ID g a R i
theorem Bq (g:GrT) (a:AutT) (R:List Int): ∀i,(DB g a R i).length<=i
 | 0=>by simp[DB]
 | i+1=>by
  have:=Bq g a R i
  rw[DB];split
  ·rw[af];simp;omega
  ·omega
theorem LM {x:Nat} {n:Nat} (hx:x<=1000000):Dz (x:Int) (n:Int)=((x / n:Nat):Int)/\Int.tmod (x:Int) (n:Int)=((x % n:Nat):Int):=by
 refine ⟨?_,?_⟩
 ·unfold Dz
  rw[Int.tdiv_eq_ediv_of_nonneg (Int.natCast_nonneg _),<-Int.natCast_ediv,tJ (by have:=Nat.div_le_self x n;omega)]
 ·rw[Int.tmod_eq_emod_of_nonneg (Int.natCast_nonneg _),Int.natCast_emod]
section
variable {g:GrT} {a:AutT} (H:GOOD g a) {R:List Int} (hR:R.length=a.2.1.length*g.1.length)
include H
theorem GK {i:Nat} (hi:i<a.2.1.length*g.1.length):i / a.2.1.length<g.1.length/\i % a.2.1.length<a.2.1.length/\0<a.2.1.length/\g.1.length<=5:=by
 obtain ⟨k1,k2⟩:=H.divmod (x:=(i:Int)) (by omega) (by omega)
 exact ⟨k1,k2,H.2.2.pos,H.1.n5⟩
theorem ET: ∀i,i<=a.2.1.length*g.1.length->ID g a R i<2 ^ 5
 | 0,_=>by simp[ID]
 | i+1,hi=>by
  have h:=ET i (by omega)
  obtain ⟨k1,k2,k3,k4⟩:=GK H (i:=i) (by omega)
  rw[ID];split
  ·exact tP h (by omega)
  ·exact h
theorem Br: ∀i,i<=a.2.1.length*g.1.length-> ∀j:Nat,((ID g a R i).testBit j=true↔(j:Int)∈DB g a R i)
 | 0,_,j=>by simp[ID,DB]
 | i+1,hi,j=>by
  have h:=Br i (by omega) j
  rw[ID,DB];split
  ·rw[kK,Bool.or_eq_true,h,List.mem_append,List.mem_singleton,decide_eq_true_eq]
   constructor
   ·rintro (h | h)
    ·exact .inl h
    ·exact .inr (by rw[h])
   ·rintro (h | h)
    ·exact .inl h
    ·exact .inr (Int.ofNat_inj.1 h).symm
  ·exact h
theorem EU: ∀i,i<=a.2.1.length*g.1.length-> ∀x∈DB g a R i,∃j:Nat,j<30/\x=(j:Int)
 | 0,_,x,hx=>by cases hx
 | i+1,hi,x,hx=>by
  obtain ⟨k1,k2,k3,k4⟩:=GK H (i:=i) (by omega)
  rw[DB] at hx;split at hx
  ·rcases aI hx with hx | hx
   ·exact EU i (by omega) x hx
   ·exact ⟨_,by omega,au hx⟩
  ·exact EU i (by omega) x hx
include hR
theorem Vt:aC (iY g a R) aP (0,0)=some (.brk ((ID g a R (a.2.1.length*g.1.length):Int),((a.2.1.length*g.1.length:Nat):Int))):=by
 have hN:=nN H.1 H.2.2 H.2.1
 have:=aL (f:=iY g a R) (fun i=>((ID g a R i:Int),(i:Int))) (a.2.1.length*g.1.length) (fun i hi=>by
  obtain ⟨k1,k2,k3,k4⟩:=GK H hi
  obtain ⟨q1,q2⟩:=LM (x:=i) (n:=a.2.1.length) (by omega)
  have hs:=ET H (R:=R) i (by omega)
  unfold iY
  simp only
  rw[if_pos (by simp only[decide_eq_true_eq];omega),aF (by omega) (by omega),jb (by omega),q1,q2,ak (by omega)];simp only[aa]
  have ea:kG (g.1,g.2) (a.1,a.2.1,a.2.2) ((i / a.2.1.length:Nat):Int) ((i % a.2.1.length:Nat):Int)=_:=LL H k1 k2
  rw[ea,ID];simp only[aa]
  unfold Ti
  by_cases c:0<=nth R (i:Int)
  ·rw[if_pos (by simpa using c),decide_eq_true c,Bool.true_and]
   cases ER a ((i % a.2.1.length:Nat):Int) (nth g.1 ((i / a.2.1.length:Nat):Int)) with
   | false=>rfl
   | true =>
    simp only[if_true]
    rw[jb (Int.natCast_nonneg _),nO (by omega),zM (aG hs (Nat.pow_le_pow_right (by decide) (by decide))) (Nat.pow_lt_pow_right (by decide) (by omega))];rfl
  ·rw[if_neg (by simpa using c),decide_eq_false c,Bool.false_and];rfl) (by unfold iY;simp only;rw[if_neg (by simp;omega)]) (gD (by omega))
 exact this
theorem Vu:aC (eK g a R) aP (([] :List Int),0)=some (.brk (DB g a R (a.2.1.length*g.1.length),((a.2.1.length*g.1.length:Nat):Int))):=by
 have hN:=nN H.1 H.2.2 H.2.1
 have:=aL (f:=eK g a R) (fun i=>(DB g a R i,(i:Int))) (a.2.1.length*g.1.length) (fun i hi=>by
  obtain ⟨k1,k2,k3,k4⟩:=GK H hi
  obtain ⟨q1,q2⟩:=LM (x:=i) (n:=a.2.1.length) (by omega)
  have hl:=Bq g a R i
  have hv:=H.1.val _ (bB (xs:=g.1) (i:=((i / a.2.1.length:Nat):Int)) (Int.natCast_nonneg _) (Int.ofNat_lt.2 k1))
  unfold eK
  simp only
  rw[if_pos (by simp only[decide_eq_true_eq];omega),aF (by omega) (by omega),jb (by omega),q1,q2,ak (by omega),jb (Int.natCast_nonneg _)];simp only[aa]
  have ea:jI (a.1,a.2.1,a.2.2) (pL 1 ((i % a.2.1.length:Nat):Int)) (nth g.1 ((i / a.2.1.length:Nat):Int))=_:=ES H.2.2 H.2.1 ⟨Int.natCast_nonneg _,Int.ofNat_lt.2 k2⟩ hv
  rw[aF (xs:=g.1) (i:=((i / a.2.1.length:Nat):Int)) (Int.natCast_nonneg _) (Int.ofNat_lt.2 k1)];simp only[aa]
  rw[ea,DB];simp only[aa]
  unfold Ti
  by_cases c:0<=nth R (i:Int)
  ·rw[if_pos (by simpa using c),decide_eq_true c,Bool.true_and]
   cases ER a ((i % a.2.1.length:Nat):Int) (nth g.1 ((i / a.2.1.length:Nat):Int)) with
   | false=>rfl
   | true =>
    simp only[if_true]
    rw[aJ (by simp;omega)];rfl
  ·rw[if_neg (by simpa using c),decide_eq_false c,Bool.false_and];rfl) (by unfold eK;simp only;rw[if_neg (by simp;omega)]) (gD (by omega))
 exact this
end
def Dc (g:GrT) (a:AutT) (x:Int):List Int:=dq (ID g a (RKs g a (x*(a.2.1.length:Int)+a.1)) (a.2.1.length*g.1.length)) 30
theorem wk (g:GrT) (a:AutT) (x:Int):(Dc g a x).length<=30:=kW _ _
section
variable {g:GrT} {a:AutT} (H:GOOD g a) {x:Int} (hx:0<=x/\x<g.1.length)
include H hx
theorem O9:oZ g a x=some (Dc g a x):=by
 unfold oZ
 have e:mV (g.1,g.2) (a.1,a.2.1,a.2.2) x=_:=Tf H hx
 have hR:=GJ H hx
 rw[e];simp only[aa]
 rw[ah (Vt H hR),W8 (aG (ET H _ (aq _)) (Nat.pow_le_pow_right (by decide) (by decide)))];rfl
theorem QB (e:bC g a [x] =some true):dV g a x=some (Dc g a x):=by
 have hN:=nN H.1 H.2.2 H.2.1
 have hp:=H.2.2.pos
 have h1:=H.1.n1
 have hpp:0<a.2.1.length*g.1.length:=Nat.mul_pos hp (by omega)
 unfold dV
 have e:fD (g.1,g.2) (a.1,a.2.1,a.2.2) x=_:=Vq H hx e
 have hR:=GJ H hx
 rw[e];simp only[aa]
 have hl:=Bq g a (RKs g a (x*(a.2.1.length:Int)+a.1)) (a.2.1.length*g.1.length)
 rw[if_neg (by simp only[decide_eq_true_eq];omega),ah (Vu H hR),EP _ (by simp only;omega)];simp only[aa]
 unfold Dc
 rw[Tg (EU H _ (aq _)) fun i _=>Br H _ (aq _) i]
end
theorem GM (g:GrT) (a:AutT) (hg:Data.sm g) (ha:Data.sm a): ∃b,jn g a 0 0=some b/\bC g a [] =some b/\(b=true->GOOD g a/\ ∀x:Int,0<=x->x<g.1.length->bC g a [x] =some true):=by
 obtain ⟨b,c,e1,e2,e3,e4,k1,k2⟩:=Tc g a hg ha
 obtain ⟨b',es,ei,k⟩:=LI g a hg ha 0
 have e2':aQ (g.1,g.2)=_:=e2
 have e4':bF (a.1,a.2.1,a.2.2)=_:=e4
 have hl:=(km hg.1).1
 have ew:IntKind.i64.wrap ((g.1.length:Int) - 1)=(g.1.length:Int) - 1:=bQ (by omega) (by omega)
 have en:bC g a [] =some (b&&c):=by
  unfold bC
  have:aC (bX g []) aP 0=some (.brk 0):=by
   have:=aL (f:=bX g []) (fun _=>(0:Int)) 0 (fun i hi=>absurd hi (Nat.not_lt_zero _)) (by unfold bX;simp) (by unfold aP;omega)
   exact this
  rw[ah this,e2',e4']
  cases b <;> cases c <;> rfl
 have e0: ∀x:Int,bC g a [x] =if 0<=x/\x<=(g.1.length:Int) - 1 then some (b&&c) else some false:=fun x=>by
  unfold bC
  rcases Ic (f:=bX g [x]) 1 (fun _=>0<=x/\x<=(g.1.length:Int) - 1) false (by decide) (fun i hi=>by
   obtain rfl:i=0:=by omega
   unfold bX
   rw[if_pos (by simp),show aR [x] ((0:Nat):Int)=some x from rfl];simp only[aa]
   rw[Gz,ew];simp only[aa,decide_eq_true_eq]
   split <;> rfl) (by unfold bX;simp) with ⟨k,h⟩ | ⟨k,h⟩
  ·rw[ah k,e2',e4',if_pos (h 0 (by decide))]
   cases b <;> cases c <;> rfl
  ·rw[bK k,if_neg (fun c=>h fun _ _=>c)]
 have hbb:b'=(b&&c):=by
  have h:=e0 0
  rw[ei] at h
  by_cases c0:(0:Int)<=0/\(0:Int)<=(g.1.length:Int) - 1
  ·rw[if_pos c0] at h;exact ae h
  ·rw[if_neg c0] at h
   have:b'=false:=ae h
   rw[this]
   cases b with
   | false=>rfl
   | true=>have:=(k1 rfl).n1;omega
 refine ⟨b',es,by rw[en,hbb],fun hb=>⟨(k hb).1,fun x h0 h1=>?_⟩⟩
 rw[e0,if_pos ⟨h0,by omega⟩,<-hbb,hb]
def yT (g:GrT) (a:AutT):Nat->List (Int×Int)
 | 0=>[]
 | x+1=>yT g a x++(Dc g a (x:Int)).map fun y=>((x:Int),y)
theorem tV (g:GrT) (a:AutT): ∀x,(yT g a x).length<=30*x
 | 0=>by simp[yT]
 | x+1=>by
  have h1:=tV g a x
  have h2:=wk g a (x:Int)
  rw[yT,af,List.length_map];omega
theorem GN {f:Yq2×Int->Option Yq6 } {l:List Int} {x:Int} {o:List (Int×Int)} (hl:l.length<=30) (ho:o.length<=1000)
  (hf: ∀(o:List (Int×Int)) (j:Nat),j<l.length->o.length<=2000->f (o,(j:Int))=some (.nxt (o++ [(x,nth l (j:Int))],((j+1:Nat):Int)))) (he: ∀o,f (o,(l.length:Int))=some (.brk (o,(l.length:Int)))) :
  aC f aP (o,0)=some (.brk (o++l.map fun y=>(x,y),(l.length:Int))):=by
 have:=aL (f:=f) (fun j=>(o++(l.take j).map fun y=>(x,y),(j:Int))) l.length (fun j hj=>by
  rw[hf _ j hj (by rw[af,List.length_map,aD];omega),sx hj,aK,aj];rfl) (he _) (gD (by omega))
 rw[List.take_length] at this
 simpa using this
theorem Pa (g:GrT) (a:AutT) (hg:Data.sm g) (ha:Data.sm a): ∃(b:Bool) (l:List (Int×Int)),bC g a [] =some b/\nJ g a=some l/\iX g a=some l/\l.length<=150/\(b=false->l= [])/\(b=true->GOOD g a/\l=yT g a g.1.length):=by
 obtain ⟨b,es,ei,hb⟩:=GM g a hg ha
 refine ⟨b,?_⟩
 have ei0:=ei
 have es:jn (g.1,g.2) (a.1,a.2.1,a.2.2) 0 0=_:=es
 have ei:bC (g.1,g.2) (a.1,a.2.1,a.2.2) [] =_:=ei
 have hl:=(km hg.1).1
 unfold nJ iX
 rw[ei];simp only[aa]
 cases b with
 | false =>
  refine ⟨[],(by first | exact ei0 | trivial),?_,rfl,by decide,fun _=>rfl,fun h=>by cases h⟩
  have:=aL (f:=cW g a) (fun _=>(([] :List (Int×Int)),(0:Int))) 0 (fun i hi=>absurd hi (Nat.not_lt_zero _)) (by
   unfold cW
   rw[es];simp only[aa,Bool.false_eq_true,if_false]
   split <;> rfl) (by unfold aP;omega)
  rw[ah this]
 | true =>
  obtain ⟨H,hok⟩:=hb rfl
  have h5:=H.1.n5
  refine ⟨yT g a g.1.length,(by first | exact ei0 | trivial),?_,?_,by have:=tV g a g.1.length;omega,(fun h=>by cases h),fun _=>⟨H,rfl⟩⟩
  ·have:=aL (f:=cW g a) (fun x=>(yT g a x,(x:Int))) g.1.length (fun x hx=>by
    have h1:=tV g a x
    have h2:=wk g a (x:Int)
    unfold cW
    simp only
    have ef:oZ (g.1,g.2) (a.1,a.2.1,a.2.2) (x:Int)=_:=O9 H (x:=(x:Int)) ⟨by omega,by omega⟩
    rw[if_pos (by simp only[decide_eq_true_eq];omega),es,ef];simp only[aa,if_true]
    rw[ah (GN (x:=(x:Int)) (l:=Dc g a (x:Int)) h2 (by omega) (fun o j hj ho=>by
     unfold kg
     simp only
     rw[if_pos (by simp;omega),aF (by omega) (by omega)];simp only[aa]
     rw[aJ (by simp;omega),ak (by omega)];rfl) (fun o=>by unfold kg;simp)),ak (by omega)]
    rfl) (by unfold cW;simp) (gD (by omega))
   have this:aC (cW g a) aP (([] :List (Int×Int)),0)=_:=this
   rw[ah this]
  ·simp only[if_true]
   have:=aL (f:=fE g a) (fun x=>(yT g a x,(x:Int))) g.1.length (fun x hx=>by
    have h1:=tV g a x
    have h2:=wk g a (x:Int)
    unfold fE
    simp only
    have ef:dV (g.1,g.2) (a.1,a.2.1,a.2.2) (x:Int)=_:=QB H (x:=(x:Int)) ⟨by omega,by omega⟩ (hok _ (by omega) (by omega))
    rw[if_pos (by simp only[decide_eq_true_eq];omega),ef];simp only[aa]
    rw[ah (GN (x:=(x:Int)) (l:=Dc g a (x:Int)) h2 (by omega) (fun o j hj ho=>by
     unfold j9
     simp only
     rw[if_pos (by simp;omega),aF (by omega) (by omega)];simp only[aa]
     rw[aJ (by simp;omega),ak (by omega)];rfl) (fun o=>by unfold j9;simp)),ak (by omega)]
    rfl) (by unfold fE;simp) (gD (by omega))
   have this:aC (fE g a) aP (([] :List (Int×Int)),0)=_:=this
   rw[ah this]
theorem tW {g:GrT} {a:AutT} {p:Int×Int} : ∀N,p∈yT g a N↔ ∃x:Nat,x<N/\p.1=(x:Int)/\p.2∈Dc g a (x:Int)
 | 0=>by simp[yT]
 | N+1=>by
  rw[yT,List.mem_append,tW N,List.mem_map]
  constructor
  ·rintro (⟨x,h1,h2⟩ | ⟨y,h1,rfl⟩)
   ·exact ⟨x,by omega,h2⟩
   ·exact ⟨N,by omega,rfl,h1⟩
  ·rintro ⟨x,h1,h2,h3⟩
   by_cases c:x=N
   ·subst c
    exact .inr ⟨p.2,h3,Prod.ext h2.symm rfl⟩
   ·exact .inl ⟨x,by omega,h2,h3⟩
end D
namespace D
open Go.RowKit
structure Dst (N:Nat) (nx:Int->Int->Prop) (src:Int->Prop) (o:List Int):Prop where
 len:o.length=N
 rng: ∀t:Int,0<=t->t<N-> -1<=nth o t
 zero: ∀t:Int,0<=t->t<N->(nth o t=0↔src t)
 pred: ∀t:Int,0<=t->t<N->0<nth o t-> ∃u:Int,0<=u/\u<N/\nx u t/\nth o u=nth o t - 1
 next: ∀u t:Int,0<=u->u<N->0<=t->t<N->nx u t->0<=nth o u->0<=nth o t/\nth o t<=nth o u+1
def cntN (o:List Int):Nat:=o.countP fun x=>decide (0<=x)
theorem LN (o:List Int):cntN o<=o.length:=List.countP_le_length
theorem GO {o:List Int} {k:Int} {v:Int} (h0:0<=k) (h1:k<o.length) (hk:nth o k<0) (hv:0<=v):cntN (o.set k.toNat v)=cntN o+1:=by
 have hl:k.toNat<o.length:=by omega
 have e:nth o k=o[k.toNat]:=by
  have:=bM (xs:=o) (i:=k.toNat) hl
  rwa [show ((k.toNat:Nat):Int)=k by omega] at this
 unfold cntN
 rw[List.countP_set hl,<-e,if_neg (by simpa using hk),if_pos (by simpa using hv)];omega
structure DI (N:Nat) (nx:Int->List Int) (src:Int->Prop) (Q o:List Int) (i:Nat) (b:Int):Prop where
 len:o.length=N
 q: ∀t∈Q,(0<=t/\t<N)/\0<=nth o t
 rng: ∀t:Int,0<=t->t<N-> -1<=nth o t/\nth o t<=b
 zero: ∀t:Int,0<=t->t<N->(nth o t=0↔src t)
 pred: ∀t:Int,0<=t->t<N->0<nth o t-> ∃u:Int,0<=u/\u<N/\t∈nx u/\nth o u=nth o t - 1
 closed: ∀u:Int,0<=u->u<N->0<=nth o u->u∈Q\/ ∀t∈nx u,0<=nth o t/\nth o t<=nth o u+1
 sorted:Q.Pairwise fun x y=>nth o x<=nth o y
 span: ∀h:Int,Q.head? =some h-> ∀t:Int,0<=t->t<N->nth o t<=nth o h+1
 all:i+Q.length=cntN o
section
variable {N:Nat} {nx:Int->List Int} {src:Int->Prop} (hn: ∀x:Int,0<=x->x<N-> ∀y∈nx x,0<=y/\y<N)
include hn
theorem DI.turn {s k:Int} {Q o:List Int} {i:Nat} {b:Int} (H:DI N nx src (s::Q) o i b) (hk:k∈nx s) (hb:nth o k<0) (hs:nth o s+1<=b):DI N nx src (s::(Q++ [k])) (o.set k.toNat (nth o s+1)) i b:=by
 obtain ⟨⟨s0,s1⟩,sm⟩:=H.q s (List.mem_cons_self ..)
 obtain ⟨k0,k1⟩:=hn s s0 s1 k hk
 have hl:=H.len
 have hk':nth (o.set k.toNat (nth o s+1)) k=nth o s+1:=eO k0 (by omega)
 have ho: ∀t,0<=t->0<=nth o t->nth (o.set k.toNat (nth o s+1)) t=nth o t:=fun t t0 ht=>fI k0 t0 (by rintro rfl;omega)
 have hne: ∀t,0<=t->k≠t->nth (o.set k.toNat (nth o s+1)) t=nth o t:=fun t t0 e=>fI k0 t0 e
 have hcase: ∀t,0<=t->(t=k/\nth (o.set k.toNat (nth o s+1)) t=nth o s+1)\/(k≠t/\nth (o.set k.toNat (nth o s+1)) t=nth o t):=fun t t0=>by
  by_cases e:k=t
  ·subst e;exact .inl ⟨rfl,hk'⟩
  ·exact .inr ⟨e,hne t t0 e⟩
 have hsp: ∀t:Int,0<=t->t<N->nth o t<=nth o s+1:=H.span s rfl
 refine ⟨by rw[List.length_set];exact hl,fun t ht=>?_,fun t t0 t1=>?_,fun t t0 t1=>?_,fun t t0 t1 ht=>?_,fun u u0 u1 hu=>?_,?_,fun h hh t t0 t1=>?_,?_⟩
 ·rcases ay ht with rfl | ht
  ·exact ⟨⟨s0,s1⟩,by rw[ho _ s0 sm];exact sm⟩
  ·rcases aI ht with ht | ht
   ·obtain ⟨⟨u0,u1⟩,u2⟩:=H.q t (aZ _ ht)
    exact ⟨⟨u0,u1⟩,by rw[ho _ u0 u2];exact u2⟩
   ·obtain rfl:=au ht
    exact ⟨⟨k0,k1⟩,by rw[hk'];omega⟩
 ·have:=H.rng t t0 t1
  rcases hcase t t0 with ⟨-,e⟩ | ⟨-,e⟩ <;> rw[e] <;> omega
 ·rcases hcase t t0 with ⟨rfl,e⟩ | ⟨-,e⟩
  ·rw[e]
   have:=H.zero t t0 t1
   constructor
   ·intro h;omega
   ·intro h;have:=this.2 h;omega
  ·rw[e];exact H.zero t t0 t1
 ·rcases hcase t t0 with ⟨rfl,e⟩ | ⟨-,e⟩
  ·exact ⟨s,s0,s1,hk,by rw[e,ho s s0 sm];omega⟩
  ·rw[e] at ht⊢
   obtain ⟨u,u0,u1,h1,h2⟩:=H.pred t t0 t1 ht
   exact ⟨u,u0,u1,h1,by rw[ho u u0 (by omega)];exact h2⟩
 ·rcases hcase u u0 with ⟨rfl,e⟩ | ⟨-,e⟩
  ·exact .inl (aZ _ (List.mem_append.2 (.inr (List.mem_singleton.2 rfl))))
  ·rw[e] at hu⊢
   rcases H.closed u u0 u1 hu with h | h
   ·refine .inl ?_
    rcases ay h with rfl | h
    ·exact List.mem_cons_self ..
    ·exact aZ _ (List.mem_append.2 (.inl h))
   ·refine .inr fun t ht=>?_
    have h2:=h t ht
    have ht0:=hn u u0 u1 t ht
    rw[ho t ht0.1 h2.1];exact h2
 ·have hs':=H.sorted
  rw[show s::(Q++ [k])=(s::Q)++ [k] from rfl]
  refine List.pairwise_append.2 ⟨hs'.imp_of_mem fun {x y} hx hy h=>?_,List.pairwise_singleton _ _,fun x hx y hy=>?_⟩
  ·rw[ho x (H.q x hx).1.1 (H.q x hx).2,ho y (H.q y hy).1.1 (H.q y hy).2];exact h
  ·obtain rfl:=au hy
   rw[hk',ho x (H.q x hx).1.1 (H.q x hx).2]
   exact hsp x (H.q x hx).1.1 (H.q x hx).1.2
 ·obtain rfl:s=h:=by simpa using hh
  rw[ho s s0 sm]
  rcases hcase t t0 with ⟨-,e⟩ | ⟨-,e⟩ <;> rw[e]
  ·omega
  ·exact hsp t t0 t1
 ·have:=H.all
  rw[GO k0 (by omega) hb (by omega)]
  simp at this⊢
  omega
theorem Pb (hN:N<=1000) (hl: ∀x,(nx x).length<=100000) {s:Int} {Q o:List Int} {i:Nat} {b:Int} (hb:b<=1000000) (H:DI N nx src (s::Q) o i b) (hs:nth o s+1<=b) :
  ∃Q' o',aC (dI (nx s)) aP (s::Q,0,o)=some (.brk (s::Q',((nx s).length:Int),o'))/\DI N nx src (s::Q') o' i b/\nth o' s=nth o s/\ ∀t∈nx s,0<=nth o' t:=by
 obtain ⟨⟨s0,s1⟩,sm⟩:=H.q s (List.mem_cons_self ..)
 have hls:=hl s
 obtain ⟨st,e,Q',o',rfl,H',hs',hp⟩:=dD (f:=dI (nx s)) (fun j st=> ∃Q' o',st=(s::Q',(j:Int),o')/\DI N nx src (s::Q') o' i b/\nth o' s=nth o s/\ ∀t∈(nx s).take j,0<=nth o' t) (nx s).length (by
  rintro j st hj ⟨Q1,o1,rfl,H1,e1,hp⟩
  have hk:=List.getElem_mem hj
  obtain ⟨k0,k1⟩:=hn s s0 s1 _ hk
  have hl1:=H1.len
  have hall:=H1.all
  have hc:=LN o1
  unfold dI
  simp only
  rw[eN hj,if_pos rfl,aW hj];simp only[aa,ak (show j<9223372036854775807 by omega)]
  rw[aF k0 (by omega),show aR (s::Q1) 0=some s from rfl];simp only[aa]
  rw[aF s0 (by omega),e1];simp only[aa]
  rw[bQ (by omega) (by omega),aJ (by simp at hall⊢;omega)];simp only[aa]
  by_cases c:nth o1 (nx s)[j] < 0
  ·rw[if_pos (decide_eq_true c)]
   have H2:=H1.turn hn hk c (by omega)
   rw[e1] at H2
   refine ⟨_,rfl,Q1++ [(nx s)[j]],o1.set (nx s)[j].toNat (nth o s+1),rfl,H2,?_,fun t ht=>?_⟩
   ·rw[fI k0 s0 (by intro e;rw[e] at c;omega)];exact e1
   ·rw[List.take_succ_eq_append_getElem hj] at ht
    rcases aI ht with ht | ht
    ·have h3:=hp t ht
     have ht0:=hn s s0 s1 t (List.mem_of_mem_take ht)
     rw[fI k0 ht0.1 (by intro e;rw[e] at c;omega)];exact h3
    ·obtain rfl:=au ht
     rw[eO k0 (by omega)];omega
  ·rw[if_neg (by simpa using c)]
   refine ⟨_,rfl,Q1,o1,rfl,H1,e1,fun t ht=>?_⟩
   rw[List.take_succ_eq_append_getElem hj] at ht
   rcases aI ht with ht | ht
   ·exact hp t ht
   ·obtain rfl:=au ht
    omega) (by
  rintro st ⟨Q1,o1,rfl,-⟩
  unfold dI
  simp only
  rw[eU];rfl) (s:=(s::Q,0,o)) ⟨Q,o,rfl,H,rfl,fun t ht=>by simp at ht⟩ (gD (by omega))
 rw[List.take_of_length_le (aq _)] at hp
 exact ⟨Q',o',e,H',hs',hp⟩
theorem LO (hN:N<=1000) (hl: ∀x,(nx x).length<=100000) {Q o:List Int} (H:DI N nx src Q o 0 0) :
  ∃o',aC (eJ (rm N fun z=>nx (z:Int))) aP (Q,o)=some (.brk ([],o'))/\Dst N (fun u t=>t∈nx u) src o':=by
 obtain ⟨r,e,o',rfl,hD⟩:=b9 (f:=eJ (rm N fun z=>nx (z:Int))) (fun i st=>DI N nx src st.1 st.2 i (i:Int)) (fun r=> ∃o',r= .brk ([],o')/\Dst N (fun u t=>t∈nx u) src o') N (s:=(Q,o)) (by
  rintro i ⟨Q,o⟩ hi H
  have H:DI N nx src Q o i (i:Int):=H
  unfold eJ
  simp only
  cases Q with
  | nil =>
   right
   refine ⟨_,by rw[if_neg (by simp)],fun s' e=>(by cases e),o,rfl,H.len,fun t t0 t1=>(H.rng t t0 t1).1,H.zero,H.pred,fun u t u0 u1 t0 t1 h hu=>?_⟩
   rcases H.closed u u0 u1 hu with h1 | h1
   ·cases h1
   ·exact h1 t h
  | cons s Q =>
   left
   have hall:=H.all
   have hc:=LN o
   have hlen:=H.len
   obtain ⟨⟨s0,s1⟩,sm⟩:=H.q s (List.mem_cons_self ..)
   have hrs:=H.rng s s0 s1
   simp at hall
   refine ⟨by omega,?_⟩
   have H0:DI N nx src (s::Q) o i ((i+1:Nat):Int):= { H with rng:=fun t t0 t1=>by have:=H.rng t t0 t1;omega }
   obtain ⟨Q',o',e,H',hs',hp⟩:=Pb hn hN hl (by omega) H0 (by omega)
   obtain ⟨z,rfl⟩: ∃z:Nat,s=(z:Int):=⟨_,(Int.toNat_of_nonneg s0).symm⟩
   rw[if_pos (by simp),show aR ((z:Int)::Q) 0=some (z:Int) from rfl];simp only[aa]
   rw[sw (by omega)];simp only[aa]
   rw[ah e];simp only
   rw[jb (by simp;omega)];simp only[aa]
   have hsp:=H'.span _ rfl
   refine ⟨_,rfl,H'.len,fun t ht=>H'.q t (aZ _ ht),H'.rng,H'.zero,H'.pred,fun u u0 u1 hu=>?_,(List.pairwise_cons.1 H'.sorted).2,fun h hh t t0 t1=>?_,?_⟩
   ·rcases H'.closed u u0 u1 hu with h | h
    ·rcases ay h with rfl | h
     ·refine .inr fun t ht=>⟨hp t ht,?_⟩
      have ht0:=hn _ s0 s1 t ht
      exact hsp t ht0.1 ht0.2
     ·exact .inl h
    ·exact .inr h
   ·have h1:=(List.pairwise_cons.1 H'.sorted).1 h (by
     have hh:Q'.head? =some h:=hh
     exact List.mem_of_head? hh)
    have:=hsp t t0 t1
    show nth o' t<=nth o' h+1
    omega
   ·have:=H'.all
    simp at this⊢
    omega) H (gD (by omega))
 exact ⟨o',e,hD⟩
omit hn in
theorem EV {vs:List Int} (hN:N<=1000) (hv: ∀v∈vs,0<=v/\v<N) (hd:vs.Nodup) :
  ∃o,aC (dH vs) aP ([],0,List.replicate N (-1))=some (.brk (vs,(vs.length:Int),o))/\DI N nx (· ∈ vs) vs o 0 0:=by
 have hle:vs.length<=N:=by
  have:=hd.length_le_of_subset (l₂:=(List.range N).map fun i:Nat=>(i:Int)) (fun x hx=>by
   obtain ⟨h0,h1⟩:=hv x hx
   exact List.mem_map.2 ⟨x.toNat,List.mem_range.2 (by omega),by omega⟩)
  simpa using this
 have hrep: ∀t:Int,0<=t->t<N->nth (List.replicate N (-1:Int)) t= -1:=fun t t0 t1=>by
  have:t.toNat<N:=by omega
  simp[nth,List.getD_eq_getElem?_getD,List.getElem?_replicate,this]
 obtain ⟨st,e,o,rfl,hl,hz,hc⟩:=dD (f:=dH vs) (fun j st=> ∃o,st=(vs.take j,(j:Int),o)/\o.length=N/\(∀t:Int,0<=t->t<N->nth o t=if t∈vs.take j then 0 else -1)/\j=cntN o) vs.length (by
  rintro j st hj ⟨o,rfl,hl,hz,hc⟩
  obtain ⟨v0,v1⟩:=hv _ (List.getElem_mem hj)
  have hnot:vs[j] ∉ vs.take j:=fun h=>by
   obtain ⟨q,hq,e⟩:=List.getElem_of_mem h
   rw[aD] at hq
   rw[List.getElem_take] at e
   have:=(List.getElem_inj hd).1 e
   omega
  unfold dH
  simp only
  rw[eN hj,if_pos rfl,aW hj];simp only[aa]
  rw[aF v0 (by omega),aJ (by simp;omega),ak (by omega)];simp only[aa]
  refine ⟨_,rfl,o.set vs[j].toNat 0,?_,by rw[List.length_set];exact hl,fun t t0 t1=>?_,?_⟩
  ·rw[List.take_succ_eq_append_getElem hj]
  ·by_cases e:vs[j] =t
   ·subst e
    rw[eO v0 (by omega),if_pos (by rw[List.take_succ_eq_append_getElem hj];exact List.mem_append.2 (.inr (List.mem_singleton.2 rfl)))]
   ·rw[fI v0 t0 e,hz t t0 t1]
    have:t∈vs.take (j+1)↔t∈vs.take j:=by
     rw[List.take_succ_eq_append_getElem hj,List.mem_append,List.mem_singleton]
     exact ⟨fun h=>h.resolve_right fun h=>e h.symm,.inl⟩
    simp only[this]
  ·rw[GO v0 (by omega) (by rw[hz _ v0 v1,if_neg hnot];omega) (by omega),<-hc]) (by
  rintro st ⟨o,rfl,-⟩
  unfold dH
  simp only
  rw[eU];rfl) (s:=([],0,List.replicate N (-1))) ⟨List.replicate N (-1),by simp,by simp,fun t t0 t1=>by rw[hrep t t0 t1];simp,by
   unfold cntN
   symm
   rw[List.countP_eq_zero]
   intro x hx
   obtain ⟨-,rfl⟩:=List.mem_replicate.1 hx
   simp⟩ (gD (by omega))
 rw[List.take_of_length_le (aq _)] at e hz
 have hin: ∀t∈vs,nth o t=0:=fun t ht=>by rw[hz t (hv t ht).1 (hv t ht).2,if_pos ht]
 have hval: ∀t:Int,0<=t->t<N->(nth o t=0/\t∈vs)\/(nth o t= -1/\t∉vs):=fun t t0 t1=>by
  rw[hz t t0 t1]
  by_cases h:t∈vs
  ·exact .inl ⟨if_pos h,h⟩
  ·exact .inr ⟨if_neg h,h⟩
 refine ⟨o,e,hl,fun t ht=>⟨hv t ht,by rw[hin t ht];omega⟩,fun t t0 t1=>?_,fun t t0 t1=>?_,fun t t0 t1 h=>?_,fun u u0 u1 hu=>.inl ?_,?_,fun h hh t t0 t1=>?_,by omega⟩
 ·rcases hval t t0 t1 with ⟨h,-⟩ | ⟨h,-⟩ <;> omega
 ·rcases hval t t0 t1 with ⟨h,h2⟩ | ⟨h,h2⟩
  ·exact ⟨fun _=>h2,fun _=>h⟩
  ·exact ⟨fun h3=>by omega,fun h3=>absurd h3 h2⟩
 ·rcases hval t t0 t1 with ⟨h2,-⟩ | ⟨h2,-⟩ <;> omega
 ·rcases hval u u0 u1 with ⟨-,h2⟩ | ⟨h2,-⟩
  ·exact h2
  ·omega
 ·exact List.Pairwise.imp_of_mem (fun {x y} hx hy _=>by rw[hin x hx,hin y hy];omega) hd
 ·have:h∈vs:=List.mem_of_head? hh
  have:=hin h this
  rcases hval t t0 t1 with ⟨h2,-⟩ | ⟨h2,-⟩ <;> omega
theorem W9 {vs:List Int} (hN:N<=60) (hl: ∀x,(nx x).length<=100000) (hv: ∀v∈vs,0<=v/\v<N) (hd:vs.Nodup): ∃o,lX (rm N fun z=>nx (z:Int)) vs=some o/\Dst N (fun u t=>t∈nx u) (· ∈ vs) o:=by
 obtain ⟨o,e1,H⟩:=EV (nx:=nx) (by omega) hv hd
 obtain ⟨o',e2,hD⟩:=LO hn (by omega) hl H
 unfold lX
 rw[rF,Vn hN];simp only[aa]
 rw[ah e1];simp only
 rw[ah e2]
 exact ⟨o',rfl,hD⟩
end
end D
namespace D
open Go.RowKit
section
variable {g:GrT} {a:AutT} (H:GOOD g a) {x:Int} (hx:0<=x/\x<g.1.length)
include H hx
theorem LP:Dst (a.2.1.length*g.1.length) (fun u t=>t∈nxN g a u) (· ∈ [x*(a.2.1.length:Int)+a.1]) (RKs g a (x*(a.2.1.length:Int)+a.1)):=by
 have hN:=nN H.1 H.2.2 H.2.1
 obtain ⟨K,hK,hE,hR⟩:=EM (Ii H hx) (oD H)
 have e1:=GI hN (Ii H hx) (oD H) (fun x=>by have:=yg H x;omega) hK hE hR
 have hk:bsS (nxN g a) (a.2.1.length*g.1.length) (x*(a.2.1.length:Int)+a.1) K=bsS (nxN g a) (a.2.1.length*g.1.length) (x*(a.2.1.length:Int)+a.1) (a.2.1.length*g.1.length):=by
  have:=wj (Ii H hx) (oD H) hE (a.2.1.length*g.1.length - K)
  rw[show K+(a.2.1.length*g.1.length - K)=a.2.1.length*g.1.length from by omega] at this
  exact this.symm
 obtain ⟨o,e2,hD⟩:=W9 (nx:=nxN g a) (oD H) hN (fun x=>by have:=yg H x;omega) (vs:=[x*(a.2.1.length:Int)+a.1]) (fun v hv=>by obtain rfl:=au hv;exact Ii H hx) (by simp)
 rw[e1,hk] at e2
 rw[show RKs g a (x*(a.2.1.length:Int)+a.1)=o from ae e2]
 exact hD
end
end D
namespace D
open Go.RowKit
def IE (out:List Bool) (t:Int):Bool:=decide (t≥0)&&nth out t
def hit (out:List Bool) (row:List Int):Bool:=row.any (IE out)
def qv (a:AutT) (out:List Bool) (s:Nat):List Bool:=if hit out (nth a.2.2 s) then out.set s true else out
def eX (a:AutT) (out:List Bool):Nat->List Bool
 | 0=>out
 | s+1=>qv a (eX a out s) s
def cnt (out:List Bool):Nat:=out.count true
theorem Vv (out:List Bool):cnt out<=out.length:=List.count_le_length
theorem GP {out:List Bool} {s:Nat} (h:s<out.length) (k:out[s] =true):out.set s true=out:=by
 refine List.ext_getElem (by simp) fun i h1 h2=>?_
 rw[List.getElem_set]
 split
 ·rename_i e;subst e;exact k.symm
 ·rfl
theorem Tj {out:List Bool} {s:Nat} (h:s<out.length) (k:out[s] =false):cnt (out.set s true)=cnt out+1:=by
 unfold cnt
 rw[List.count_set h];simp[k]
section
variable {a:AutT} {n:Nat}
theorem Bs (a:AutT) (out:List Bool) (s:Nat):(qv a out s).length=out.length:=by unfold qv;split <;> simp
theorem iG (a:AutT) (out:List Bool): ∀s,(eX a out s).length=out.length
 | 0=>rfl
 | s+1=>by rw[eX,Bs,iG a out s]
theorem qw {out:List Bool} {s:Nat} (h:s<out.length):(qv a out s=out/\ ¬(hit out (nth a.2.2 s)=true/\nth out s=false))\/(cnt (qv a out s)=cnt out+1/\hit out (nth a.2.2 s)=true/\nth out s=false):=by
 unfold qv
 rw[bM h]
 cases hh:hit out (nth a.2.2 s) with
 | false=>exact .inl ⟨by simp,by simp⟩
 | true =>
  cases hk:out[s] with
  | true=>exact .inl ⟨by simp[GP h hk],by simp⟩
  | false=>exact .inr ⟨by simp[Tj h hk],rfl,rfl⟩
theorem q8 {out:List Bool} : ∀s,s<=out.length->(eX a out s=out/\cnt (eX a out s)=cnt out)\/cnt out<cnt (eX a out s)
 | 0,_=>.inl ⟨rfl,rfl⟩
 | s+1,hs=>by
  have hl:s<(eX a out s).length:=by rw[iG];omega
  have ih:=q8 (out:=out) s (by omega)
  rw[eX]
  rcases qw (a:=a) hl with ⟨e,-⟩ | ⟨e,-,-⟩
  ·rw[e];exact ih
  ·rcases ih with ⟨-,h2⟩ | h
   ·exact .inr (by omega)
   ·exact .inr (by omega)
def it (a:AutT):Nat->List Bool
 | 0=>a.2.1
 | j+1=>eX a (it a j) a.2.1.length
theorem oE (a:AutT): ∀j,(it a j).length=a.2.1.length
 | 0=>rfl
 | j+1=>by rw[it,iG,oE a j]
theorem QC (a:AutT) (j:Nat):cnt (it a j)<=a.2.1.length:=by rw[<-oE a j];exact Vv _
theorem EW (a:AutT) (j:Nat):(it a (j+1)=it a j)\/cnt (it a j)<cnt (it a (j+1)):=by
 rcases q8 (a:=a) (out:=it a j) a.2.1.length (by rw[oE];exact aq _) with h | h
 ·exact .inl h.1
 ·exact .inr h
theorem QD {j k:Nat} (h:it a (j+1)=it a j) (hk:j<=k):it a k=it a j:=by
 induction hk with
 | refl=>rfl
 | step _ ih=>rw[it,ih];exact h
theorem LQ {j k:Nat} (h:it a (j+1)=it a j) (h':it a (k+1)=it a k):it a j=it a k:=by
 rcases Nat.le_total j k with e | e
 ·exact (QD h e).symm
 ·exact QD h' e
theorem LR (a : AutT) : it a (a.2.1.length + 1) = it a a.2.1.length := by
  have key : ∀ j, it a (j + 1) = it a j \/ j + 1 <= cnt (it a (j + 1)) := by
    intro j
    induction j with
    | zero => rcases EW a 0 with h | h
              · exact .inl h
              · exact .inr (by omega)
    | succ j ih =>
      rcases EW a (j + 1) with h | h
      · exact .inl h
      · rcases ih with h' | h'
        · left; rw [it, h']; exact h'
        · exact .inr (by omega)
  rcases key a.2.1.length with h | h
  · exact h
  · have := QC a (a.2.1.length + 1); omega
def live (a:AutT):List Bool:=it a a.2.1.length
theorem pf (a:AutT):(live a).length=a.2.1.length:=oE a _
theorem GQ {α:Type} [Inhabited α] {row:List α} {p:α->Bool} {k:Nat} (h:k<row.length):(row.take (k+1)).any p=((row.take k).any p || p (nth row (k:Int))):=by
 rw[List.take_succ_eq_append_getElem h,List.any_append,bM h];simp
section
variable (V:VA a n) (hn:n<=1000000)
include V hn
theorem LS {out:List Bool} {s:Nat} (hs:s<n) (hl:out.length=n):aC (iT a (out,(s:Int))) aP (out,0)=some (.brk (qv a out s,9)):=by
 have hr:=V.rowAt (s:=s) (by omega) (by omega)
 have hls:s<out.length:=by omega
 have:=aL (f:=iT a (out,(s:Int))) (fun k=>(if ((nth a.2.2 (s:Int)).take k).any (IE out) then out.set s true else out,(k:Int))) 9 (fun k hk=>by
  unfold iT
  simp only
  rw[if_pos (by simp;omega),V.get (by omega) (by omega)];simp only[aa]
  rw[V.get2 (by omega) (by omega) hk];simp only[aa]
  rw[GQ (by omega),show nth (nth a.2.2 (s:Int)) (k:Int)=mv a s k from rfl]
  simp only[ak (show k<9223372036854775807 by omega)]
  by_cases c:mv a s k≥0
  ·have hset:(out.set s true).length=n:=by simp[hl]
   have hm:=(V.mv (s:=s) (k:=k) (by omega) (by omega) hk).2
   rw[if_pos (by simpa using c)]
   by_cases q:((nth a.2.2 (s:Int)).take k).any (IE out)=true
   ·simp only[q,if_true,Bool.true_or]
    rw[aF c (by rw[hset];exact hm),aF (by omega) (by rw[hset];omega)];simp only[aa,Int.toNat_natCast]
    split <;> simp
   ·simp only[q,Bool.false_eq_true,if_false,Bool.false_or,IE]
    rw[aF c (by rw[hl];exact hm),aF (by omega) (by rw[hl];omega)];simp only[aa,Int.toNat_natCast]
    cases hc:nth out (mv a s k) <;> simp[hc,c]
  ·rw[if_neg (by simpa using c)]
   simp[IE,c]) (by unfold iT;simp) (by unfold aP;omega)
 have e9:(nth a.2.2 (s:Int)).take 9=nth a.2.2 (s:Int):=List.take_of_length_le (by omega)
 rw[e9] at this
 exact this
theorem Dd {out:List Bool} (hl:out.length=n):aC (iU a) aP (out,0)=some (.brk (eX a out n,(n:Int))):=by
 have hlen:=V.len
 refine aL (f:=iU a) (fun s=>(eX a out s,(s:Int))) n (fun s hs=>?_) ?_ (gD (by omega))
 ·unfold iU
  simp only
  rw[if_pos (by simp;omega),ah (LS V hn hs (by rw[iG];exact hl)),ak (by omega)]
  rfl
 ·unfold iU
  simp only
  rw[if_neg (by simp;omega)]
theorem QE:j6 a=some (live a):=by
 have hlen:=V.len
 unfold j6
 rw[aJ (by simp;omega)];simp only[aa,List.nil_append]
 have:=aL (f:=kC a) (fun j=>(it a j,(j:Int))) n (fun j hj=>by
  unfold kC
  simp only
  rw[if_pos (by simp;omega),ah (Dd V hn (by rw[oE];exact hlen)),ak (by omega),it,hlen]) (by
  unfold kC
  simp only
  rw[if_neg (by simp;omega)]) (gD (by omega))
 exact (ah this).trans (by simp[live,hlen])
theorem LU {out:List Bool} {g:Bool} {s:Nat} (hs:s<n) (hl:out.length=n):aC (de (g,(s:Int),out) (nth a.2.2 (s:Int))) aP (g,0,out)=some (.brk (g || (hit out (nth a.2.2 (s:Int)) && !nth out (s:Int)),9,qv a out s)):=by
 have hr:=V.rowAt (s:=s) (by omega) (by omega)
 have hls:s<out.length:=by omega
 have:=aL (f:=de (g,(s:Int),out) (nth a.2.2 (s:Int))) (fun k=>(g || (((nth a.2.2 (s:Int)).take k).any (IE out) && !nth out (s:Int)),(k:Int),if ((nth a.2.2 (s:Int)).take k).any (IE out) then out.set s true else out)) 9 (fun k hk=>by
  unfold de
  simp only
  rw[if_pos (by simp[hr];omega),V.get2 (by omega) (by omega) hk];simp only[aa]
  rw[GQ (by omega),show nth (nth a.2.2 (s:Int)) (k:Int)=mv a s k from rfl]
  simp only[ak (show k<9223372036854775807 by omega)]
  by_cases c:mv a s k≥0
  ·have hset:(out.set s true).length=n:=by simp[hl]
   have hm:=(V.mv (s:=s) (k:=k) (by omega) (by omega) hk).2
   rw[if_pos (by simpa using c)]
   by_cases q:((nth a.2.2 (s:Int)).take k).any (IE out)=true
   ·simp only[q,if_true,Bool.true_or]
    have hself:nth (out.set s true) (s:Int)=true:=by
     have:=eO (xs:=out) (i:=(s:Int)) (x:=true) (by omega) (by omega)
     simpa using this
    rw[aF c (by rw[hset];exact hm),aF (by omega) (by rw[hset];omega)];simp only[aa,Int.toNat_natCast,hself,if_true]
    split <;> simp
   ·simp only[q,Bool.false_eq_true,if_false,Bool.false_or,IE,Bool.false_and,Bool.or_false]
    rw[aF c (by rw[hl];exact hm),aF (by omega) (by rw[hl];omega)];simp only[aa,Int.toNat_natCast]
    cases hc:nth out (mv a s k) with
    | false=>simp[c]
    | true =>
     cases hd:nth out (s:Int) with
     | false=>simp[c]
     | true =>
      rw[bM hls] at hd
      simp[c,GP hls hd]
  ·rw[if_neg (by simpa using c)]
   simp[IE,c]) (by unfold de;simp[hr]) (by unfold aP;omega)
 have e9:(nth a.2.2 (s:Int)).take 9=nth a.2.2 (s:Int):=List.take_of_length_le (by omega)
 rw[e9] at this
 have e0:(g || (((nth a.2.2 (s:Int)).take 0).any (IE out) && !nth out (s:Int)))=g:=by simp
 rw[e0] at this
 exact this
theorem De {out:List Bool} (hl:out.length=n): ∃g,aC (df a) aP (false,0,out)=some (.brk (g,(n:Int),eX a out n))/\(g=true↔cnt out<cnt (eX a out n)):=by
 have hlen:=V.len
 have hnl:=V.nlen
 obtain ⟨s',e,⟨g,rfl,hg⟩⟩:=dD (f:=df a) (fun s st=> ∃g,st=(g,(s:Int),eX a out s)/\(g=true↔cnt out<cnt (eX a out s))) n (by
  rintro s st hs ⟨g,rfl,hg⟩
  have hpl:(eX a out s).length=n:=by rw[iG];exact hl
  unfold df
  simp only
  rw[if_pos (by simp;omega),V.get (by omega) (by omega)];simp only[aa]
  rw[ah (LU V hn hs hpl),ak (by omega)]
  refine ⟨_,rfl,_,rfl,?_⟩
  rw[Bool.or_eq_true,ai,Bool.not_eq_true',hg,eX]
  have hc:=q8 (a:=a) (out:=out) s (by omega)
  rcases qw (a:=a) (out:=eX a out s) (s:=s) (by omega) with ⟨e,k⟩ | ⟨e,k⟩
  ·rw[e];exact ⟨fun h=>h.elim id fun h=>absurd h k,.inl⟩
  ·rw[e]
   exact ⟨fun _=>by rcases hc with ⟨-,h⟩ | h <;> omega,fun _=>.inr k⟩) (by
  rintro s ⟨g,rfl,hg⟩
  unfold df
  simp only
  rw[if_neg (by simp;omega)]) ⟨false,rfl,by simp[eX]⟩ (gD (by omega))
 exact ⟨g,e,hg⟩
theorem Vx:eI a=some (live a):=by
 have hlen:=V.len
 unfold eI
 rw[aJ (by simp;omega)];simp only[aa,List.nil_append]
 obtain ⟨o,e,i,rfl,hi⟩:=b9 (f:=gP a) (fun i s=> ∃b,s=(b,it a i)/\(b=true->i<=cnt (it a i))/\(b=false->it a (i+1)=it a i)) (fun o=> ∃i,o= .brk (false,it a i)/\it a (i+1)=it a i) (n+1) (s:=(true,a.2.1)) (by
  rintro i s hi ⟨b,rfl,h1,h2⟩
  unfold gP
  simp only
  cases b with
  | false=>exact .inr ⟨_,by rw[if_neg (by simp)],(fun s' e=>by cases e),i,rfl,h2 rfl⟩
  | true =>
   have hc:=QC a i
   have h1:=h1 rfl
   obtain ⟨g,e,hg⟩:=De V hn (out:=it a i) (by rw[oE];exact hlen)
   have ee:eX a (it a i) n=it a (i+1):=by rw[it,hlen]
   rw[ee] at e hg
   refine .inl ⟨by omega,(g,it a (i+1)),by rw[if_pos rfl,ah e],g,rfl,fun h=>?_,fun h=>?_⟩
   ·have:=hg.1 h;omega
   ·have hs:it a (i+1)=it a i:=by
     rcases EW a i with h' | h'
     ·exact h'
     ·rw[<-hg,h] at h';cases h'
    rw[it,hs];exact hs) ⟨true,rfl,fun _=>Nat.zero_le _,fun h=>by cases h⟩ (gD (by omega))
 rw[ah e]
 have:=LQ hi (LR a)
 simp[live,this]
end
end
end D
namespace D
open Go.RowKit
def nothing:AutT:=(0,[false],[[-1,-1,-1,-1,-1,-1,-1,-1,-1]])
theorem LW:nH=some nothing:=by kernel_rfl
theorem LY:rY=some nothing:=by kernel_rfl
theorem LZ {n:Nat} (h:n<=1000000):iOk (n:Int)=true:=by
 have h1:IntKind.i64.min= -9223372036854775808:=by decide
 have h2:IntKind.i64.max=9223372036854775807:=by decide
 simp only[iOk,Lit.wf,h1,h2,ai,decide_eq_true_eq]
 omega
theorem take_one {α:Type} [Inhabited α] {xs:List α} {k:Nat} (h:k<xs.length):xs.take (k+1)=xs.take k++ [nth xs (k:Int)]:=by
 rw[List.take_succ_eq_append_getElem h,bM h]
theorem jA {α:Type} [Inhabited α] {xs ys:List α} (h:xs <+:ys) {i:Int} (h0:0<=i) (h1:i<xs.length):nth ys i=nth xs i:=by
 obtain ⟨t,rfl⟩:=h
 exact jR h0 h1
structure NumOk {κ:Type} [DecidableEq κ] (nx:κ->List (Option κ)) (first:κ) (G:κ->Prop) (B:Nat):Prop where
 g0:G first
 gn: ∀x,G x-> ∀y,some y∈nx x->G y
 len: ∀x,G x->(nx x).length=9
 bound: ∀l:List κ,l.Nodup->(∀x∈l,G x)->l.length<=B
section
variable {κ:Type} [DecidableEq κ] [Inhabited κ] {nx:κ->List (Option κ)} {first:κ} {G:κ->Prop} {B:Nat}
theorem NumOk.le (H:NumOk nx first G B) (i:Nat):(bfS nx first i).length<=B:=H.bound _ (mI i) (jS H.g0 H.gn i)
theorem NumOk.at (H:NumOk nx first G B) {i:Nat} (h:i<(bfS nx first i).length):G (nth (bfS nx first i) (i:Int)):=jS H.g0 H.gn i _ (bB (by omega) (by omega))
theorem jU {i:Nat} (h:i<(bfS nx first i).length):bfS nx first (i+1)=nbS (bfS nx first i) (nx (nth (bfS nx first i) (i:Int))):=by rw[vZ h,bM h]
theorem tX {i:Nat} (h:i<(bfS nx first i).length):bfR nx first (i+1)=bfR nx first i++ [nbR (bfS nx first i) (nx (nth (bfS nx first i) (i:Int)))]:=by rw[qZ h,bM h]
theorem wm {β:Type} {acc:κ->β} {i:Nat} (h:i<(bfS nx first i).length):((bfS nx first (i+1)).take (i+1)).map acc=((bfS nx first i).take i).map acc++ [acc (nth (bfS nx first i) (i:Int))]:=by
 have hp:=bH (nx:=nx) (first:=first) i
 have hl:=hp.length_le
 have e:(bfS nx first (i+1)).take i=(bfS nx first i).take i:=by
  obtain ⟨t,ht⟩:=hp
  rw[<-ht,List.take_append_of_le_length (by omega)]
 rw[take_one (by omega),aK,e,jA hp (by omega) (by omega)];rfl
def MapOf (M:List (κ×Int)) (l:List κ):Prop:=M.length=l.length/\ ∀x,M.lookup x=if x∈l then some (l.idxOf x:Int) else none
theorem MapOf.one (x:κ):MapOf [(x,0)] [x]:=by
 refine ⟨rfl,fun y=>?_⟩
 rw[List.lookup_cons]
 by_cases e:y=x
 ·subst e;simp
 ·simp only[show (y==x)=false from by simp[e]];simp[e]
theorem MapOf.put {M:List (κ×Int)} {l:List κ} (h:MapOf M l) {x:κ} (hx:x∉l):MapOf ((x,(l.length:Int))::M) (l++ [x]):=by
 refine ⟨by simp[h.1],fun y=>?_⟩
 rw[List.lookup_cons]
 by_cases e:y=x
 ·subst e
  simp[List.idxOf_append,hx]
 ·simp only[show (y==x)=false from by simp[e],h.2 y,List.mem_append,List.mem_singleton,e,or_false]
  by_cases k:y∈l
  ·simp[k,List.idxOf_append]
  ·simp[k]
end
section
variable {nx:Int->List (Option Int)} {first:Int} {G:Int->Prop} {B:Nat}
theorem Df {p3:Int->Int->Option (Int×Bool)} {l:List Int} {M:List (Int×Int)} {os:List (Option Int)} {acs:List Bool} {rws:List (List Int)} {i:Nat}
  (hi:i<l.length) (hos:os.length=9) (hM:MapOf M l) (hok: ∀y,some y∈os->iOk y=true) (hB: ∀k,(nbS l (os.take k)).length<=1000000)
  (hp: ∀(k:Nat) (hk:k<9),∃j,p3 (nth l (i:Int)) (k:Int)=some (match nth os (k:Int) with | some y=>(y,true) | none=>(j,false))) :
  ∃M',aC (dP p3 (l,M,(i:Int),0,acs,rws)) aP (l,M,[],0)=some (.brk (nbS l os,M',nbR l os,9))/\MapOf M' (nbS l os):=by
 obtain ⟨s',e,M',rfl,hM'⟩:=dD (f:=dP p3 (l,M,(i:Int),0,acs,rws)) (fun k s=> ∃M',s=(nbS l (os.take k),M',nbR l (os.take k),(k:Int))/\MapOf M' (nbS l (os.take k))) 9 (by
  rintro k s hk ⟨M1,rfl,hM1⟩
  have hpre:=ko l (os.take k)
  have hlen:=hpre.length_le
  have hBk:=hB k
  obtain ⟨j,hj⟩:=hp k hk
  have hrl:(nbR l (os.take k)).length<=9:=by rw[eG,aD];omega
  unfold dP
  simp only
  rw[if_pos (by simp;omega),aF (by omega) (by omega)];simp only[aa]
  rw[jA hpre (by omega) (by omega),hj,take_one (by omega),tK,qY]
  simp only[aa,ak (show k<9223372036854775807 by omega)]
  cases ho:nth os (k:Int) with
  | none =>
   simp only[Bool.false_eq_true,if_false]
   rw[aJ (by simp;omega)]
   exact ⟨_,rfl,M1,rfl,hM1⟩
  | some y =>
   have hy:iOk y=true:=hok y (ho ▸ bB (by omega) (by omega))
   simp only[if_true]
   rw[show chk (iOk y=true)=some () from by unfold chk;rw[if_pos hy]];simp only[aa]
   rw[show lkM M1 y=_ from hM1.2 y]
   by_cases c:y∈nbS l (os.take k)
   ·simp only[c,if_true,Option.isSome_some,Option.getD_some,aa]
    rw[aJ (by simp;omega)]
    exact ⟨_,rfl,M1,by rw[lz c];rfl,by rw[lz c];exact hM1⟩
   ·have hput:IZ M1 iOk iOk y ((nbS l (os.take k)).length:Int)=some ((y,((nbS l (os.take k)).length:Int))::M1):=by
     unfold IZ
     rw[if_pos ⟨by have:=hM1.1;omega,hy,LZ hBk⟩]
    simp only[c,if_false,Option.isSome_none,Bool.false_eq_true,hput,aa]
    rw[aJ (by simp;omega)];simp only[aa]
    rw[aJ (by simp;omega)]
    refine ⟨_,rfl,(y,((nbS l (os.take k)).length:Int))::M1,?_,?_⟩
    ·rw[kp c];simp only[nbI,oy c]
    ·rw[kp c];exact hM1.put c) (by
  rintro s ⟨M1,rfl,hM1⟩
  unfold dP
  simp) (s:=(l,M,[],0)) ⟨M,rfl,hM⟩ (by unfold aP;omega)
 rw[List.take_of_length_le (by omega)] at e hM'
 exact ⟨M',e,hM'⟩
theorem Vy {most:Int} {p2:Int->Option Bool} {p3:Int->Int->Option (Int×Bool)} {acc:Int->Bool} (H:NumOk nx first G B) (hB:B<=1000000) (hmost:(B:Int)<=most) (hok: ∀x,G x->iOk x=true)
  (h2: ∀x,G x->p2 x=some (acc x)) (h3: ∀x (k:Nat),G x->k<9-> ∃j,p3 x (k:Int)=some (match nth (nx x) (k:Int) with | some y=>(y,true) | none=>(j,false))) :
  ∃N,bfE nx first N/\eC first most p2 p3=some ((0,(bfS nx first N).map acc,bfR nx first N),true):=by
 obtain ⟨N,hNB,hN⟩:=Qj (nx:=nx) (first:=first) (H.le)
 refine ⟨N,hN,?_⟩
 unfold eC
 rw[show IZ ([] :List (Int×Int)) iOk iOk first 0=some [(first,0)] from by unfold IZ;rw[if_pos ⟨by simp,hok _ H.g0,by decide⟩]];simp only[aa]
 obtain ⟨s',e,M',rfl,hM'⟩:=dD (f:=bT most p2 p3) (fun i s=> ∃M,s=(bfS nx first i,M,(i:Int),0,((bfS nx first i).take i).map acc,bfR nx first i)/\MapOf M (bfS nx first i)) N (by
  rintro i s hi ⟨M,rfl,hM⟩
  have hlt:=hN.2 i hi
  have hG:=H.at hlt
  have hle:=H.le i
  have hle':=H.le (i+1)
  obtain ⟨M',e,hM'⟩:=Df (p3:=p3) (l:=bfS nx first i) (M:=M) (os:=nx (nth (bfS nx first i) (i:Int))) (acs:=((bfS nx first i).take i).map acc) (rws:=bfR nx first i) hlt (H.len _ hG) hM (fun y hy=>hok y (H.gn _ hG y hy))
   (fun k=>by
    have:(nbS (bfS nx first i) ((nx (nth (bfS nx first i) (i:Int))).take k)).length<=B:=H.bound _ (qp (mI i)) fun x hx=>by
     rcases sv.1 hx with hx | hx
     ·exact jS H.g0 H.gn i x hx
     ·exact H.gn _ hG x (List.mem_of_mem_take hx)
    omega) (fun k hk=>h3 _ k hG hk)
  unfold bT
  simp only
  rw[if_pos (by simp;omega),ah e,<-jU hlt]
  rw[<-jU hlt] at hM'
  have hl2:=(bH (nx:=nx) (first:=first) i).length_le
  simp only
  rw[if_neg (by simp;omega),aF (by omega) (by omega)];simp only[aa]
  rw[jA (bH i) (by omega) (by omega),h2 _ hG];simp only[aa]
  have hr:(bfR nx first i).length=i:=iE fun j hj=>hN.2 j (by omega)
  rw[aJ (by simp;omega)];simp only[aa]
  rw[aJ (by simp;omega)];simp only[aa,ak (show i<9223372036854775807 by omega)]
  exact ⟨_,rfl,M',by rw[wm hlt,tX hlt],hM'⟩) (by
  rintro s ⟨M,rfl,hM⟩
  unfold bT
  simp only
  rw[if_neg (by have:=hN.1;simp;omega)]) (s:=([first],[(first,0)],0,0,[],[])) ⟨_,rfl,MapOf.one first⟩ (gD (by omega))
 rw[ah e]
 simp only
 rw[List.take_of_length_le (by have:=hN.1;omega)]
end
theorem QF {l:List Int} {x:Int} (h:l.length<=9223372036854775807):mn l x=some (if x∈l then (l.idxOf x:Int) else -1):=by
 unfold mn
 obtain ⟨o,e,hq⟩:=b9 (f:=nG l x) (fun i s=>s=(i:Int)/\x∉l.take i) (fun o=>(x∈l/\o= .ret (l.idxOf x:Int))\/(x∉l/\ ∃s,o= .brk s)) l.length (s:=0) (by
  rintro i s hi ⟨rfl,hx⟩
  unfold nG
  by_cases hl:i<l.length
  ·rw[if_pos (by simp;omega),aF (by omega) (by omega)];simp only[aa]
   by_cases c:nth l (i:Int)=x
   ·refine .inr ⟨_,by rw[if_pos (by simpa using c)],(fun s' e=>by cases e),.inl ?_⟩
    have e:l=l.take i++(x::l.drop (i+1)):=by
     rw[<-c,bM hl,<-List.drop_eq_getElem_cons hl,List.take_append_drop]
    refine ⟨by rw[e];simp,?_⟩
    congr 1
    conv=>rhs;rw[e,List.idxOf_append,if_neg hx,List.idxOf_cons_self]
    simp[aD];first | done | omega
   ·refine .inl ⟨hl,_,by rw[if_neg (by simpa using c)],by rw[ak (by omega)],?_⟩
    rw[take_one hl,List.mem_append,List.mem_singleton]
    rintro (h | h)
    ·exact hx h
    ·exact c h.symm
  ·refine .inr ⟨_,by rw[if_neg (by simp;omega)],(fun s' e=>by cases e),.inr ⟨?_,_,rfl⟩⟩
   rwa [List.take_of_length_le (by omega)] at hx) ⟨rfl,by simp⟩ (gD h)
 rcases hq with ⟨hx,rfl⟩ | ⟨hx,s,rfl⟩
 ·rw[bK e,if_pos hx]
 ·rw[ah e,if_neg hx]
section
variable {a:AutT} {n:Nat} {c:List Int} {lv:List Bool} {nx:Int->List (Option Int)} {G:Int->Prop} {B:Nat} {acc:Int->Bool}
def good (n:Nat) (lv:List Bool) (r:Int):Prop:=0<=r/\r<n/\nth lv r=true
def pg (a:AutT) (c:List Int) (lv:List Bool) (r:Int):List (Option Int):=(List.range 9).map fun k=>if mv a r k≥0/\nth lv (mv a r k)=true then some (nth c (mv a r k)) else none
theorem GR {r:Int} {k:Nat} (hk:k<9):nth (pg a c lv r) (k:Int)=if mv a r k≥0/\nth lv (mv a r k)=true then some (nth c (mv a r k)) else none:=by
 have:k<(pg a c lv r).length:=by simp[pg];omega
 rw[bM this];simp[pg]
def RepsOf (n:Nat) (lv:List Bool) (c:List Int) (rs l:List Int):Prop:=rs.length=l.length/\ ∀j:Nat,j<l.length->good n lv (nth rs j)/\nth c (nth rs j)=nth l (j:Int)
theorem RepsOf.snoc {rs l:List Int} (h:RepsOf n lv c rs l) {t:Int} (ht:good n lv t):RepsOf n lv c (rs++ [t]) (l++ [nth c t]):=by
 refine ⟨by simp[h.1],fun j hj=>?_⟩
 by_cases e:j<l.length
 ·rw[jR (by omega) (by have:=h.1;omega),jR (by omega) (by omega)];exact h.2 j e
 ·have e:j=l.length:=by simp at hj;omega
  subst e
  have h1:nth (rs++ [t]) (l.length:Int)=t:=by rw[bM (by simp[h.1])];simp[<-h.1]
  have h2:nth (l++ [nth c t]) (l.length:Int)=nth c t:=by rw[bM (by simp)];simp
  rw[h1,h2];exact ⟨ht,rfl⟩
theorem L4 (V:VA a n) (hn:n<=1000000) (hc:c.length=n) (hlv:lv.length=n) {l rs:List Int} {acs:List Bool} {rws:List (List Int)} {i:Nat} (hi:i<l.length) (hR:RepsOf n lv c rs l) {os:List (Option Int)} (hos:os.length=9)
  (ho: ∀r,good n lv r->nth c r=nth l (i:Int)->pg a c lv r=os) (hB: ∀k,(nbS l (os.take k)).length<=1000000) :
  ∃rs',aC (fX a c lv (l,rs,(i:Int),0,acs,rws)) aP (l,rs,[],0)=some (.brk (nbS l os,rs',nbR l os,9))/\RepsOf n lv c rs' (nbS l os):=by
 obtain ⟨s',e,rs',rfl,hR'⟩:=dD (f:=fX a c lv (l,rs,(i:Int),0,acs,rws)) (fun k s=> ∃rs',s=(nbS l (os.take k),rs',nbR l (os.take k),(k:Int))/\RepsOf n lv c rs' (nbS l (os.take k))) 9 (by
  rintro k s hk ⟨r1,rfl,hR1⟩
  have hpre:=ko l (os.take k)
  have hlen:=hpre.length_le
  have hBk:=hB k
  have hrl:(nbR l (os.take k)).length<=9:=by rw[eG,aD];omega
  have hr1:=hR1.1
  obtain ⟨⟨g0,g1,g2⟩,gc⟩:=hR1.2 i (by omega)
  rw[jA hpre (by omega) (by omega)] at gc
  have hsu:=ho _ ⟨g0,g1,g2⟩ gc
  have hok:nth os (k:Int)=if mv a (nth r1 (i:Int)) k≥0/\nth lv (mv a (nth r1 (i:Int)) k)=true then some (nth c (mv a (nth r1 (i:Int)) k)) else none:=by
   rw[<-hsu];exact GR hk
  have hmv:=V.mv (s:=nth r1 (i:Int)) (k:=k) g0 g1 hk
  unfold fX
  simp only
  rw[if_pos (by simp;omega),aF (xs:=r1) (by omega) (by omega)];simp only[aa]
  rw[V.get g0 g1];simp only[aa]
  rw[V.get2 g0 g1 hk,take_one (by omega),tK,qY]
  simp only[aa,ak (show k<9223372036854775807 by omega)]
  by_cases c1:mv a (nth r1 (i:Int)) k≥0
  ·rw[if_pos (by simpa using c1),aF (xs:=lv) c1 (by omega)];simp only[aa]
   by_cases c2:nth lv (mv a (nth r1 (i:Int)) k)=true
   ·rw[if_pos ⟨c1,c2⟩] at hok
    rw[if_pos c2,aF (xs:=c) c1 (by omega),hok];simp only[aa]
    rw[QF (by omega)];simp only[aa]
    by_cases c3:nth c (mv a (nth r1 (i:Int)) k)∈nbS l (os.take k)
    ·rw[if_pos c3,if_neg (by simp)];simp only[aa]
     rw[aJ (by simp;omega)]
     exact ⟨_,rfl,r1,by rw[lz c3];rfl,by rw[lz c3];exact hR1⟩
    ·rw[if_neg c3,if_pos (by decide)]
     rw[aJ (by simp;omega)];simp only[aa]
     rw[aJ (by simp;omega)];simp only[aa]
     rw[aJ (by simp;omega)];simp only[aa]
     refine ⟨_,rfl,r1++ [mv a (nth r1 (i:Int)) k],?_,?_⟩
     ·rw[kp c3];simp only[nbI,oy c3]
     ·rw[kp c3];exact hR1.snoc ⟨c1,hmv.2,c2⟩
   ·rw[if_neg (fun h=>c2 h.2)] at hok
    rw[if_neg c2,hok];simp only[aa]
    rw[aJ (by simp;omega)]
    exact ⟨_,rfl,r1,rfl,hR1⟩
  ·rw[if_neg (fun h=>c1 h.1)] at hok
   rw[if_neg (by simpa using c1),hok];simp only[aa]
   rw[aJ (by simp;omega)]
   exact ⟨_,rfl,r1,rfl,hR1⟩) (by
  rintro s ⟨r1,rfl,hR1⟩
  unfold fX
  simp) (s:=(l,rs,[],0)) ⟨rs,rfl,hR⟩ (by unfold aP;omega)
 rw[List.take_of_length_le (by omega)] at e hR'
 exact ⟨rs',e,hR'⟩
theorem Vz (V:VA a n) (hn:n<=1000000) (hc:c.length=n) (hlv:lv.length=n) (hs:nth lv a.1=true) (H:NumOk nx (nth c a.1) G B) (hB:B<=1000000)
  (hnx: ∀r,good n lv r->nx (nth c r)=pg a c lv r) (hacc: ∀r,good n lv r->acc (nth c r)=nth a.2.1 r) :
  ∃N,bfE nx (nth c a.1) N/\im a c lv=some (0,(bfS nx (nth c a.1) N).map acc,bfR nx (nth c a.1) N):=by
 obtain ⟨N,hNB,hN⟩:=Qj (nx:=nx) (first:=nth c a.1) (H.le)
 refine ⟨N,hN,?_⟩
 have hst:=V.start
 have hlen:=V.len
 unfold im
 rw[aF hst.1 (by omega)];simp only[aa]
 rw[if_pos hs,aF hst.1 (by omega)];simp only[aa]
 obtain ⟨s',e,rs,rfl,hR⟩:=dD (f:=jc a c lv) (fun i s=> ∃rs,s=(bfS nx (nth c a.1) i,rs,(i:Int),0,((bfS nx (nth c a.1) i).take i).map acc,bfR nx (nth c a.1) i)/\RepsOf n lv c rs (bfS nx (nth c a.1) i)) N (by
  rintro i s hi ⟨rs,rfl,hR⟩
  have hlt:=hN.2 i hi
  have hG:=H.at hlt
  have hle:=H.le i
  have hle':=H.le (i+1)
  obtain ⟨rs',e,hR'⟩:=L4 (acs:=((bfS nx (nth c a.1) i).take i).map acc) (rws:=bfR nx (nth c a.1) i) V hn hc hlv hlt hR (os:=nx (nth (bfS nx (nth c a.1) i) (i:Int))) (H.len _ hG) (fun r hr e=>by rw[<-hnx r hr,e]) (fun k=>by
    have:(nbS (bfS nx (nth c a.1) i) ((nx (nth (bfS nx (nth c a.1) i) (i:Int))).take k)).length<=B:=H.bound _ (qp (mI i)) fun x hx=>by
     rcases sv.1 hx with hx | hx
     ·exact jS H.g0 H.gn i x hx
     ·exact H.gn _ hG x (List.mem_of_mem_take hx)
    omega)
  unfold jc
  simp only
  rw[if_pos (by simp;omega),ah e]
  rw[<-jU hlt] at hR'
  have hl2:=(bH (nx:=nx) (first:=nth c a.1) i).length_le
  have hr1:=hR'.1
  obtain ⟨⟨g0,g1,g2⟩,gc⟩:=hR'.2 i (by omega)
  rw[jA (bH i) (by omega) (by omega)] at gc
  rw[aF (xs:=rs') (by omega) (by omega)];simp only[aa]
  rw[V.acc g0 g1,<-hacc _ ⟨g0,g1,g2⟩,gc];simp only[aa]
  have hr:(bfR nx (nth c a.1) i).length=i:=iE fun j hj=>hN.2 j (by omega)
  rw[aJ (by simp;omega)];simp only[aa]
  rw[aJ (by simp;omega)];simp only[aa,ak (show i<9223372036854775807 by omega)]
  exact ⟨_,rfl,rs',by rw[<-jU hlt,wm hlt,tX hlt],hR'⟩) (by
  rintro s ⟨rs,rfl,hR⟩
  unfold jc
  simp only
  rw[if_neg (by have:=hN.1;simp;omega)]) (s:=([nth c a.1],[a.1],0,0,[],[])) ⟨[a.1],rfl,rfl,fun j hj=>by
   obtain rfl:j=0:=by simpa [bfS] using hj
   exact ⟨⟨hst.1,hst.2,hs⟩,rfl⟩⟩ (gD (by omega))
 rw[ah e]
 simp only
 rw[List.take_of_length_le (by have:=hN.1;omega)]
theorem EX (V:VA a n) (hlv:lv.length=n) (hs:nth lv a.1=false):im a c lv=some nothing:=by
 have hst:=V.start
 unfold im
 rw[aF hst.1 (by omega)];simp only[aa]
 rw[hs,LW];rfl
end
end D
namespace D
open Go.RowKit
theorem zT {κ:Type} [DecidableEq κ] {l m:List κ} (h:l <+:m) {y:κ} (hy:y∈l):(m.idxOf y:Int)=l.idxOf y:=by
 obtain ⟨t,rfl⟩:=h
 rw[List.idxOf_append,if_pos hy]
theorem L5 {κ:Type} [DecidableEq κ] : ∀(l:List κ) (os:List (Option κ)) (i:Nat),i<os.length->nth (nbR l os) (i:Int)=nbI (nbS l os) (nth os (i:Int))
 | l,o::os,0,_=>by
  show nbI l o=nbI (nbS (nbL l o) os) o
  cases o with
  | none=>rfl
  | some y =>
   have hm:y∈nbL l (some y):=Lf.2 (.inr rfl)
   simp only[nbI]
   rw[zT (ko _ os) hm]
   by_cases c:y∈l
   ·rw[lz c]
   ·rw[kp c,List.idxOf_append,if_neg c,oy c];simp
 | l,o::os,i+1,h=>by
  have h':i<os.length:=by simpa using h
  have ih:=L5 (nbL l o) os i h'
  have e1:nth (nbR l (o::os)) ((i+1:Nat):Int)=nth (nbR (nbL l o) os) (i:Int):=by
   rw[bM (by rw[eG];exact h),bM (by rw[eG];exact h')];rfl
  have e2:nth (o::os) ((i+1:Nat):Int)=nth os (i:Int):=by rw[bM h,bM h'];rfl
  rw[e1,e2];exact ih
theorem nQ {κ:Type} [DecidableEq κ] {l:List κ} {y:κ} (h:y∈l): ∃(q:Nat) (hq:q<l.length),nbI l (some y)=(q:Int)/\l[q] =y:=
 ⟨l.idxOf y,List.idxOf_lt_length_of_mem h,rfl,by simp⟩
theorem Bt {κ:Type} [DecidableEq κ] {l:List κ} {y:κ} (h:y∉l):nbI l (some y)=(l.length:Int):=by simp only[nbI,oy h]
def QG:List Int->Nat->Nat->Prop
 | [],c,m=>c=m
 | x::xs,c,m=>(x= -1/\QG xs c m)\/(0<=x/\x<c/\QG xs c m)\/(x=c/\QG xs (c+1) m)
theorem Bu {κ:Type} [DecidableEq κ] : ∀(os:List (Option κ)) (l:List κ),QG (nbR l os) l.length (nbS l os).length
 | [],l=>rfl
 | none::os,l=>.inl ⟨rfl,Bu os l⟩
 | some y::os,l=>by
  by_cases c:y∈l
  ·refine .inr (.inl ⟨Int.natCast_nonneg _,?_,?_⟩)
   ·have:=List.idxOf_lt_length_of_mem c
    simp only[nbI];omega
   ·show QG (nbR (nbL l (some y)) os) l.length (nbS (nbL l (some y)) os).length
    rw[lz c];exact Bu os l
  ·refine .inr (.inr ⟨by simp only[nbI,oy c],?_⟩)
   show QG (nbR (nbL l (some y)) os) (l.length+1) (nbS (nbL l (some y)) os).length
   have:=Bu os (l++ [y])
   rw[kp c]
   simpa using this
def Wp:List Int->List (Option (List Int))->Prop
 | [],[] =>True
 | x::xs,o::os=>((x<0/\o=none)\/(0<=x/\ ∃t,o=some (x::t)))/\Wp xs os
 | _,_=>False
theorem L6: ∀(xs:List Int) (os:List (Option (List Int))),xs.length=os.length->(∀i (h:i<xs.length) (h':i<os.length),(xs[i] < 0/\os[i] =none)\/(0<=xs[i] /\ ∃t,os[i] =some (xs[i] ::t)))->Wp xs os
 | [],[],_,_=>trivial
 | x::xs,o::os,hl,h=>⟨h 0 (by simp) (by simp),L6 xs os (by simpa using hl) fun i h1 h2=>h (i+1) (by simpa using h1) (by simpa using h2)⟩
theorem mK: ∀(xs:List Int) (os:List (Option (List Int))) (l:List (List Int)) (c m:Nat),Wp xs os->QG xs c m->(∀y∈l,∃h t,y=h::t/\h<c)->
  m+l.length<=(nbS l os).length+c/\(l.length=c->(∀(q:Nat) (hq:q<l.length),∃t,l[q] =(q:Int)::t)->(nbS l os).length=m->nbR l os=xs)
 | [],[],l,c,m,_,hn,_=>by
  have hn:c=m:=hn
  subst hn
  exact ⟨by simp[nbS];omega,fun _ _ _=>rfl⟩
 | x::xs,o::os,l,c,m,hr,hn,hh=>by
  obtain ⟨hr1,hr2⟩:=hr
  rcases hn with ⟨rfl,hn⟩ | ⟨hx0,hxc,hn⟩ | ⟨rfl,hn⟩
  ·have ho:o=none:=by
    rcases hr1 with ⟨-,h⟩ | ⟨h,-⟩
    ·exact h
    ·omega
   subst ho
   obtain ⟨i1,i2⟩:=mK xs os l c m hr2 hn hh
   exact ⟨i1,fun h1 h2 h3=>by show -1::nbR l os=_;rw[i2 h1 h2 h3]⟩
  ·obtain ⟨t,rfl⟩: ∃t,o=some (x::t):=by
    rcases hr1 with ⟨h,-⟩ | ⟨-,h⟩
    ·omega
    ·exact h
   by_cases k:(x::t)∈l
   ·obtain ⟨i1,i2⟩:=mK xs os l c m hr2 hn hh
    have hb:nbL l (some (x::t))=l:=lz k
    refine ⟨by show m+l.length<=(nbS (nbL l (some (x::t))) os).length+c;rw[hb];exact i1,fun h1 h2 h3=>?_⟩
    have h3:(nbS (nbL l (some (x::t))) os).length=m:=h3
    rw[hb] at h3
    obtain ⟨q,hq,e1,e2⟩:=nQ k
    obtain ⟨t',ht'⟩:=h2 _ hq
    rw[e2] at ht'
    have:x=(q:Int):=by injection ht'
    show nbI l (some (x::t))::nbR (nbL l (some (x::t))) os=_
    rw[e1,<-this,hb,i2 h1 h2 h3]
   ·have hb:nbL l (some (x::t))=l++ [x::t]:=kp k
    obtain ⟨i1,i2⟩:=mK xs os (l++ [x::t]) c m hr2 hn (fun y hy=>by
     rcases aI hy with hy | hy
     ·exact hh y hy
     ·obtain rfl:=au hy
      exact ⟨x,t,rfl,hxc⟩)
    rw[af,List.length_singleton] at i1
    refine ⟨by show m+l.length<=(nbS (nbL l (some (x::t))) os).length+c;rw[hb];omega,fun h1 h2 h3=>?_⟩
    have h3:(nbS (nbL l (some (x::t))) os).length=m:=h3
    rw[hb] at h3
    omega
  ·obtain ⟨t,rfl⟩: ∃t,o=some ((c:Int)::t):=by
    rcases hr1 with ⟨h,-⟩ | ⟨-,h⟩
    ·omega
    ·exact h
   have k:((c:Int)::t)∉l:=fun k=>by
    obtain ⟨h,t',e,hlt⟩:=hh _ k
    have:(c:Int)=h:=by injection e
    omega
   have hb:nbL l (some ((c:Int)::t))=l++ [(c:Int)::t]:=kp k
   obtain ⟨i1,i2⟩:=mK xs os (l++ [(c:Int)::t]) (c+1) m hr2 hn (fun y hy=>by
    rcases aI hy with hy | hy
    ·obtain ⟨h,t',e,hlt⟩:=hh y hy
     exact ⟨h,t',e,by omega⟩
    ·obtain rfl:=au hy
     exact ⟨c,t,rfl,by omega⟩)
   have hlen:(l++ [(c:Int)::t]).length=l.length+1:=by simp
   rw[hlen] at i1
   refine ⟨by show m+l.length<=(nbS (nbL l (some ((c:Int)::t))) os).length+c;rw[hb];omega,fun h1 h2 h3=>?_⟩
   have h3:(nbS (nbL l (some ((c:Int)::t))) os).length=m:=h3
   rw[hb] at h3
   have:=i2 (by rw[hlen,h1]) (fun q hq=>by
    by_cases e:q<l.length
    ·rw[List.getElem_append_left e];exact h2 q e
    ·have e:q=l.length:=by omega
     subst e
     exact ⟨t,by simp;omega⟩) h3
   show nbI l (some ((c:Int)::t))::nbR (nbL l (some ((c:Int)::t))) os=_
   rw[hb,this,Bt k,h1]
theorem EY (xs ys:List Int) (hN:xs.length<=1048576): ∃r,nW xs ys=some r/\(r=0↔xs=ys):=by
 unfold nW
 have h0:=Va (f:=mU xs ys) xs ys (fun i h h'=>by
  simp only[mU,eN h,eN h',if_true,aW h,aW h',aa,ak (show i<9223372036854775807 by omega)]
  by_cases h1:xs[i] < ys[i]
  ·simp[h1]
  ·by_cases h2:xs[i] > ys[i]
   ·simp[h1,h2]
   ·simp[h1,h2]) (fun i hi=>by
  simp only[mU]
  by_cases h1:i<xs.length
  ·have h2: ¬i<ys.length:=by omega
   simp[h1,h2]
  ·simp[h1]) xs.length 0 aP (by omega) (np _ (by omega))
 rw[show (((0:Nat):Int))=(0:Int) from rfl] at h0
 rcases h0 with ⟨r,e,h1,h2⟩ | ⟨s,e,h1⟩
 ·exact ⟨r,by rw[e];rfl,by simp[h1,h2]⟩
 ·rw[e]
  simp only[aO]
  by_cases c1:xs.length<ys.length
  ·exact ⟨-1,by simp[c1],by simp;intro e;subst e;omega⟩
  ·by_cases c2:xs.length>ys.length
   ·exact ⟨1,by simp[c1,c2],by simp;intro e;subst e;omega⟩
   ·exact ⟨0,by simp[c1,c2],by simpa using h1 (by omega)⟩
theorem Dg (xs ys:List Int) (hN:xs.length<=9223372036854775807):cO xs ys=some (decide (xs=ys)):=
 eqL (f:=cg xs ys) xs ys hN (fun i h h'=>by
  simp only[cg,eN h,if_true,aW h,aW h',aa,ak (show i<9223372036854775807 by omega)]
  by_cases c:xs[i] =ys[i] <;> simp[c]) (by simp only[cg,eU];rfl)
def IF (a:AutT):List Int:=(List.range a.2.1.length).map fun s:Nat=>if nth (live a) (s:Int)=true then (if nth a.2.1 (s:Int)=true then 1 else 0) else -1
def ent (a:AutT) (c:List Int) (s:Int) (k:Nat):Int:=if mv a s k<0 then -1 else nth c (mv a s k)
def Bv (a:AutT) (c:List Int) (s:Int):List Int:=nth c s::(List.range 9).map fun k=>ent a c s k
def BA (a:AutT) (c:List Int) (s:Nat):Option (List Int):=if nth c (s:Int)<0 then none else some (Bv a c s)
def keys (a:AutT) (c:List Int):List (Option (List Int)):=(List.range a.2.1.length).map (BA a c)
def zU (a:AutT) (c:List Int):List Int:=nbR [] (keys a c)
def wo (a:AutT) (c:List Int):Nat:=(nbS [] (keys a c)).length
def cI (a:AutT):Nat->List Int
 | 0=>IF a
 | j+1=>zU a (cI a j)
section
variable {a:AutT} {n:Nat}
theorem dY (a:AutT) (c:List Int):(keys a c).length=a.2.1.length:=by simp[keys]
theorem EZ {c:List Int} {s:Nat} (h:s<a.2.1.length):nth (keys a c) (s:Int)=BA a c s:=by
 rw[bM (by simpa [keys] using h)];simp[keys]
theorem yi (a:AutT) (c:List Int):(zU a c).length=a.2.1.length:=by rw[zU,eG,dY]
theorem mL (a:AutT): ∀j,(cI a j).length=a.2.1.length
 | 0=>by simp[cI,IF]
 | j+1=>yi a _
theorem ph {κ:Type} [DecidableEq κ] : ∀(l:List κ) (os:List (Option κ)),(nbS l os).length<=l.length+os.length
 | l,[] =>by simp[nbS]
 | l,o::os=>by
  have h:=ph (nbL l o) os
  have:(nbL l o).length<=l.length+1:=by
   cases o with
   | none=>simp[nbL]
   | some x=>unfold nbL;simp only;split <;> simp
  show (nbS (nbL l o) os).length<=_
  rw[al];omega
theorem E3 (a:AutT) (c:List Int):wo a c<=a.2.1.length:=by
 have:=ph ([] :List (List Int)) (keys a c)
 rw[dY] at this
 simpa [wo] using this
theorem Bw {c:List Int} {s:Nat} (h:s<a.2.1.length):nth (zU a c) (s:Int)=nbI (nbS [] (keys a c)) (BA a c s):=by
 rw[zU,L5 _ _ _ (by rw[dY];exact h),EZ h]
theorem yj {c:List Int} {s:Nat} (h:s<a.2.1.length) (hc: ¬nth c (s:Int)<0):Bv a c s∈nbS [] (keys a c):=by
 refine sv.2 (.inr ?_)
 refine List.mem_map.2 ⟨s,List.mem_range.2 h,?_⟩
 unfold BA;rw[if_neg hc]
theorem wq {c:List Int} {s:Nat} (h:s<a.2.1.length):(nth (zU a c) (s:Int)<0↔nth c (s:Int)<0)/\(nth (zU a c) (s:Int)<0->nth (zU a c) (s:Int)= -1):=by
 rw[Bw h]
 unfold BA
 by_cases hc:nth c (s:Int)<0
 ·rw[if_pos hc];simp[nbI,hc]
 ·rw[if_neg hc]
  obtain ⟨q,hq,e,-⟩:=nQ (yj h hc)
  rw[e]
  exact ⟨⟨fun h=>by omega,fun h=>absurd h hc⟩,fun h=>by omega⟩
theorem Tk {c:List Int} {s:Nat} (h:s<a.2.1.length):nth (zU a c) (s:Int)<(a.2.1.length:Int):=by
 rw[Bw h]
 unfold BA
 by_cases hc:nth c (s:Int)<0
 ·rw[if_pos hc];simp only[nbI];omega
 ·rw[if_neg hc]
  obtain ⟨q,hq,e,-⟩:=nQ (yj h hc)
  have:=E3 a c
  unfold wo at this
  rw[e];omega
theorem L7 {c:List Int} {s t:Nat} (hs:s<a.2.1.length) (ht:t<a.2.1.length) (h0:0<=nth (zU a c) (s:Int)) (h:nth (zU a c) (s:Int)=nth (zU a c) (t:Int)):Bv a c s=Bv a c t:=by
 have n1: ¬nth c (s:Int)<0:=fun k=>by have:=(wq hs).1.2 k;omega
 have n2: ¬nth c (t:Int)<0:=fun k=>by have:=(wq ht).1.2 k;omega
 rw[Bw hs,Bw ht] at h
 unfold BA at h
 rw[if_neg n1,if_neg n2] at h
 obtain ⟨q,hq,e1,e2⟩:=nQ (yj hs n1)
 obtain ⟨q',hq',e1',e2'⟩:=nQ (yj ht n2)
 rw[e1,e1'] at h
 obtain rfl:q=q':=by omega
 rw[<-e2,<-e2']
theorem zV (a:AutT) {s:Nat} (h:s<a.2.1.length): ∀j,(nth (cI a j) (s:Int)<0↔nth (live a) (s:Int)=false)/\(nth (cI a j) (s:Int)<0->nth (cI a j) (s:Int)= -1)
 | 0=>by
  have e:nth (cI a 0) (s:Int)=if nth (live a) (s:Int)=true then (if nth a.2.1 (s:Int)=true then 1 else 0) else -1:=by
   show nth (IF a) (s:Int)=_
   rw[bM (by simpa [IF] using h)];simp[IF]
  rw[e]
  cases nth (live a) (s:Int) <;> cases nth a.2.1 (s:Int) <;> simp
 | j+1=>by
  have ih:=zV a h j
  have:=wq (c:=cI a j) h
  exact ⟨this.1.trans ih.1,this.2⟩
theorem QH (a:AutT) {s t:Nat} (hs:s<a.2.1.length) (ht:t<a.2.1.length): ∀j,0<=nth (cI a j) (s:Int)->nth (cI a j) (s:Int)=nth (cI a j) (t:Int)->nth a.2.1 (s:Int)=nth a.2.1 (t:Int)
 | 0,h0,h=>by
  have e: ∀ {s:Nat},s<a.2.1.length->nth (cI a 0) (s:Int)=if nth (live a) (s:Int)=true then (if nth a.2.1 (s:Int)=true then 1 else 0) else -1:=by
   intro s h
   show nth (IF a) (s:Int)=_
   rw[bM (by simpa [IF] using h)];simp[IF]
  rw[e hs] at h0 h
  rw[e ht] at h
  revert h0 h
  cases nth (live a) (s:Int) <;> cases nth a.2.1 (s:Int) <;> cases nth (live a) (t:Int) <;> cases nth a.2.1 (t:Int) <;> simp
 | j+1,h0,h=>by
  have k:=L7 (c:=cI a j) hs ht h0 h
  have h1:nth (cI a j) (s:Int)=nth (cI a j) (t:Int):=by
   unfold Bv at k;injection k
  refine QH a hs ht j ?_ h1
  have:=(wq (c:=cI a j) hs).1
  by_cases q:nth (cI a j) (s:Int)<0
  ·have:=this.2 q
   have h0:0<=nth (zU a (cI a j)) (s:Int):=h0
   omega
  ·omega
theorem Tl (a:AutT) (j:Nat):QG (cI a (j+1)) 0 (wo a (cI a j)):=Bu (keys a (cI a j)) []
theorem Pc (a:AutT) {c:List Int} (hc:c.length=a.2.1.length):Wp c (keys a c):=by
 refine L6 _ _ (by rw[dY,hc]) fun i h h'=>?_
 have e1:c[i] =nth c (i:Int):=(bM h).symm
 have e2:(keys a c)[i] =BA a c i:=by simp[keys]
 rw[e1,e2]
 unfold BA
 by_cases k:nth c (i:Int)<0
 ·exact .inl ⟨k,by rw[if_pos k]⟩
 ·exact .inr ⟨by omega,_,by rw[if_neg k];rfl⟩
theorem L8 (a:AutT) (j:Nat):wo a (cI a j)<=wo a (cI a (j+1))/\(wo a (cI a (j+1))=wo a (cI a j)->cI a (j+2)=cI a (j+1)):=by
 obtain ⟨h1,h2⟩:=mK (cI a (j+1)) (keys a (cI a (j+1))) [] 0 (wo a (cI a j)) (Pc a (mL a _)) (Tl a j) (fun y hy=>by cases hy)
 exact ⟨by simpa [wo] using h1,fun h=>h2 rfl (fun q hq=>absurd hq (Nat.not_lt_zero q)) h⟩
theorem QI {j k:Nat} (h:cI a (j+1)=cI a j) (hk:j<=k):cI a k=cI a j:=by
 induction hk with
 | refl=>rfl
 | step _ ih=>rw[cI,ih];exact h
theorem L9 {j k:Nat} (h:cI a (j+1)=cI a j) (h':cI a (k+1)=cI a k):cI a j=cI a k:=by
 rcases Nat.le_total j k with e | e
 ·exact (QI h e).symm
 ·exact QI h' e
theorem Tm (a:AutT): ∃j,j<=a.2.1.length/\cI a (j+1)=cI a j:=by
 by_cases h0:cI a 1=cI a 0
 ·exact ⟨0,Nat.zero_le _,h0⟩
 have hpos:1<=wo a (cI a 0):=by
  refine Nat.one_le_iff_ne_zero.2 fun hz=>h0 ?_
  have hnone: ∀s:Nat,s<a.2.1.length->nth (cI a 0) (s:Int)<0:=fun s hs=>by
   refine Classical.byContradiction fun k=>?_
   have:=yj (c:=cI a 0) hs k
   have hl:=List.length_pos_of_mem this
   unfold wo at hz;omega
  refine SK (by rw[mL,mL]) fun i hi=>?_
  rw[mL] at hi
  have h1:=(zV a hi 0).2 (hnone i hi)
  have h2:=(zV a hi 1).2 (((zV a hi 1).1.trans (zV a hi 0).1.symm).2 (hnone i hi))
  rw[h1,h2]
 have key: ∀m,(∃j,j<=m/\cI a (j+1)=cI a j)\/m+1<=wo a (cI a m):=by
  intro m
  induction m with
  | zero=>exact .inr hpos
  | succ m ih =>
   rcases ih with ⟨j,hj,e⟩ | ih
   ·exact .inl ⟨j,by omega,e⟩
   ·obtain ⟨g1,g2⟩:=L8 a m
    by_cases e:wo a (cI a (m+1))=wo a (cI a m)
    ·exact .inl ⟨m+1,aq _,g2 e⟩
    ·exact .inr (by omega)
 rcases key a.2.1.length with h | h
 ·exact h
 ·have:=E3 a (cI a a.2.1.length);omega
end
end D
namespace D
open Go.RowKit
theorem Ik (n:Nat) (l:List Int) (hd:l.Nodup) (h: ∀x∈l,0<=x/\x<n):l.length<=n:=by
 have:=hd.length_le_of_subset (l₂:=(List.range n).map Int.ofNat) (fun x hx=>by
  obtain ⟨h0,h1⟩:=h x hx
  exact List.mem_map.2 ⟨x.toNat,List.mem_range.2 (by omega),by show ((x.toNat:Nat):Int)=x;omega⟩)
 simpa using this
theorem VB {n:Nat} {x:Int} (hn:n<=1000000) (h0:0<=x) (h1:x<n):iOk x=true:=by
 have:=LZ (n:=x.toNat) (by omega)
 rwa [show ((x.toNat:Nat):Int)=x from by omega] at this
theorem VC {κ:Type} [DecidableEq κ] {nx:κ->List (Option κ)} {first:κ} {G:κ->Prop} {B N:Nat} {acc:κ->Bool} (H:NumOk nx first G B) (hB:B<=1000000) (hN:bfE nx first N):Data.sm ((0,(bfS nx first N).map acc,bfR nx first N):AutT):=by
 have hl:=H.bound _ (mI (nx:=nx) (first:=first) N) (jS H.g0 H.gn N)
 refine ⟨trivial,⟨by rw[List.length_map];omega,fun _ _=>trivial⟩,?_,?_⟩
 ·rw[iE hN.2];have:=hN.1;omega
 ·have key: ∀i,i<=N-> ∀r∈bfR nx first i,r.length=9:=by
   intro i
   induction i with
   | zero=>intro _ r hr;cases hr
   | succ i ih =>
    intro hi r hr
    have hlt:=hN.2 i (by omega)
    rw[qZ hlt] at hr
    rcases aI hr with hr | hr
    ·exact ih (by omega) r hr
    ·obtain rfl:=au hr
     rw[eG,H.len _ (jS H.g0 H.gn i _ (List.getElem_mem hlt))]
  intro r hr
  exact ⟨by rw[key N (aq _) r hr];decide,fun _ _=>trivial⟩
theorem Il:Data.sm nothing:=⟨trivial,⟨by decide,fun _ _=>trivial⟩,by decide,fun r hr=>by
 obtain rfl:=au hr
 exact ⟨by decide,fun _ _=>trivial⟩⟩
end D
namespace D
open Go.RowKit
section
variable {nx:Int×Int->List (Option (Int×Int))} {first:Int×Int} {G:Int×Int->Prop} {B:Nat}
end
end D
namespace D
open Go.RowKit
section
variable {a:AutT} {n:Nat} {c:List Int}
theorem GS (k:Nat) (s:Int):(List.range (k+1)).map (fun k=>ent a c s k)=(List.range k).map (fun k=>ent a c s k)++ [ent a c s k]:=by simp[List.range_succ]
theorem Xa (V:VA a n) (hn:n<=1000000) (hc:c.length=n) {s:Nat} (hs:s<n):nX a c s=some (Bv a c s):=by
 unfold nX
 rw[aF (by omega) (by omega)];simp only[aa]
 have:=aL (f:=lK a c s) (fun k=>(nth c (s:Int)::(List.range k).map (fun k=>ent a c s k),(k:Int))) 9 (fun k hk=>by
  have hm:=V.mv (s:=s) (k:=k) (by omega) (by omega) hk
  unfold lK
  simp only
  rw[if_pos (by simp;omega),V.get (by omega) (by omega)];simp only[aa]
  rw[V.get2 (by omega) (by omega) hk,GS];simp only[aa,ak (show k<9223372036854775807 by omega)]
  by_cases h:mv a s k<0
  ·rw[if_pos (by simpa using h),aJ (by simp;omega),show ent a c s k= -1 from by unfold ent;rw[if_pos h]];rfl
  ·rw[if_neg (by simpa using h),aF (by omega) (by omega)];simp only[aa]
   rw[aJ (by simp;omega),show ent a c s k=nth c (mv a s k) from by unfold ent;rw[if_neg h]];rfl) (by unfold lK;simp) (by unfold aP;omega)
 exact ah this
theorem Xb (V:VA a n) (hn:n<=1000000) (hc:c.length=n) {s:Nat} (hs:s<n):aC (cy c (nth a.2.2 (s:Int))) aP (0,[nth c (s:Int)])=some (.brk (9,Bv a c s)):=by
 have hr:=V.rowAt (s:=s) (by omega) (by omega)
 exact aL (f:=cy c (nth a.2.2 (s:Int))) (fun k=>((k:Int),nth c (s:Int)::(List.range k).map (fun k=>ent a c s k))) 9 (fun k hk=>by
  have hm:=V.mv (s:=s) (k:=k) (by omega) (by omega) hk
  unfold cy
  simp only
  rw[if_pos (by simp[hr];omega),V.get2 (by omega) (by omega) hk,GS];simp only[aa,ak (show k<9223372036854775807 by omega)]
  by_cases h:mv a s k<0
  ·have e:mv a s k= -1:=by omega
   rw[if_neg (by simp;omega)];simp only[aa]
   rw[aJ (by simp;omega),show ent a c s k=mv a s k from by unfold ent;rw[if_pos h,e]];rfl
  ·rw[if_pos (by simp;omega),aF (by omega) (by omega)];simp only[aa]
   rw[aJ (by simp;omega),show ent a c s k=nth c (mv a s k) from by unfold ent;rw[if_neg h]];rfl) (by unfold cy;simp[hr]) (by unfold aP;omega)
theorem Dh {κ:Type} [DecidableEq κ] {l t r:List κ} {x:κ} (e:l=t++x::r) (hx:x∉t):nbI l (some x)=(t.length:Int):=by
 subst e
 simp only[nbI]
 rw[List.idxOf_append,if_neg hx,List.idxOf_cons_self,Nat.zero_add]
def VD (l:List (List Int)) (x:List Int):Int:=if x∈l then nbI l (some x) else -1
theorem VE {l:List (List Int)} {x cs:List Int} {q:Int} (hl:l.length<=1000000) (hd:l.Nodup) (hx: ∀y∈l,y.length<=1048576):aC (fy (l,cs,q) x) aP (-1,0)=some (.brk (VD l x,(l.length:Int))):=by
 have:=aL (f:=fy (l,cs,q) x) (fun k=>(if x∈l.take k then nbI l (some x) else -1,(k:Int))) l.length (fun k hk=>by
  unfold fy
  simp only
  rw[if_pos (by simp;omega),aF (by omega) (by omega)];simp only[aa,Int.toNat_natCast,ak (show k<9223372036854775807 by omega)]
  obtain ⟨r,e,hr⟩:=EY (nth l (k:Int)) x (hx _ (bB (by omega) (by omega)))
  rw[e,take_one hk];simp only[aa,List.mem_append,List.mem_singleton]
  by_cases h:nth l (k:Int)=x
  ·have h0:r=0:=hr.2 h
   have hm:x∈l:=h ▸ bB (by omega) (by omega)
   obtain ⟨q,hq,e1,e2⟩:=nQ hm
   have:q=k:=by
    have h1:l[q]? =some x:=by rw[List.getElem?_eq_getElem hq,e2]
    have h2:l[k]? =some x:=by rw[List.getElem?_eq_getElem hk,<-bM hk,h]
    exact (List.getElem?_inj hq hd).1 (h1.trans h2.symm)
   subst this
   rw[if_pos (by simp[h0]),if_pos (.inr h.symm),e1];rfl
  ·have h0:r≠0:=fun e=>h (hr.1 e)
   have hn: ¬x=nth l (k:Int):=fun e=>h e.symm
   rw[if_neg (by simpa using h0)]
   simp[hn]) (by unfold fy;simp) (gD (by omega))
 rw[List.take_of_length_le (aq _)] at this
 exact this
theorem VF {l:List (List Int)} {x:List Int} {f:List Int->Option Bool} (hl:l.length<=1000000) (hf: ∀y∈l,f y=some (decide (y=x))):bO l f=some (VD l x):=by
 unfold bO
 obtain ⟨o,e,hq⟩:=b9 (f:=bZ l f) (fun k s=>s=(k:Int)/\x∉l.take k) (fun o=>(x∈l/\o= .ret (nbI l (some x)))\/(x∉l/\ ∃s,o= .brk s)) l.length (s:=0) (by
  rintro k s hk ⟨rfl,hx⟩
  unfold bZ
  by_cases hkl:k<l.length
  ·rw[if_pos (by simp;omega),aF (by omega) (by omega)];simp only[aa]
   rw[hf _ (bB (by omega) (by omega))];simp only[aa]
   by_cases h:nth l (k:Int)=x
   ·refine .inr ⟨_,by rw[if_pos (by simpa using h)],(fun s' e=>by cases e),.inl ?_⟩
    have hm:x∈l:=h ▸ bB (by omega) (by omega)
    refine ⟨hm,?_⟩
    have e:l=l.take k++(x::l.drop (k+1)):=by
     rw[<-h,bM hkl,<-List.drop_eq_getElem_cons hkl,List.take_append_drop]
    rw[Dh e hx,aD,Nat.min_eq_left (by omega)]
   ·refine .inl ⟨hkl,_,by rw[if_neg (by simpa using h)],by rw[ak (by omega)],?_⟩
    rw[take_one hkl,List.mem_append,List.mem_singleton]
    rintro (h' | h')
    ·exact hx h'
    ·exact h h'.symm
  ·refine .inr ⟨_,by rw[if_neg (by simp;omega)],(fun s' e=>by cases e),.inr ⟨?_,_,rfl⟩⟩
   rwa [List.take_of_length_le (by omega)] at hx) ⟨rfl,by simp⟩ (gD (by omega))
 unfold VD
 rcases hq with ⟨hx,rfl⟩ | ⟨hx,s,rfl⟩
 ·rw[bK e,if_pos hx]
 ·rw[ah e,if_neg hx]
theorem yk {os:List (Option (List Int))} (h: ∀y,some y∈os->y.length=10): ∀y∈nbS [] os,y.length=10:=fun y hy=>by
 rcases sv.1 hy with hy | hy
 ·cases hy
 ·exact h y hy
theorem zW (a:AutT) (c:List Int): ∀y,some y∈keys a c->y.length=10:=by
 intro y hy
 obtain ⟨s,-,e⟩:=List.mem_map.1 hy
 unfold BA at e
 split at e
 ·cases e
 ·rw[<-ae e];simp[Bv]
section
variable (V:VA a n) (hn:n<=1000000) (hc:c.length=n)
include V hn hc
theorem GT (s:Nat):(nbS [] ((keys a c).take s)).length<=n:=by
 have:=ph ([] :List (List Int)) ((keys a c).take s)
 rw[aD,dY,V.len] at this
 simp at this;omega
theorem Pd {m:Int} :aC (fA a (c,m)) aP ([],[],0)=some (.brk (nbS [] (keys a c),zU a c,(n:Int))):=by
 have hlen:=V.len
 have:=aL (f:=fA a (c,m)) (fun s=>(nbS [] ((keys a c).take s),nbR [] ((keys a c).take s),(s:Int))) n (fun s hs=>by
  have hkl:=GT V hn hc s
  have hrl:(nbR [] ((keys a c).take s)).length<=n:=by rw[eG,aD,dY];omega
  unfold fA
  simp only
  rw[if_pos (by simp;omega),aF (by omega) (by omega)];simp only[aa]
  rw[take_one (by rw[dY];omega),tK,qY,EZ (by omega)]
  simp only[ak (show s<9223372036854775807 by omega)]
  by_cases h:nth c (s:Int)<0
  ·rw[if_pos (by simpa using h),aJ (by simp;omega),show BA a c s=none from by unfold BA;rw[if_pos h]];rfl
  ·rw[if_neg (by simpa using h),show BA a c s=some (Bv a c s) from by unfold BA;rw[if_neg h]]
   rw[show nX (a.1,a.2.1,a.2.2) c (s:Int)=some (Bv a c s) from Xa V hn hc hs];simp only[aa]
   rw[ah (VE (by omega) (qp (by simp)) (fun y hy=>by rw[yk (fun y hy=>zW a c y (List.mem_of_mem_take hy)) y hy];decide))]
   simp only
   unfold VD
   by_cases k:Bv a c s∈nbS [] ((keys a c).take s)
   ·obtain ⟨q,hq,e1,e2⟩:=nQ k
    rw[if_pos k,lz k,e1,if_neg (by simp)];simp only[aa]
    rw[aJ (by simp;omega)];rfl
   ·rw[if_neg k,kp k,Bt k,if_pos (show decide ((-1:Int)<0)=true from rfl),aJ (by simp;omega)];simp only[aa]
    rw[aJ (by simp;omega)];rfl) (by
  unfold fA
  simp only
  rw[if_neg (by simp;omega)]) (gD (by omega))
 rw[show (keys a c).take n=keys a c from List.take_of_length_le (by rw[dY];omega)] at this
 exact this
theorem Pe:dB a c=some (zU a c,(wo a c:Int)):=by
 have hlen:=V.len
 unfold dB
 have:=aL (f:=dF a c) (fun s=>(nbS [] ((keys a c).take s),nbR [] ((keys a c).take s),(s:Int))) n (fun s hs=>by
  have hkl:=GT V hn hc s
  have hrl:(nbR [] ((keys a c).take s)).length<=n:=by rw[eG,aD,dY];omega
  unfold dF
  simp only
  rw[if_pos (by simp;omega),aF (by omega) (by omega)];simp only[aa]
  rw[take_one (by rw[dY];omega),tK,qY,EZ (by omega)]
  simp only[ak (show s<9223372036854775807 by omega)]
  by_cases h:nth c (s:Int)<0
  ·rw[if_pos (by simpa using h),aJ (by simp;omega),show BA a c s=none from by unfold BA;rw[if_pos h]];rfl
  ·rw[if_neg (by simpa using h),show BA a c s=some (Bv a c s) from by unfold BA;rw[if_neg h],V.get (by omega) (by omega)];simp only[aa]
   rw[ah (Xb V hn hc hs)];simp only
   rw[VF (x:=Bv a c s) (by omega) (fun y hy=>by
    unfold gp
    rw[Dg _ _ (by rw[yk (fun y hy=>zW a c y (List.mem_of_mem_take hy)) y hy];decide)];rfl)];simp only[aa]
   unfold VD
   by_cases k:Bv a c s∈nbS [] ((keys a c).take s)
   ·obtain ⟨q,hq,e1,e2⟩:=nQ k
    rw[if_pos k,lz k,e1,if_neg (by simp)];simp only[aa]
    rw[aJ (by simp;omega)];rfl
   ·rw[if_neg k,kp k,Bt k,if_pos (show decide ((-1:Int)<0)=true from rfl),aJ (by simp;omega)];simp only[aa]
    rw[aJ (by simp;omega)];rfl) (by
  unfold dF
  simp only
  rw[if_neg (by simp;omega)]) (gD (by omega))
 rw[show (keys a c).take n=keys a c from List.take_of_length_le (by rw[dY];omega)] at this
 exact ah this
end
end
section
variable {a:AutT} {n:Nat} (V:VA a n) (hn:n<=1000000)
include V hn
theorem Di (s:Nat):(List.range (s+1)).map (fun s:Nat=>if nth (live a) (s:Int)=true then (if nth a.2.1 (s:Int)=true then (1:Int) else 0) else -1)=(List.range s).map (fun s:Nat=>if nth (live a) (s:Int)=true then (if nth a.2.1 (s:Int)=true then 1 else 0) else -1)++ [if nth (live a) (s:Int)=true then (if nth a.2.1 (s:Int)=true then 1 else 0) else -1]:=by simp[List.range_succ]
theorem VG:aC (fx a (live a)) aP ([],0)=some (.brk (IF a,(n:Int))):=by
 have hlen:=V.len
 have hll:(live a).length=n:=by rw[pf,hlen]
 have:=aL (f:=fx a (live a)) (fun s=>((List.range s).map (fun s:Nat=>if nth (live a) (s:Int)=true then (if nth a.2.1 (s:Int)=true then (1:Int) else 0) else -1),(s:Int))) n (fun s hs=>by
  unfold fx
  simp only
  rw[if_pos (by simp;omega),V.acc (by omega) (by omega)];simp only[aa]
  rw[Di V hn,aF (xs:=live a) (by omega) (by omega)];simp only[ak (show s<9223372036854775807 by omega)]
  cases nth (live a) (s:Int) <;> cases nth a.2.1 (s:Int) <;> simp only[if_true,if_false,Bool.false_eq_true,aa] <;> rw[aJ (by simp;omega)] <;> rfl) (by
  unfold fx
  simp only
  rw[if_neg (by simp;omega)]) (gD (by omega))
 unfold IF
 rw[hlen]
 exact this
theorem VH:aC (cj a (live a)) aP ([],0)=some (.brk (IF a,(n:Int))):=by
 have hlen:=V.len
 have hll:(live a).length=n:=by rw[pf,hlen]
 have:=aL (f:=cj a (live a)) (fun s=>((List.range s).map (fun s:Nat=>if nth (live a) (s:Int)=true then (if nth a.2.1 (s:Int)=true then (1:Int) else 0) else -1),(s:Int))) n (fun s hs=>by
  unfold cj
  simp only
  rw[if_pos (by simp;omega),aF (xs:=live a) (by omega) (by omega)];simp only[aa]
  rw[Di V hn,V.acc (by omega) (by omega)];simp only[ak (show s<9223372036854775807 by omega)]
  cases nth (live a) (s:Int) <;> cases nth a.2.1 (s:Int) <;> simp only[if_true,if_false,Bool.false_eq_true,aa] <;> rw[aJ (by simp;omega)] <;> rfl) (by
  unfold cj
  simp only
  rw[if_neg (by simp;omega)]) (gD (by omega))
 unfold IF
 rw[hlen]
 exact this
theorem Ma: ∃J,cI a (J+1)=cI a J/\iV a=some (cI a J):=by
 have hlen:=V.len
 unfold iV
 rw[show j6 (a.1,a.2.1,a.2.2)=some (live a) from QE V hn];simp only[aa]
 rw[ah (VG V hn)]
 obtain ⟨J0,hJ0,hfix⟩:=Tm a
 obtain ⟨o,e,j,rfl,hj⟩:=b9 (f:=j7 a) (fun j s=>s=(cI a j,(j:Int))/\j<=J0) (fun o=> ∃j,o= .ret (cI a j)/\cI a (j+1)=cI a j) (J0+1) (s:=(cI a 0,0)) (by
  rintro j s hj ⟨rfl,hjJ⟩
  have hcl:(cI a j).length=n:=by rw[mL,hlen]
  unfold j7
  simp only
  rw[if_pos (by simp;omega),ah (Pd V hn hcl)]
  simp only
  obtain ⟨r,er,hr⟩:=EY (zU a (cI a j)) (cI a j) (by rw[yi];omega)
  rw[er];simp only[aa,ak (show j<9223372036854775807 by omega)]
  by_cases h:zU a (cI a j)=cI a j
  ·exact .inr ⟨_,by rw[if_pos (by simpa using hr.2 h)],(fun s' e=>by cases e),j,rfl,h⟩
  ·refine .inl ⟨by omega,(cI a (j+1),((j+1:Nat):Int)),by rw[if_neg (by simpa using fun e=>h (hr.1 e))];rfl,rfl,?_⟩
   by_cases e:j=J0
   ·subst e;exact absurd hfix h
   ·omega) ⟨rfl,Nat.zero_le _⟩ (gD (by omega))
 exact ⟨j,hj,bK e⟩
theorem Mb: ∃J,cI a (J+1)=cI a J/\dg a=some (cI a J):=by
 have hlen:=V.len
 unfold dg
 rw[show eI (a.1,a.2.1,a.2.2)=some (live a) from Vx V hn];simp only[aa]
 rw[ah (VH V hn)]
 let kk:Nat->Int:=fun j=>match j with | 0=> -1 | i+1=>(wo a (cI a i):Int)
 obtain ⟨o,e,j,rfl,hj⟩:=b9 (f:=fC a) (fun j s=>s=(cI a j,kk j)/\(j:Int)<=kk j+1) (fun o=> ∃j,o= .ret (cI a j)/\cI a (j+1)=cI a j) (n+2) (s:=(cI a 0,-1)) (by
  rintro j s hj ⟨rfl,hjk⟩
  have hcl:(cI a j).length=n:=by rw[mL,hlen]
  have hle:=E3 a (cI a j)
  unfold fC
  simp only
  rw[show dB (a.1,a.2.1,a.2.2) (cI a j)=some (zU a (cI a j),(wo a (cI a j):Int)) from Pe V hn hcl];simp only[aa]
  cases j with
  | zero =>
   refine .inl ⟨by omega,(cI a 1,kk 1),by rw[if_neg (by show¬((wo a (cI a 0):Int) == -1)=true;simp)];rfl,rfl,?_⟩
   show (1:Int)<=(wo a (cI a 0):Int)+1
   omega
  | succ i =>
   obtain ⟨g1,g2⟩:=L8 a i
   have hki:kk (i+1)=(wo a (cI a i):Int):=rfl
   rw[hki] at hjk⊢
   by_cases h:wo a (cI a (i+1))=wo a (cI a i)
   ·refine .inr ⟨.ret (cI a (i+2)),by rw[if_pos (by simp[h])];rfl,(fun s' e=>by cases e),i+2,rfl,?_⟩
    have:=g2 h
    show zU a (cI a (i+2))=cI a (i+2)
    rw[this];exact this
   ·refine .inl ⟨?_,(cI a (i+2),kk (i+2)),by rw[if_neg (by simp;omega)];rfl,rfl,?_⟩
    ·omega
    ·show ((i+1+1:Nat):Int)<=(wo a (cI a (i+1)):Int)+1
     omega) ⟨rfl,by show ((0:Nat):Int)<= -1+1;omega⟩ (gD (by omega))
 exact ⟨j,hj,bK e⟩
theorem Im: ∃c,iV a=some c/\dg a=some c/\c.length=n/\zU a c=c/\ ∃j,c=cI a j:=by
 obtain ⟨J,hJ,es⟩:=Ma V hn
 obtain ⟨J',hJ',ei⟩:=Mb V hn
 have:=L9 hJ hJ'
 exact ⟨cI a J,es,by rw[this];exact ei,by rw[mL,V.len],hJ,J,rfl⟩
end
end D
namespace D
open Go.RowKit
section
variable {κ:Type} [DecidableEq κ] [Inhabited κ] {nx:κ->List (Option κ)} {first:κ} {G:κ->Prop} {B N:Nat} {acc:κ->Bool}
theorem ym: ∀(l:List κ) (os:List (Option κ)),∀t∈nbR l os,-1<=t/\t<((nbS l os).length:Int)
 | l,[] =>fun t ht=>by cases ht
 | l,o::os=>fun t ht=>by
  have hp:=ko (nbL l o) os
  have hl:=hp.length_le
  rcases ay ht with rfl | ht
  ·show -1<=nbI l o/\nbI l o<((nbS (nbL l o) os).length:Int)
   cases o with
   | none=>exact ⟨by simp[nbI],by simp only[nbI];omega⟩
   | some y =>
    by_cases c:y∈l
    ·obtain ⟨q,hq,e,-⟩:=nQ c
     rw[lz c] at hl
     rw[e];exact ⟨by omega,by rw[lz c];omega⟩
    ·rw[kp c] at hl
     rw[Bt c];rw[af] at hl
     exact ⟨by omega,by rw[kp c];simp at hl;omega⟩
  ·exact ym (nbL l o) os t ht
theorem VI (H:NumOk nx first G B) (hN:bfE nx first N):VA ((0,(bfS nx first N).map acc,bfR nx first N):AutT) N:=by
 have h0:0<N:=by
  have:=tL (nx:=nx) (first:=first) N
  have:=(List.getElem?_eq_some_iff.1 this).1
  have:=hN.1;omega
 have key: ∀i,i<=N-> ∀r∈bfR nx first i,r.length=9/\ ∀t∈r,-1<=t/\t<(N:Int):=by
  intro i
  induction i with
  | zero=>intro _ r hr;cases hr
  | succ i ih =>
   intro hi r hr
   have hlt:=hN.2 i (by omega)
   rw[qZ hlt] at hr
   rcases aI hr with hr | hr
   ·exact ih (by omega) r hr
   ·obtain rfl:=au hr
    refine ⟨by rw[eG,H.len _ (jS H.g0 H.gn i _ (List.getElem_mem hlt))],fun t ht=>?_⟩
    have:=ym _ _ t ht
    rw[<-vZ hlt] at this
    have hl:=(oz (nx:=nx) (first:=first) hi).length_le
    have:=hN.1
    omega
 exact ⟨by show ((bfS nx first N).map acc).length=N;rw[List.length_map];exact hN.1.symm,⟨Int.le_refl _,by show (0:Int)<N;omega⟩,iE hN.2,fun r hr=>(key N (aq _) r hr).1,fun r hr=>(key N (aq _) r hr).2⟩
theorem Mc (hlen: ∀x,(nx x).length=9) (hN:bfE nx first N):VA ((0,(bfS nx first N).map acc,bfR nx first N):AutT) N:=by
 have h0:0<N:=by
  have:=tL (nx:=nx) (first:=first) N
  have:=(List.getElem?_eq_some_iff.1 this).1
  have:=hN.1;omega
 have key: ∀i,i<=N-> ∀r∈bfR nx first i,r.length=9/\ ∀t∈r,-1<=t/\t<(N:Int):=by
  intro i
  induction i with
  | zero=>intro _ r hr;cases hr
  | succ i ih =>
   intro hi r hr
   have hlt:=hN.2 i (by omega)
   rw[qZ hlt] at hr
   rcases aI hr with hr | hr
   ·exact ih (by omega) r hr
   ·obtain rfl:=au hr
    refine ⟨by rw[eG,hlen _],fun t ht=>?_⟩
    have:=ym _ _ t ht
    rw[<-vZ hlt] at this
    have hl:=(oz (nx:=nx) (first:=first) hi).length_le
    have:=hN.1
    omega
 exact ⟨by show ((bfS nx first N).map acc).length=N;rw[List.length_map];exact hN.1.symm,⟨Int.le_refl _,by show (0:Int)<N;omega⟩,iE hN.2,fun r hr=>(key N (aq _) r hr).1,fun r hr=>(key N (aq _) r hr).2⟩
end
theorem VA.self {a:AutT} {n:Nat} (v:VA a n):VA a a.2.1.length:=by
 have e:=v.len
 subst e
 exact v
theorem zX:VA nothing 1:=⟨rfl,⟨by decide,by decide⟩,rfl,fun r hr=>by
 obtain rfl:=au hr
 decide,fun r hr=>by
 obtain rfl:=au hr
 decide⟩
end D
namespace D
open Go.RowKit
theorem Tn {l:List Int} {x:Int} (hl:l.length<=1000000) (hx:x∈l):aX x l=some (nbI l (some x)):=by
 unfold aX bL
 obtain ⟨o,e,hq⟩:=b9 (f:=bs l x) (fun k s=>s=(k:Int)/\x∉l.take k) (fun o=>o= .ret (nbI l (some x))) l.length (s:=0) (by
  rintro k s hk ⟨rfl,hx'⟩
  unfold bs
  by_cases hkl:k<l.length
  ·rw[if_pos (by simp;omega),aF (by omega) (by omega)];simp only[aa]
   by_cases h:nth l (k:Int)=x
   ·refine .inr ⟨_,by rw[if_pos (by simp[h])],(fun s' e=>by cases e),?_⟩
    have e:l=l.take k++(x::l.drop (k+1)):=by
     rw[<-h,bM hkl,<-List.drop_eq_getElem_cons hkl,List.take_append_drop]
    rw[Dh e hx',aD,Nat.min_eq_left (by omega)]
   ·have h': ¬x=nth l (k:Int):=fun e=>h e.symm
    refine .inl ⟨hkl,_,by rw[if_neg (by simpa using h')],by rw[ak (by omega)],?_⟩
    rw[take_one hkl,List.mem_append,List.mem_singleton]
    rintro (h' | h')
    ·exact hx' h'
    ·exact h h'.symm
  ·rw[List.take_of_length_le (by omega)] at hx'
   exact absurd hx hx') ⟨rfl,by simp⟩ (gD (by omega))
 subst hq
 rw[bK e];rfl
section
variable {a:AutT} {n:Nat}
def rep (c:List Int) (x:Int):Int:=nbI c (some x)
theorem Md {c:List Int} {x:Int} (h:x∈c):0<=rep c x/\rep c x<c.length/\nth c (rep c x)=x:=by
 obtain ⟨q,hq,e1,e2⟩:=nQ h
 unfold rep
 rw[e1]
 exact ⟨by omega,by omega,by rw[bM hq,e2]⟩
def XK (a:AutT) (n:Nat) (r:AutT):Prop:=(nth (live a) a.1=false/\r=nothing)\/(nth (live a) a.1=true/\ ∃(j:Nat) (c:List Int) (nx:Int->List (Option Int)) (ac:Int->Bool) (N:Nat),c=cI a j/\(∀r,good n (live a) r->nx (nth c r)=pg a c (live a) r)/\(∀r,good n (live a) r->ac (nth c r)=nth a.2.1 r)/\bfE nx (nth c a.1) N/\(∀x∈bfS nx (nth c a.1) N,(nx x).length=9)/\r=(0,(bfS nx (nth c a.1) N).map ac,bfR nx (nth c a.1) N))
theorem zY (V:VA a n) (hn:n<=1000000): ∃r,fB a=some r/\cd a=some r/\Data.sm r/\VA r r.2.1.length/\r.2.1.length<=n/\XK a n r:=by
 have hlen:=V.len
 have hst:=V.start
 have hll:(live a).length=n:=by rw[pf,hlen]
 obtain ⟨c,es,ei,hcl,hfix,j,hj⟩:=Im V hn
 have hneg: ∀s:Int,0<=s->s<n->(nth c s<0↔nth (live a) s=false):=fun s h0 h1=>by
  have:=(zV a (s:=s.toNat) (by omega) j).1
  rw[<-hj,show ((s.toNat:Nat):Int)=s from by omega] at this
  exact this
 have hlt: ∀s:Int,0<=s->s<n->nth c s<n:=fun s h0 h1=>by
  have:=Tk (c:=c) (a:=a) (s:=s.toNat) (by omega)
  rw[hfix,hlen,show ((s.toNat:Nat):Int)=s from by omega] at this
  exact this
 have hpos: ∀r,good n (live a) r->0<=nth c r:=fun r hr=>by
  have:=hneg r hr.1 hr.2.1
  by_cases k:nth c r<0
  ·have:=this.1 k;rw[hr.2.2] at this;cases this
  ·omega
 have hkey: ∀r t:Int,0<=r->r<n->0<=t->t<n->0<=nth c r->nth c r=nth c t->Bv a c r=Bv a c t:=fun r t r0 r1 t0 t1 h0 h=>by
  have:=L7 (a:=a) (c:=c) (s:=r.toNat) (t:=t.toNat) (by omega) (by omega) (by rw[hfix,show ((r.toNat:Nat):Int)=r from by omega];exact h0) (by rw[hfix,show ((r.toNat:Nat):Int)=r from by omega,show ((t.toNat:Nat):Int)=t from by omega];exact h)
  rwa [show ((r.toNat:Nat):Int)=r from by omega,show ((t.toNat:Nat):Int)=t from by omega] at this
 have hacc: ∀r t:Int,0<=r->r<n->0<=t->t<n->0<=nth c r->nth c r=nth c t->nth a.2.1 r=nth a.2.1 t:=fun r t r0 r1 t0 t1 h0 h=>by
  have:=QH a (s:=r.toNat) (t:=t.toNat) (by omega) (by omega) j (by rw[<-hj,show ((r.toNat:Nat):Int)=r from by omega];exact h0) (by rw[<-hj,show ((r.toNat:Nat):Int)=r from by omega,show ((t.toNat:Nat):Int)=t from by omega];exact h)
  rwa [show ((r.toNat:Nat):Int)=r from by omega,show ((t.toNat:Nat):Int)=t from by omega] at this
 have hsuccs: ∀r,good n (live a) r->pg a c (live a) r=(List.range 9).map fun k=>if 0<=ent a c r k then some (ent a c r k) else none:=fun r hr=>by
  refine List.map_congr_left fun k hk=>?_
  have hk:k<9:=List.mem_range.1 hk
  have hm:=V.mv hr.1 hr.2.1 hk
  unfold ent
  by_cases h:mv a r k<0
  ·rw[if_pos h,if_neg (fun h'=>by omega),if_neg (by omega)]
  ·rw[if_neg h]
   have:=hneg (mv a r k) (by omega) hm.2
   cases hl:nth (live a) (mv a r k) with
   | false =>
    have:=this.2 hl
    rw[if_neg (fun h'=>by cases h'.2),if_neg (by omega)]
   | true =>
    have: ¬nth c (mv a r k)<0:=fun h'=>by have:=this.1 h';rw[hl] at this;cases this
    rw[if_pos ⟨by omega,rfl⟩,if_pos (by omega)]
 have hent: ∀r t:Int,Bv a c r=Bv a c t-> ∀k,k<9->ent a c r k=ent a c t k:=fun r t h k hk=>by
  have h:(List.range 9).map (fun k=>ent a c r k)=(List.range 9).map (fun k=>ent a c t k):=by unfold Bv at h;injection h
  have:=congrArg (fun l:List Int=>l[k]?) h
  simpa [hk] using this
 let nx:Int->List (Option Int):=fun x=>pg a c (live a) (rep c x)
 let acc:Int->Bool:=fun x=>nth a.2.1 (rep c x)
 let G:Int->Prop:=fun x=> ∃r,good n (live a) r/\nth c r=x
 have Gm: ∀x,G x->x∈c/\0<=x/\good n (live a) (rep c x):=by
  rintro x ⟨r,hr,rfl⟩
  have hm:nth c r∈c:=bB hr.1 (by rw[hcl];exact hr.2.1)
  obtain ⟨h0,h1,h2⟩:=Md hm
  have hp:=hpos r hr
  refine ⟨hm,hp,h0,by omega,?_⟩
  have:=hneg (rep c (nth c r)) h0 (by omega)
  rw[h2] at this
  cases hl:nth (live a) (rep c (nth c r)) with
  | true=>rfl
  | false=>have:=this.2 hl;omega
 have hnx: ∀r,good n (live a) r->nx (nth c r)=pg a c (live a) r:=fun r hr=>by
  obtain ⟨hm,hp,hg⟩:=Gm _ ⟨r,hr,rfl⟩
  obtain ⟨h0,h1,h2⟩:=Md hm
  show pg a c (live a) (rep c (nth c r))=_
  rw[hsuccs _ hg,hsuccs _ hr]
  refine List.map_congr_left fun k hk=>?_
  rw[hent _ _ (hkey _ _ hg.1 hg.2.1 hr.1 hr.2.1 (by rw[h2];exact hp) h2) k (List.mem_range.1 hk)]
 have hac: ∀r,good n (live a) r->acc (nth c r)=nth a.2.1 r:=fun r hr=>by
  obtain ⟨hm,hp,hg⟩:=Gm _ ⟨r,hr,rfl⟩
  obtain ⟨h0,h1,h2⟩:=Md hm
  exact hacc _ _ hg.1 hg.2.1 hr.1 hr.2.1 (by rw[h2];exact hp) h2
 have hgn: ∀r,good n (live a) r-> ∀y,some y∈pg a c (live a) r->G y:=fun r hr y h=>by
  obtain ⟨k,hk,e⟩:=List.mem_map.1 h
  have hk:k<9:=List.mem_range.1 hk
  split at e
  ·rename_i hc
   exact ⟨mv a r k,⟨hc.1,(V.mv hr.1 hr.2.1 hk).2,hc.2⟩,ae e⟩
  ·cases e
 unfold fB cd
 simp only[kl]
 rw[es,ei,QE V hn];simp only[aa]
 rw[aF hst.1 (by omega)];simp only[aa]
 cases hs:nth (live a) a.1 with
 | false =>
  have:=(hneg a.1 hst.1 hst.2).2 hs
  rw[EX V hll hs,if_pos (by simpa using this),LY]
  exact ⟨nothing,rfl,rfl,Il,zX,V.pos,.inl ⟨hs,rfl⟩⟩
 | true =>
  have hst':good n (live a) a.1:=⟨hst.1,hst.2,hs⟩
  have hp:=hpos _ hst'
  have H:NumOk nx (nth c a.1) G n:=⟨⟨a.1,hst',rfl⟩,fun x hx y hy=>hgn _ (Gm x hx).2.2 y hy,fun x hx=>by simp[nx,pg],fun l hd h=>Ik n l hd fun x hx=>by
   obtain ⟨r,hr,rfl⟩:=h x hx
   exact ⟨hpos r hr,hlt r hr.1 hr.2.1⟩⟩
  obtain ⟨N,hN,e1⟩:=Vz (acc:=acc) V hn hcl hll hs H hn hnx hac
  have hfirst: ∀x,G x->aX x c=some (rep c x):=fun x hx=>Tn (by omega) (Gm x hx).1
  obtain ⟨N',hN',e2⟩:=Vy (most:=(c.length:Int)) (p2:=fun a0=>cm a0 (a.1,a.2.1,a.2.2) (fun a0=>aX a0 c)) (p3:=fun a0 a1=>cn a0 a1 (a.1,a.2.1,a.2.2) (fun a0=>aX a0 c) c) (acc:=acc) H hn (by omega) (fun x hx=>VB hn (Gm x hx).2.1 (by
    obtain ⟨r,hr,rfl⟩:=hx
    exact hlt r hr.1 hr.2.1)) (fun x hx=>by
   show cm x (a.1,a.2.1,a.2.2) (fun a0=>aX a0 c)=_
   unfold cm
   simp only
   rw[hfirst x hx];simp only[aa]
   rw[V.acc (Gm x hx).2.2.1 (Gm x hx).2.2.2.1];rfl) (fun x k hx hk=>by
   obtain ⟨hm,hx0,hg⟩:=Gm x hx
   have hm':=V.mv hg.1 hg.2.1 hk
   refine ⟨0,?_⟩
   show cn x k (a.1,a.2.1,a.2.2) (fun a0=>aX a0 c) c=_
   unfold cn
   simp only
   rw[hfirst x hx];simp only[aa]
   rw[show bc (a.1,a.2.1,a.2.2) (rep c x) k=some (mv a (rep c x) k) from xS V hg.1 hg.2.1 hk];simp only[aa]
   show _=some (match nth (pg a c (live a) (rep c x)) (k:Int) with | some y=>(y,true) | none=>(0,false))
   rw[GR hk]
   by_cases h:mv a (rep c x) k<0
   ·rw[if_pos (by simpa using h),if_neg (fun h'=>by omega)]
   ·rw[if_neg (by simpa using h),aF (by omega) (by omega)];simp only[aa]
    have hng:=hneg (mv a (rep c x) k) (by omega) hm'.2
    cases hl:nth (live a) (mv a (rep c x) k) with
    | false =>
     have:=hng.2 hl
     rw[if_pos (by simpa using this),if_neg (fun h'=>by cases h'.2)]
    | true =>
     have: ¬nth c (mv a (rep c x) k)<0:=fun h'=>by have:=hng.1 h';rw[hl] at this;cases this
     rw[if_neg (by simpa using this),if_pos ⟨by omega,rfl⟩])
  obtain rfl:=OL hN hN'
  have v:=VI (acc:=acc) H hN
  refine ⟨_,by rw[e1];rfl,?_,VC H hn hN,v.self,?_,.inr ⟨hs,j,c,nx,acc,N,hj,hnx,hac,hN,fun x _=>by simp[nx,pg],rfl⟩⟩
  rotate_left
  ·rw[v.len,hN.1];exact H.bound _ (mI N) (jS H.g0 H.gn N)
  rw[if_neg (by simp;omega)]
  exact (congrArg (fun x=>Option.bind x _) e2).trans rfl
theorem Io (V:VA a n) (hn:n<=1000000): ∃r,fB a=some r/\cd a=some r/\Data.sm r/\VA r r.2.1.length/\r.2.1.length<=n:=by
 obtain ⟨r,h1,h2,h3,h4,h5,-⟩:=zY V hn
 exact ⟨r,h1,h2,h3,h4,h5⟩
theorem Pf (V:VA a n) (hn:n<=1000000): ∃r,fB a=some r/\cd a=some r/\Data.sm r:=by
 obtain ⟨r,h1,h2,h3,-⟩:=Io V hn
 exact ⟨r,h1,h2,h3⟩
end
end D
namespace D
open Go.RowKit
end D
namespace D
open Go.RowKit
section
variable {a b:AutT} {n m:Nat}
def mvn (a:AutT) (s:Int) (k:Nat):Int:=if s<0 then -1 else mv a s k
def acn (a:AutT) (s:Int):Bool:=if s<0 then false else nth a.2.1 s
end
end D
namespace D
open Go.RowKit
section
variable {κ:Type} [DecidableEq κ] {nx:κ->List (Option κ)} {first:κ} {N:Nat}
theorem Me: ∀ {l:List κ} {x:κ} (h:x∈l),l[l.idxOf x]'(List.idxOf_lt_length_iff.2 h)=x:=fun {l x} h=>by simp
def krun (nx:κ->List (Option κ)):Option κ->List Nat->Option κ
 | x,[] =>x
 | none,_::_=>none
 | some x,k::w=>krun nx (nth (nx x) (k:Int)) w
theorem yn (nx:κ->List (Option κ)): ∀w,krun nx none w=none
 | [] =>rfl
 | _::_=>rfl
theorem VJ (E:bfE nx first N) {i:Nat} (hi:i<N) {j:Nat} (hij:i<j) (hj:j<=N):nth (bfR nx first j) (i:Int)=nbR (bfS nx first i) (nx ((bfS nx first i)[i]'(E.2 i hi))):=by
 induction j with
 | zero=>omega
 | succ j ih =>
  rw[qZ (E.2 j (by omega))]
  have hl:(bfR nx first j).length=j:=iE fun m hm=>E.2 m (by omega)
  by_cases h:i<j
  ·rw[jR (by omega) (by omega),ih h (by omega)]
  ·obtain rfl:i=j:=by omega
   rw[bM (by rw[af,hl];simp)]
   simp[hl]
theorem VK {i:Nat} (h:i<(bfS nx first i).length) {j:Nat} (hij:i<=j):(bfS nx first j)[i]? =some ((bfS nx first i)[i]):=by
 have hp:=oz (nx:=nx) (first:=first) hij
 obtain ⟨t,ht⟩:=hp
 rw[<-ht,List.getElem?_append_left h,List.getElem?_eq_getElem h]
theorem To (E:bfE nx first N) {x:κ} (hx:x∈bfS nx first N) {k:Nat} (hk:k<(nx x).length) :
  nth (nth (bfR nx first N) ((bfS nx first N).idxOf x:Int)) (k:Int)=(match nth (nx x) (k:Int) with | none=> -1 | some y=>((bfS nx first N).idxOf y:Int))/\ ∀y,nth (nx x) (k:Int)=some y->y∈bfS nx first N:=by
 have hlt:(bfS nx first N).idxOf x<N:=by
  have:=List.idxOf_lt_length_iff.2 hx
  have:=E.1
  omega
 generalize hi:(bfS nx first N).idxOf x=i at hlt⊢
 have hl:=E.2 i hlt
 have hxi:(bfS nx first i)[i] =x:=by
  have h1:=VK hl (Nat.le_of_lt hlt)
  have h2:(bfS nx first N)[i]? =some x:=by
   rw[<-hi,List.getElem?_eq_getElem (List.idxOf_lt_length_iff.2 hx),Me hx]
  rw[h1] at h2;exact ae h2
 rw[VJ E hlt hlt (aq _),hxi,L5 _ _ _ hk]
 have hs:nbS (bfS nx first i) (nx x)=bfS nx first (i+1):=by rw[vZ hl,hxi]
 have hp:nbS (bfS nx first i) (nx x) <+:bfS nx first N:=by rw[hs];exact oz hlt
 cases ho:nth (nx x) (k:Int) with
 | none=>exact ⟨rfl,fun y hy=>by cases hy⟩
 | some y =>
  have hm:some y∈nx x:=by
   rw[<-ho];exact bB (by omega) (by omega)
  have hy:y∈nbS (bfS nx first i) (nx x):=sv.2 (.inr hm)
  refine ⟨?_,fun z hz=>?_⟩
  ·show ((nbS (bfS nx first i) (nx x)).idxOf y:Int)=_
   exact (zT hp hy).symm
  ·obtain rfl:=ae hz
   exact hp.subset hy
end
def oG (a:AutT) (s:Int) (w:List Nat):Int:=w.foldl (mvn a) s
def acw (a:AutT) (w:List Nat):Bool:=acn a (oG a a.1 w)
theorem q9 (a:AutT): ∀(w:List Nat) (s:Int),s<0->oG a s w<0
 | [],s,h=>h
 | k::w,s,h=>by
  show oG a (mvn a s k) w<0
  exact q9 a w _ (by unfold mvn;rw[if_pos h];omega)
theorem mM (a:AutT) (s:Int) (v w:List Nat):oG a s (v++w)=oG a (oG a s v) w:=by unfold oG;rw[List.foldl_append]
section
variable {κ:Type} [DecidableEq κ] {nx:κ->List (Option κ)} {first:κ} {N:Nat}
structure NumA (r:AutT) (nx:κ->List (Option κ)) (first:κ) (ac:κ->Bool) (N:Nat):Prop where
 E:bfE nx first N
 st:r.1=0
 accs:r.2.1=(bfS nx first N).map ac
 rows:r.2.2=bfR nx first N
 len: ∀x∈bfS nx first N,(nx x).length=9
theorem NumA.run {r:AutT} {ac:κ->Bool} (H:NumA r nx first ac N): ∀(w:List Nat) (x:κ),(∀k∈w,k<9)->x∈bfS nx first N->(krun nx (some x) w=none/\D.oG r ((bfS nx first N).idxOf x:Int) w<0)\/ ∃y∈bfS nx first N,krun nx (some x) w=some y/\D.oG r ((bfS nx first N).idxOf x:Int) w=((bfS nx first N).idxOf y:Int)
 | [],x,_,hx=>.inr ⟨x,hx,rfl,rfl⟩
 | k::w,x,hw,hx=>by
  obtain ⟨h1,h2⟩:=To H.E hx (k:=k) (by rw[H.len x hx];exact hw k (by simp))
  have e:D.oG r ((bfS nx first N).idxOf x:Int) (k::w)=D.oG r (mvn r ((bfS nx first N).idxOf x:Int) k) w:=rfl
  have em:mvn r ((bfS nx first N).idxOf x:Int) k=nth (nth (bfR nx first N) ((bfS nx first N).idxOf x:Int)) (k:Int):=by
   unfold mvn mv;rw[if_neg (by omega),H.rows]
  have ek:krun nx (some x) (k::w)=krun nx (nth (nx x) (k:Int)) w:=rfl
  rw[e,em,h1,ek]
  cases ho:nth (nx x) (k:Int) with
  | none=>exact .inl ⟨yn nx w,q9 r w _ (by show (-1:Int)<0;omega)⟩
  | some y=>exact NumA.run H w y (fun j hj=>hw j (aZ _ hj)) (h2 y ho)
theorem NumA.acw {r:AutT} {ac:κ->Bool} (H:NumA r nx first ac N) {w:List Nat} (hw: ∀k∈w,k<9):D.acw r w=(match krun nx (some first) w with | none=>false | some y=>ac y):=by
 have hf:first∈bfS nx first N:=List.mem_of_getElem? (tL N)
 have h0:(bfS nx first N).idxOf first=0:=by
  have h1:=tL (nx:=nx) (first:=first) N
  cases hL:bfS nx first N with
  | nil=>rw[hL] at h1;cases h1
  | cons z l =>
   rw[hL] at h1
   obtain rfl:=ae (show some z=some first from h1)
   simp
 unfold D.acw
 rw[H.st]
 have hr:=H.run w first hw hf
 rw[h0] at hr
 rcases hr with ⟨h1,h2⟩ | ⟨y,hy,h1,h2⟩
 ·rw[h1]
  have h2:D.oG r 0 w<0:=h2
  unfold acn
  rw[if_pos h2]
 ·rw[h1]
  have h2:D.oG r 0 w=_:=h2
  rw[h2]
  have hlt:=List.idxOf_lt_length_iff.2 hy
  unfold acn
  rw[if_neg (by omega),H.accs]
  show nth (List.map ac (bfS nx first N)) (((bfS nx first N).idxOf y:Nat):Int)=ac y
  rw[bM (by rw[List.length_map];exact hlt),List.getElem_map,Me hy]
end
section
variable {κ:Type} [DecidableEq κ] {nx:κ->List (Option κ)} {N:Nat} {a:AutT} {good inR:Int->Prop} {f:Int->κ} {ac:κ->Bool}
structure Quot (a:AutT) (nx:κ->List (Option κ)) (ac:κ->Bool) (f:Int->κ) (good inR:Int->Prop):Prop where
 r0:inR a.1
 rin: ∀s k,inR s->k<9->inR (mvn a s k)
 pos: ∀s,good s->0<=s
 yes: ∀s k,good s->k<9->good (mv a s k)->nth (nx (f s)) (k:Int)=some (f (mv a s k))
 no: ∀s k,good s->k<9-> ¬good (mv a s k)->nth (nx (f s)) (k:Int)=none
 acc: ∀s,good s->ac (f s)=nth a.2.1 s
 back: ∀s k,inR s->k<9-> ¬good s-> ¬good (mvn a s k)
 bad: ∀s,inR s-> ¬good s->acn a s=false
theorem Quot.bad_run (Q:Quot a nx ac f good inR): ∀(w:List Nat) (s:Int),(∀k∈w,k<9)->inR s-> ¬good s-> ¬good (oG a s w)/\inR (oG a s w)
 | [],s,_,hi,h=>⟨h,hi⟩
 | k::w,s,hw,hi,h=>Q.bad_run w (mvn a s k) (fun j hj=>hw j (aZ _ hj)) (Q.rin s k hi (hw k (by simp))) (Q.back s k hi (hw k (by simp)) h)
theorem Quot.krun (Q:Quot a nx ac f good inR): ∀(w:List Nat) (s:Int),(∀k∈w,k<9)->inR s->good s->(good (oG a s w)/\D.krun nx (some (f s)) w=some (f (oG a s w)))\/(¬good (oG a s w)/\inR (oG a s w)/\D.krun nx (some (f s)) w=none)
 | [],s,_,hi,h=>.inl ⟨h,rfl⟩
 | k::w,s,hw,hi,h=>by
  have hk:k<9:=hw k (by simp)
  have hw': ∀j∈w,j<9:=fun j hj=>hw j (aZ _ hj)
  have em:mvn a s k=mv a s k:=by unfold mvn;rw[if_neg (by have:=Q.pos s h;omega)]
  have hi':=Q.rin s k hi hk
  show (good (oG a (mvn a s k) w)/\D.krun nx (nth (nx (f s)) (k:Int)) w=some (f (oG a (mvn a s k) w)))\/(¬good (oG a (mvn a s k) w)/\inR (oG a (mvn a s k) w)/\D.krun nx (nth (nx (f s)) (k:Int)) w=none)
  by_cases hg:good (mv a s k)
  ·rw[Q.yes s k h hk hg,em]
   rw[em] at hi'
   exact Q.krun w _ hw' hi' hg
  ·rw[Q.no s k h hk hg,yn]
   obtain ⟨h1,h2⟩:=Q.bad_run w (mvn a s k) hw' hi' (by rw[em];exact hg)
   exact .inr ⟨h1,h2,rfl⟩
theorem Quot.acw {r:AutT} (Q:Quot a nx ac f good inR) (h0:good a.1) (H:NumA r nx (f a.1) ac N) {w:List Nat} (hw: ∀k∈w,k<9):D.acw r w=D.acw a w:=by
 rw[H.acw hw]
 rcases Q.krun w a.1 hw Q.r0 h0 with ⟨h1,h2⟩ | ⟨h1,h2,h3⟩
 ·rw[h2]
  show ac (f (oG a a.1 w))=acn a (oG a a.1 w)
  rw[Q.acc _ h1]
  unfold acn
  rw[if_neg (by have:=Q.pos _ h1;omega)]
 ·rw[h3]
  exact (Q.bad _ h2 h1).symm
end
end D
end Go.Proofs.YtbhafdfiplkacaaGreat
