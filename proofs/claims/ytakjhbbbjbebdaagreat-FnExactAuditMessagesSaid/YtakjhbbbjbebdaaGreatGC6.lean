/- FnExactAuditMessages: for every input the law returns true and changes nothing that was there. Part 7 of 8. -/
import Derived.Test.YtakjhbbbjbebdaaGreatGC5
set_option linter.unusedVariables false
set_option linter.unusedSimpArgs false
set_option linter.unnecessarySimpa false
set_option linter.unusedSectionVars false
set_option maxRecDepth 1000000
namespace Go.Proofs.YtakjhbbbjbebdaaGreat
namespace D
open Go.RowKit
instance trInh {α:Type} :Inhabited (Tr α):=⟨.nil⟩
def szX:Tr Tok→Int
 | .nil=>0
 | .node t ks=>min (szL t 1 ks) 100000
where szL (t:Tok) (acc:Int):List (Tr Tok)→Int
 | [] =>acc
 | k::ks=>szL t (acc+(if t.1=7 then (szX k+3)*t.2.2.2 else szX k)) ks
theorem eD {x:Tr Tok} (h:WT x):1≤szX x∧szX x≤100000:=by
 refine WT.ind (p:=fun x=>1≤szX x∧szX x≤100000) ?_ ?_ ?_ h
 ·intro t _
  show 1≤min (1:Int) 100000∧min (1:Int) 100000≤100000
  omega
 ·intro t a e _ ih
  show 1≤min ((1:Int)+(if t.1=7 then (szX a+3)*t.2.2.2 else szX a)) 100000∧min ((1:Int)+(if t.1=7 then (szX a+3)*t.2.2.2 else szX a)) 100000≤100000
  split
  ·rename_i k
   have hr:=AA (show 0≤ar t by omega) k
   have:0≤(szX a+3)*t.2.2.2:=Int.mul_nonneg (by omega) (by omega)
   omega
  ·omega
 ·intro t a b e _ _ iha ihb
  have k:t.1≠7:=by
   rcases nG (show 0≤ar t by omega) with ⟨_,k⟩ | ⟨k,_⟩ | ⟨k,_⟩ <;> omega
  show 1≤min ((1:Int)+(if t.1=7 then (szX a+3)*t.2.2.2 else szX a)+(if t.1=7 then (szX b+3)*t.2.2.2 else szX b)) 100000∧min ((1:Int)+(if t.1=7 then (szX a+3)*t.2.2.2 else szX a)+(if t.1=7 then (szX b+3)*t.2.2.2 else szX b)) 100000≤100000
  rw[if_neg k,if_neg k]
  omega
theorem F0 {a h:Int} (h1:1≤a∧a≤100000) (h2:1≤h∧h≤3):IntKind.i64.wrap ((IntKind.i64.wrap (a+3))*h)=(a+3)*h:=by
 rw[cB (n:=a+3) (by omega) (by omega)]
 have k1:0≤(a+3)*h:=Int.mul_nonneg (by omega) (by omega)
 have k2:(a+3)*h≤100003*3:=Int.mul_le_mul (by omega) (by omega) (by omega) (by omega)
 exact cB (by omega) (by omega)
theorem N5 {a h:Int} (h1:1≤a∧a≤100000) (h2:1≤h∧h≤3):0≤(a+3)*h∧(a+3)*h≤300009:=by
 have k1:0≤(a+3)*h:=Int.mul_nonneg (by omega) (by omega)
 have k2:(a+3)*h≤100003*3:=Int.mul_le_mul (by omega) (by omega) (by omega) (by omega)
 omega
theorem pA {t:Tok} {ks:List (Tr Tok)} :Tr.get (.node t ks)=some (t,ks):=rfl
theorem wS {f:Tr Tok→Option Int} {t:Tok} {ks:List (Tr Tok)} {i:Nat} {acc:Int} (hi:i<ks.length) (hf:f (nth ks (i:Int))=some (szX (nth ks (i:Int)))) (hw:WT (nth ks (i:Int))) (ht:0≤ar t) (ha:0≤acc∧acc≤1000000) (hik:i≤1000000) :
  a8 f (.node t ks) (t,ks) (acc,(i:Int))=some (.nxt (acc+(if t.1=7 then (szX (nth ks (i:Int))+3)*t.2.2.2 else szX (nth ks (i:Int))),((i+1:Nat):Int))):=by
 unfold a8
 simp only[pA]
 have hr:=eD hw
 rw[if_pos (by simp <;> omega),ak (by omega) (by omega)];simp only[Option.bind_some]
 by_cases k:t.1=7
 ·have h7:=AA ht k
  have hm:=N5 hr h7.2
  rw[if_pos (by simpa using k),if_pos k,hf];simp only[Option.bind_some]
  rw[F0 hr h7.2,cB (by omega) (by omega),aa (by omega)]
 ·rw[if_neg (by simpa using k),if_neg k,hf];simp only[Option.bind_some]
  rw[cB (by omega) (by omega),aa (by omega)]
theorem yp {α:Type} [Inhabited α] {a:α} {l:List α} :nth (a::l) ((0:Nat):Int)=a:=rfl
theorem N6 {α:Type} [Inhabited α] {a b:α} {l:List α} :nth (a::b::l) ((1:Nat):Int)=b:=rfl
theorem Uw {x:Tr Tok} (h:WT x): ∀n,(flat x).length≤n→bs n x=some (szX x):=by
 refine WT.ind (p:=fun x=> ∀n,(flat x).length≤n→bs n x=some (szX x)) ?_ ?_ ?_ h
 ·intro t e n hn
  rw[BE] at hn
  match n,hn with
  | n+1,_ =>
   rw[bs];simp only[pA,Option.bind_some]
   have hL:ai (a8 (bs n) (.node t []) (t,[])) aC (1,0)=some (.brk (1,0)):=aD (f:=a8 (bs n) (.node t []) (t,[])) (fun i=>(1,(i:Int))) 0 (fun i hi=>by omega) (by unfold a8;simp) (by unfold aC;omega)
   rw[af hL]
   all_goals rfl
 ·intro t a e wa ih n hn
  rw[DE,List.length_append] at hn
  match n,hn with
  | n+1,hn =>
   have hr:=eD wa
   rw[bs];simp only[pA,Option.bind_some]
   have hL:ai (a8 (bs n) (.node t [a]) (t,[a])) aC (1,0)=some (.brk (szX.szL t 1 [a],1)):=aD (f:=a8 (bs n) (.node t [a]) (t,[a])) (fun i=>(szX.szL t 1 ([a].take i),(i:Int))) 1 (fun i hi=>by
    obtain rfl:i=0:=by omega
    exact wS (acc:=1) (i:=0) (by simp) (ih n (by simp at hn;omega)) wa (by omega) (by omega) (by omega)) (by unfold a8;simp) (by unfold aC;omega)
   rw[af hL]
   all_goals rfl
 ·intro t a b e wa wb iha ihb n hn
  rw[ui,List.length_append,List.length_append] at hn
  match n,hn with
  | n+1,hn =>
   have hra:=eD wa
   have hrb:=eD wb
   have k:t.1≠7:=by
    rcases nG (show 0≤ar t by omega) with ⟨_,k⟩ | ⟨k,_⟩ | ⟨k,_⟩ <;> omega
   rw[bs];simp only[pA,Option.bind_some]
   have hL:ai (a8 (bs n) (.node t [a,b]) (t,[a,b])) aC (1,0)=some (.brk (szX.szL t 1 [a,b],2)):=aD (f:=a8 (bs n) (.node t [a,b]) (t,[a,b])) (fun i=>(szX.szL t 1 ([a,b].take i),(i:Int))) 2 (fun i hi=>by
    have:i=0∨i=1:=by omega
    rcases this with rfl | rfl
    ·exact wS (acc:=1) (i:=0) (by simp) (iha n (by simp at hn;omega)) wa (by omega) (by omega) (by omega)
    ·exact wS (acc:=1+(if t.1=7 then (szX a+3)*t.2.2.2 else szX a)) (i:=1) (by simp) (ihb n (by simp at hn;omega)) wb (by omega) (by rw[if_neg k];omega) (by omega)) (by unfold a8;simp) (by unfold aC;omega)
   rw[af hL]
   all_goals rfl
theorem mM {A:List Tok} {t:Tok} (h:A.length≤1000000):az (A++ [t]) (IntKind.i64.wrap (((A++ [t]).length:Int) - 1))=some t∧IntKind.i64.wrap (((A++ [t]).length:Int) - 1)=(A.length:Int):=by
 have e:IntKind.i64.wrap (((A++ [t]).length:Int) - 1)=(A.length:Int):=by
  rw[cB (by simp only[List.length_append,List.length_cons,List.length_nil];omega) (by simp only[List.length_append,List.length_cons,List.length_nil];omega)]
  simp only[List.length_append,List.length_cons,List.length_nil];omega
 refine ⟨?_,e⟩
 rw[e,ak (by omega) (by simp only[List.length_append,List.length_cons,List.length_nil];omega),bY (by simp)]
 simp
theorem YM {t:Tok} (h:ar t=2):(if t.1==4 then (some (t.1==4)) else (some (t.1==5)):Option Bool)=some true:=by
 rcases nG (show 0≤ar t by omega) with ⟨_,k | k⟩ | ⟨e,_⟩ | ⟨e,_⟩
 ·simp[k]
 ·simp[k]
 ·omega
 ·omega
theorem Q1 {t:Tok} (h:ar t=1∨ar t=0):(if t.1==4 then (some (t.1==4)) else (some (t.1==5)):Option Bool)=some false:=by
 rcases nG (show 0≤ar t by omega) with ⟨e,k⟩ | ⟨e,k | k⟩ | ⟨e,k | k | k⟩
 ·omega
 all_goals simp[k]
theorem Wh {t:Tok} (h:ar t=0):(t.1==6)=false∧(t.1==7)=false:=by
 rcases nG (show 0≤ar t by omega) with ⟨e,k⟩ | ⟨e,k | k⟩ | ⟨e,k | k | k⟩
 ·omega
 ·omega
 ·omega
 all_goals simp[k]
theorem Q2 {t:Tok} (h:ar t=1):((t.1==6)=true∧t.1=6)∨((t.1==6)=false∧(t.1==7)=true∧t.1=7):=by
 rcases nG (show 0≤ar t by omega) with ⟨e,k⟩ | ⟨e,k | k⟩ | ⟨e,k | k | k⟩
 ·omega
 ·left;simp[k]
 ·right;simp[k]
 all_goals omega
theorem AC {a b:Tr Tok} {t:Tok} (wb:WT b) (hl:((flat a++flat b)++ [t]).length≤1000000) :
  (((flat a++flat b)++ [t]).take ((((flat a++flat b).length:Nat):Int)).toNat)=flat a++flat b ∧
  gr (flat a++flat b)=some (((flat a).length:Nat):Int) ∧
  (((flat a++flat b)++ [t]).take ((((flat a).length:Nat):Int)).toNat)=flat a ∧
  (flat a++flat b).drop ((((flat a).length:Nat):Int)).toNat=flat b:=by
 refine ⟨?_,Uv wb (by simp only[List.length_append,List.length_cons,List.length_nil] at hl⊢;omega),?_,?_⟩
 ·rw[Int.toNat_natCast,List.take_left]
 ·rw[Int.toNat_natCast,List.append_assoc,List.take_left]
 ·rw[Int.toNat_natCast,List.drop_left]
theorem Wi {x:Tr Tok} (h:WT x): ∀n,(flat x).length≤n→(flat x).length≤1000000→dE n (flat x)=some (szX x):=by
 refine WT.ind (p:=fun x=> ∀n,(flat x).length≤n→(flat x).length≤1000000→dE n (flat x)=some (szX x)) ?_ ?_ ?_ h
 ·intro t e n hn hl
  rw[BE] at hn hl⊢
  match n,hn with
  | n+1,_ =>
   have hk:=Wh e
   rw[dE]
   have:=(mM (A:=[]) (t:=t) (by simp)).1
   rw[List.nil_append] at this
   rw[this];simp only[Option.bind_some]
   rw[Q1 (.inr e)];simp only[Option.bind_some,hk.1,hk.2,Bool.false_eq_true,if_false]
   rfl
 ·intro t a e wa ih n hn hl
  rw[DE] at hn hl⊢
  simp only[List.length_append,List.length_cons,List.length_nil] at hn hl
  match n,hn with
  | n+1,hn =>
   have hr:=eD wa
   rw[dE]
   obtain ⟨l1,l2⟩:=mM (A:=flat a) (t:=t) (by omega)
   rw[l1];simp only[Option.bind_some]
   rw[Q1 (.inl e)];simp only[Option.bind_some,Bool.false_eq_true,if_false]
   rw[l2,Int.toNat_natCast,List.take_left,mj (by simp only[List.length_append,List.length_cons,List.length_nil];omega)];simp only[Option.bind_some]
   rw[ih n (by omega) (by omega)];simp only[Option.bind_some]
   rcases Q2 e with ⟨k1,k2⟩ | ⟨k1,k2,k3⟩
   ·rw[if_pos k1,cB (by omega) (by omega)]
    show some (min 100000 (szX a+1))=some (min ((1:Int)+(if t.1=7 then (szX a+3)*t.2.2.2 else szX a)) 100000)
    rw[if_neg (by omega)]
    congr 1;omega
   ·have h7:=AA (show 0≤ar t by omega) k3
    have hm:=N5 hr h7.2
    rw[if_neg (by simp[k1]),if_pos k2,F0 hr h7.2,cB (by omega) (by omega)]
    show some (min 100000 ((szX a+3)*t.2.2.2+1))=some (min ((1:Int)+(if t.1=7 then (szX a+3)*t.2.2.2 else szX a)) 100000)
    rw[if_pos k3]
    congr 1;omega
 ·intro t a b e wa wb iha ihb n hn hl
  rw[ui] at hn hl⊢
  obtain ⟨p1,p2,p3,p4⟩:=AC (a:=a) (t:=t) wb hl
  simp only[List.length_append,List.length_cons,List.length_nil] at hn hl
  match n,hn with
  | n+1,hn =>
   have hra:=eD wa
   have hrb:=eD wb
   have k:t.1≠7:=by
    rcases nG (show 0≤ar t by omega) with ⟨_,k⟩ | ⟨k,_⟩ | ⟨k,_⟩ <;> omega
   rw[dE]
   obtain ⟨l1,l2⟩:=mM (A:=flat a++flat b) (t:=t) (by rw[List.length_append];omega)
   rw[l1];simp only[Option.bind_some]
   rw[YM e];simp only[Option.bind_some,if_true]
   rw[l2,p1,p2,mj (by simp only[List.length_append,List.length_cons,List.length_nil];omega)];simp only[Option.bind_some]
   rw[mj (by simp only[List.length_append,List.length_cons,List.length_nil];omega),p3,p4];simp only[Option.bind_some]
   rw[iha n (by omega) (by omega),mj (by simp only[List.length_append,List.length_cons,List.length_nil];omega)];simp only[Option.bind_some]
   rw[ihb n (by have:=wa.pos;omega) (by omega)];simp only[Option.bind_some]
   rw[cB (n:=szX a+szX b) (by omega) (by omega),cB (by omega) (by omega)]
   show some (min 100000 (szX a+szX b+1))=some (min ((1:Int)+(if t.1=7 then (szX a+3)*t.2.2.2 else szX a)+(if t.1=7 then (szX b+3)*t.2.2.2 else szX b)) 100000)
   rw[if_neg k,if_neg k]
   congr 1;omega
def Q3:Tr Tok:=.node (2,0,0,0) []
def H8 (x:Tr Tok):Nat→Int→Tr Tok
 | 0,_=>Q3
 | h+1,low=>if 0<low then .node (4,0,0,0) [x,H8 x h (max 0 (low - 1))] else .node (5,0,0,0) [.node (4,0,0,0) [x,H8 x h (max 0 (low - 1))],Q3]
mutual
def qP:Tr Tok→Tr Tok
 | .nil=>.nil
 | .node t ks=>if t.1=7 then H8 ((OZ ks).headD .nil) t.2.2.2.toNat t.2.2.1 else .node t (OZ ks)
def OZ:List (Tr Tok)→List (Tr Tok)
 | [] =>[]
 | k::ks=>qP k::OZ ks
end
theorem ar4:ar (4,0,0,0)=2:=by decide
theorem ar5:ar (5,0,0,0)=2:=by decide
theorem ar2:ar (2,0,0,0)=0:=by decide
theorem N7:WT Q3:=.node ar2 fun k hk=>by cases hk
theorem vC:flat Q3= [(2,0,0,0)]:=BE _
theorem WT.two {t:Tok} {a b:Tr Tok} (h:ar t=2) (ha:WT a) (hb:WT b):WT (.node t [a,b]):=.node h fun k hk=>by
 rcases List.mem_cons.1 hk with rfl | hk
 ·exact ha
 ·obtain rfl:=List.mem_singleton.1 hk
  exact hb
theorem WT.one {t:Tok} {a:Tr Tok} (h:ar t=1) (ha:WT a):WT (.node t [a]):=.node h fun k hk=>by
 obtain rfl:=List.mem_singleton.1 hk
 exact ha
theorem H9 {x:Tr Tok} (hx:WT x): ∀(h:Nat) (low:Int),WT (H8 x h low)
 | 0,_=>N7
 | h+1,low=>by
  rw[H8]
  split
  ·exact .two ar4 hx (H9 hx h _)
  ·exact .two ar5 (.two ar4 hx (H9 hx h _)) N7
theorem DH (x:Tr Tok): ∀(h:Nat) (low:Int),(flat (H8 x h low)).length≤((flat x).length+3)*h+1
 | 0,_=>by rw[H8,vC];simp
 | h+1,low=>by
  have ih:=DH x h (max 0 (low - 1))
  rw[H8]
  split
  ·rw[ui];simp only[List.length_append,List.length_cons,List.length_nil]
   rw[Nat.mul_succ];omega
  ·rw[ui,ui,vC];simp only[List.length_append,List.length_cons,List.length_nil]
   rw[Nat.mul_succ];omega
theorem Xh {t:Tok} {a:Tr Tok} :qP (.node t [a])=if t.1=7 then H8 (qP a) t.2.2.2.toNat t.2.2.1 else .node t [qP a]:=by rw[qP,OZ,OZ];rfl
theorem exp2 {t:Tok} {a b:Tr Tok} (h:t.1≠7):qP (.node t [a,b])= .node t [qP a,qP b]:=by rw[qP,if_neg h,OZ,OZ,OZ]
theorem Xi {t:Tok} (h:t.1≠7):qP (.node t [])= .node t []:=by rw[qP,if_neg h,OZ]
theorem no7 {t:Tok} (h:ar t=2∨ar t=0):t.1≠7:=by
 rcases nG (show 0≤ar t by omega) with ⟨_,k⟩ | ⟨k,_⟩ | ⟨_,k⟩ <;> omega
theorem Sc {x:Tr Tok} (h:WT x):WT (qP x):=by
 refine WT.ind (p:=fun x=>WT (qP x)) ?_ ?_ ?_ h
 ·intro t e
  rw[Xi (no7 (.inr e))]
  exact .node e fun k hk=>by cases hk
 ·intro t a e _ ih
  rw[Xh]
  split
  ·exact H9 ih _ _
  ·exact .one e ih
 ·intro t a b e _ _ iha ihb
  rw[exp2 (no7 (.inl e))]
  exact .two e iha ihb
theorem DI {x:Tr Tok} (h:WT x):szX x<100000→((flat (qP x)).length:Int)≤szX x:=by
 refine WT.ind (p:=fun x=>szX x<100000→((flat (qP x)).length:Int)≤szX x) ?_ ?_ ?_ h
 ·intro t e _
  rw[Xi (no7 (.inr e)),BE]
  show (1:Int)≤min 1 100000
  omega
 ·intro t a e wa ih hs
  have hr:=eD wa
  have hs':min ((1:Int)+(if t.1=7 then (szX a+3)*t.2.2.2 else szX a)) 100000<100000:=hs
  show _≤min ((1:Int)+(if t.1=7 then (szX a+3)*t.2.2.2 else szX a)) 100000
  rw[Xh]
  by_cases k:t.1=7
  ·rw[if_pos k] at hs'⊢
   rw[if_pos k]
   have h7:=AA (show 0≤ar t by omega) k
   have hge:szX a+3≤(szX a+3)*t.2.2.2:=by
    have:=Int.mul_le_mul_of_nonneg_left (c:=szX a+3) h7.2.1 (by omega)
    omega
   have h1:=ih (by omega)
   have h2:=DH (qP a) t.2.2.2.toNat t.2.2.1
   have h3:(((flat (qP a)).length+3)*t.2.2.2.toNat:Int)≤(szX a+3)*t.2.2.2:=by
    rw[Int.toNat_of_nonneg (by omega)]
    exact Int.mul_le_mul_of_nonneg_right (by omega) (by omega)
   have h4:((flat (H8 (qP a) t.2.2.2.toNat t.2.2.1)).length:Int)≤(((flat (qP a)).length+3)*t.2.2.2.toNat:Int)+1:=by exact_mod_cast h2
   omega
  ·rw[if_neg k] at hs'⊢
   rw[if_neg k,DE]
   have h1:=ih (by omega)
   simp only[List.length_append,List.length_cons,List.length_nil]
   omega
 ·intro t a b e wa wb iha ihb hs
  have hra:=eD wa
  have hrb:=eD wb
  have k:=no7 (.inl e)
  have hs':min ((1:Int)+(if t.1=7 then (szX a+3)*t.2.2.2 else szX a)+(if t.1=7 then (szX b+3)*t.2.2.2 else szX b)) 100000<100000:=hs
  show _≤min ((1:Int)+(if t.1=7 then (szX a+3)*t.2.2.2 else szX a)+(if t.1=7 then (szX b+3)*t.2.2.2 else szX b)) 100000
  rw[if_neg k,if_neg k] at hs'⊢
  rw[exp2 k,ui]
  have h1:=iha (by omega)
  have h2:=ihb (by omega)
  simp only[List.length_append,List.length_cons,List.length_nil]
  omega
theorem Cv {x:Tr Tok} : ∀(h n:Nat) (low:Int),h<n→h≤3→0≤low→low≤3→jt n x low (h:Int)=some (H8 x h low)
 | 0,n+1,low,_,_,_,_=>by
  rw[jt,if_pos (by rfl)];rfl
 | h+1,n+1,low,h1,h2,h3,h4=>by
  rw[jt,if_neg (by simp;omega),cB (n:=low - 1) (by omega) (by omega),cB (n:=((h+1:Nat):Int) - 1) (by omega) (by omega)]
  rw[show ((h+1:Nat):Int) - 1=(h:Int) from by omega,Cv h n (max 0 (low - 1)) (by omega) (by omega) (by omega) (by omega)];simp only[Option.bind_some]
  rw[H8]
  by_cases c:0<low
  ·rw[if_pos (by simpa using c),if_pos c]
  ·rw[if_neg (by simpa using c),if_neg c];rfl
theorem Jx {a b:List Tok} {t:Tok} (h:a.length+b.length≤1000000):kD a b t=some ((a++b)++ [t]):=by
 unfold kD kC
 rw[au (by simp only[List.length_append,List.length_cons,List.length_nil];omega)];simp only[Option.bind_some,List.nil_append]
 rw[au (by omega)];simp only[Option.bind_some]
 rw[au (by simp only[List.length_append,List.length_cons,List.length_nil];omega)];rfl
theorem N8 {x:Tr Tok} : ∀(h n:Nat) (low:Int),h<n→h≤3→0≤low→low≤3→(flat x).length≤100000→jo n (flat x) low (h:Int)=some (flat (H8 x h low))
 | 0,n+1,low,_,_,_,_,_=>by
  rw[jo,if_pos (by rfl),H8,vC];rfl
 | h+1,n+1,low,h1,h2,h3,h4,h5=>by
  rw[jo,if_neg (by simp;omega),cB (n:=low - 1) (by omega) (by omega),cB (n:=((h+1:Nat):Int) - 1) (by omega) (by omega)]
  rw[show ((h+1:Nat):Int) - 1=(h:Int) from by omega,N8 h n (max 0 (low - 1)) (by omega) (by omega) (by omega) (by omega) h5];simp only[Option.bind_some]
  have hl:=DH x h (max 0 (low - 1))
  have hl3:((flat x).length+3)*h≤100003*3:=Nat.mul_le_mul (by omega) (by omega)
  rw[Jx (by omega),H8];simp only[Option.bind_some]
  by_cases c:0<low
  ·rw[if_pos (by simpa using c),if_pos c,ui]
  ·rw[if_neg (by simpa using c),if_neg c,ui,ui,vC]
   show (oS 2).bind _=_
   unfold oS;simp only[Option.bind_some]
   rw[Jx (by simp only[List.length_append,List.length_cons,List.length_nil];omega)];rfl
theorem vD:1000000000000≤fK:=by rw[Pf];unfold aC;omega
theorem Q4 {x:Tr Tok} (h:WT x): ∀n,(flat x).length≤n→aY n x=some (qP x):=by
 have hF:=vD
 refine WT.ind (p:=fun x=> ∀n,(flat x).length≤n→aY n x=some (qP x)) ?_ ?_ ?_ h
 ·intro t e n hn
  rw[BE] at hn
  have k:=no7 (.inr e)
  match n,hn with
  | n+1,_ =>
   rw[aY];simp only[pA,Option.bind_some]
   rw[if_neg (by simpa using k),Xi k]
   have hL:ai (aQ (aY n) (t,[])) aC (0,t.1,t.2.1,t.2.2.1,t.2.2.2,[])=some (.brk (0,t.1,t.2.1,t.2.2.1,t.2.2.2,[])):=aD (f:=aQ (aY n) (t,[])) (fun i=>((i:Int),t.1,t.2.1,t.2.2.1,t.2.2.2,OZ (([] :List (Tr Tok)).take i))) 0 (fun i hi=>by omega) (by unfold aQ;simp) (by unfold aC;omega)
   rw[af hL]
   all_goals rfl
 ·intro t a e wa ih n hn
  rw[DE,List.length_append] at hn
  match n,hn with
  | n+1,hn =>
   have ia:=ih n (by simp at hn;omega)
   rw[aY,Xh];simp only[pA,Option.bind_some]
   rcases Q2 e with ⟨k1,k2⟩ | ⟨k1,k2,k3⟩
   ·rw[if_neg (by simp;omega),if_neg (by omega)]
    have hL:ai (aQ (aY n) (t,[a])) aC (0,t.1,t.2.1,t.2.2.1,t.2.2.2,[])=some (.brk (1,t.1,t.2.1,t.2.2.1,t.2.2.2,[qP a])):=aD (f:=aQ (aY n) (t,[a])) (fun i=>((i:Int),t.1,t.2.1,t.2.2.1,t.2.2.2,[qP a].take i)) 1 (fun i hi=>by
     obtain rfl:i=0:=by omega
     unfold aQ
     simp only
     rw[if_pos (by simp),ak (by omega) (by simp),yp];simp only[Option.bind_some]
     rw[ia];simp only[Option.bind_some]
     rw[au (by simp)];rfl) (by unfold aQ;simp) (by unfold aC;omega)
    rw[af hL]
    all_goals rfl
   ·have h7:=AA (show 0≤ar t by omega) k3
    rw[if_pos k2,if_pos k3,show az [a] 0=some a from rfl];simp only[Option.bind_some]
    rw[ia];simp only[Option.bind_some]
    have:=Cv (x:=qP a) t.2.2.2.toNat fK t.2.2.1 (by omega) (by omega) (by omega) (by omega)
    rw[Int.toNat_of_nonneg (by omega)] at this
    rw[this];rfl
 ·intro t a b e wa wb iha ihb n hn
  rw[ui,List.length_append,List.length_append] at hn
  have k:=no7 (.inl e)
  match n,hn with
  | n+1,hn =>
   have ia:=iha n (by simp at hn;omega)
   have ib:=ihb n (by simp at hn;omega)
   rw[aY,exp2 k];simp only[pA,Option.bind_some]
   rw[if_neg (by simpa using k)]
   have hL:ai (aQ (aY n) (t,[a,b])) aC (0,t.1,t.2.1,t.2.2.1,t.2.2.2,[])=some (.brk (2,t.1,t.2.1,t.2.2.1,t.2.2.2,[qP a,qP b])):=aD (f:=aQ (aY n) (t,[a,b])) (fun i=>((i:Int),t.1,t.2.1,t.2.2.1,t.2.2.2,[qP a,qP b].take i)) 2 (fun i hi=>by
    have:i=0∨i=1:=by omega
    rcases this with rfl | rfl
    ·unfold aQ
     simp only
     rw[if_pos (by simp),ak (by omega) (by simp),yp];simp only[Option.bind_some]
     rw[ia];simp only[Option.bind_some]
     rw[au (by simp)];rfl
    ·unfold aQ
     simp only
     rw[if_pos (by simp),ak (by omega) (by simp),N6];simp only[Option.bind_some]
     rw[ib];simp only[Option.bind_some]
     rw[au (by simp)];rfl) (by unfold aQ;simp) (by unfold aC;omega)
   rw[af hL]
   all_goals rfl
theorem N9 {x:Tr Tok} (h:WT x): ∀n out,(flat x).length≤n→out.length+(flat x).length≤1000000→aV n x out=some (out++flat x):=by
 refine WT.ind (p:=fun x=> ∀n out,(flat x).length≤n→out.length+(flat x).length≤1000000→aV n x out=some (out++flat x)) ?_ ?_ ?_ h
 ·intro t e n out hn hl
  rw[BE] at hn hl⊢
  simp only[List.length_cons,List.length_nil] at hl
  match n,hn with
  | n+1,_ =>
   rw[aV];simp only[pA,Option.bind_some]
   have hL:ai (aN (aV n) (t,[])) aC (0,out)=some (.brk (0,out)):=aD (f:=aN (aV n) (t,[])) (fun i=>((i:Int),out)) 0 (fun i hi=>by omega) (by unfold aN;simp) (by unfold aC;omega)
   rw[af hL]
   simp only
   rw[au (by simp;omega)];rfl
 ·intro t a e wa ih n out hn hl
  rw[DE] at hn hl⊢
  simp only[List.length_append,List.length_cons,List.length_nil] at hn hl
  match n,hn with
  | n+1,hn =>
   rw[aV];simp only[pA,Option.bind_some]
   have hL:ai (aN (aV n) (t,[a])) aC (0,out)=some (.brk (1,out++flat a)):=aD (f:=aN (aV n) (t,[a])) (fun i=>((i:Int),if i=0 then out else out++flat a)) 1 (fun i hi=>by
    obtain rfl:i=0:=by omega
    unfold aN
    simp only
    rw[if_pos (by simp),ak (by omega) (by simp),yp];simp only[Option.bind_some,if_true]
    rw[ih n _ (by omega) (by omega)];rfl) (by unfold aN;simp) (by unfold aC;omega)
   rw[af hL]
   simp only
   rw[au (by simp;omega)];simp
 ·intro t a b e wa wb iha ihb n out hn hl
  rw[ui] at hn hl⊢
  simp only[List.length_append,List.length_cons,List.length_nil] at hn hl
  match n,hn with
  | n+1,hn =>
   rw[aV];simp only[pA,Option.bind_some]
   have hL:ai (aN (aV n) (t,[a,b])) aC (0,out)=some (.brk (2,(out++flat a)++flat b)):=aD (f:=aN (aV n) (t,[a,b])) (fun i=>((i:Int),if i=0 then out else if i=1 then out++flat a else (out++flat a)++flat b)) 2 (fun i hi=>by
    have:i=0∨i=1:=by omega
    rcases this with rfl | rfl
    ·unfold aN
     simp only
     rw[if_pos (by simp),ak (by omega) (by simp),yp];simp only[Option.bind_some,if_true]
     rw[iha n _ (by omega) (by omega)];rfl
    ·unfold aN
     simp only
     rw[if_pos (by simp),ak (by omega) (by simp),N6];simp only[Option.bind_some,if_true]
     rw[ihb n _ (by omega) (by simp;omega)];rfl) (by unfold aN;simp) (by unfold aC;omega)
   rw[af hL]
   simp only
   rw[au (by simp;omega)];simp
theorem Q5 {x:Tr Tok} (h:WT x): ∀n,(flat x).length≤n→(flat x).length≤1000000→szX x≤50000→cv n (flat x)=some (flat (qP x)):=by
 have hF:=vD
 refine WT.ind (p:=fun x=> ∀n,(flat x).length≤n→(flat x).length≤1000000→szX x≤50000→cv n (flat x)=some (flat (qP x))) ?_ ?_ ?_ h
 ·intro t e n hn hl hs
  rw[BE] at hn hl⊢
  match n,hn with
  | n+1,_ =>
   have hk:=Wh e
   rw[cv]
   have:=(mM (A:=[]) (t:=t) (by simp)).1
   rw[List.nil_append] at this
   rw[this];simp only[Option.bind_some]
   rw[Q1 (.inr e)];simp only[Option.bind_some,hk.1,hk.2,Bool.false_eq_true,if_false]
   rw[Xi (no7 (.inr e)),BE]
 ·intro t a e wa ih n hn hl hs
  have hs':min ((1:Int)+(if t.1=7 then (szX a+3)*t.2.2.2 else szX a)) 100000≤50000:=hs
  rw[DE] at hn hl⊢
  simp only[List.length_append,List.length_cons,List.length_nil] at hn hl
  match n,hn with
  | n+1,hn =>
   have hr:=eD wa
   have hsa:szX a≤50000:=by
    by_cases k:t.1=7
    ·rw[if_pos k] at hs'
     have h7:=AA (show 0≤ar t by omega) k
     have hge:szX a+3≤(szX a+3)*t.2.2.2:=by
      have:=Int.mul_le_mul_of_nonneg_left (c:=szX a+3) h7.2.1 (by omega)
      omega
     omega
    ·rw[if_neg k] at hs';omega
   have hla:=DI wa (by omega)
   rw[cv]
   obtain ⟨l1,l2⟩:=mM (A:=flat a) (t:=t) (by omega)
   rw[l1];simp only[Option.bind_some]
   rw[Q1 (.inl e)];simp only[Option.bind_some,Bool.false_eq_true,if_false]
   rw[l2,Int.toNat_natCast,List.take_left,mj (by simp only[List.length_append,List.length_cons,List.length_nil];omega)];simp only[Option.bind_some]
   rw[ih n (by omega) (by omega) hsa,Xh];simp only[Option.bind_some]
   rcases Q2 e with ⟨k1,k2⟩ | ⟨k1,k2,k3⟩
   ·rw[if_pos k1,if_neg (by omega),Jx (by simp;omega),DE];simp
   ·have h7:=AA (show 0≤ar t by omega) k3
    rw[if_neg (by simp[k1]),if_pos k2,if_pos k3]
    have:=N8 (x:=qP a) t.2.2.2.toNat fK t.2.2.1 (by omega) (by omega) (by omega) (by omega) (by omega)
    rw[Int.toNat_of_nonneg (by omega)] at this
    rw[this];rfl
 ·intro t a b e wa wb iha ihb n hn hl hs
  have k:=no7 (.inl e)
  have hs':min ((1:Int)+(if t.1=7 then (szX a+3)*t.2.2.2 else szX a)+(if t.1=7 then (szX b+3)*t.2.2.2 else szX b)) 100000≤50000:=hs
  rw[if_neg k,if_neg k] at hs'
  rw[ui] at hn hl⊢
  obtain ⟨p1,p2,p3,p4⟩:=AC (a:=a) (t:=t) wb hl
  simp only[List.length_append,List.length_cons,List.length_nil] at hn hl
  match n,hn with
  | n+1,hn =>
   have hra:=eD wa
   have hrb:=eD wb
   have hla:=DI wa (by omega)
   have hlb:=DI wb (by omega)
   rw[cv]
   obtain ⟨l1,l2⟩:=mM (A:=flat a++flat b) (t:=t) (by rw[List.length_append];omega)
   rw[l1];simp only[Option.bind_some]
   rw[YM e];simp only[Option.bind_some,if_true]
   rw[l2,p1,p2,mj (by simp only[List.length_append,List.length_cons,List.length_nil];omega)];simp only[Option.bind_some]
   rw[mj (by simp only[List.length_append,List.length_cons,List.length_nil];omega),p3,p4];simp only[Option.bind_some]
   rw[iha n (by omega) (by omega) (by omega),mj (by simp only[List.length_append,List.length_cons,List.length_nil];omega)];simp only[Option.bind_some]
   rw[ihb n (by have:=wa.pos;omega) (by omega) (by omega)];simp only[Option.bind_some]
   rw[Jx (by omega),exp2 k,ui];rfl
def K7 (e:List Tok):List Tok×Bool:=
 if decide (e.length≤24)&&isX e then (if 5000<szX (xW e) then ([],false) else (if 400<(flat (qP (xW e))).length then ([],false) else (flat (qP (xW e)),true))) else ([],false)
theorem Ia {e:List Tok} (he:e.length≤1048576):k9 e=some (K7 e)∧lr e=some (K7 e):=by
 have hF:=vD
 unfold k9 lr K7
 rw[H6 he,H7 he];simp only[Option.bind_some]
 by_cases c:(decide (e.length≤24)&&isX e)=true
 ·rw[if_pos c,if_pos c,if_pos c,DG he];simp only[Option.bind_some]
  rw[Bool.and_eq_true] at c
  obtain ⟨x,h1,hw,rfl⟩:=N3 c.2
  have h24:(flat x).length≤24:=by simpa using c.1
  have hr:=eD hw
  rw[wR hw,Wi hw fK (by omega) (by omega),Uw hw fK (by omega)];simp only[Option.bind_some]
  by_cases c2:5000<szX x
  ·have c2':decide (szX x>5000)=true:=by simpa using c2
   simp only[gt_iff_lt,c2,decide_true,if_true,and_self]
  ·have c2':decide (szX x>5000)=false:=by simpa using c2
   simp only[gt_iff_lt,c2,decide_false,if_false,Bool.false_eq_true]
   have hl:=DI hw (by omega)
   rw[Q5 hw fK (by omega) (by omega) (by omega),Q4 hw fK (by omega)];simp only[Option.bind_some]
   unfold p9
   rw[N9 (Sc hw) fK [] (by omega) (by simp;omega)];simp only[Option.bind_some,List.nil_append]
   by_cases c3:400<(flat (qP x)).length
   ·have c3':decide (((flat (qP x)).length:Int)>400)=true:=decide_eq_true (by omega)
    simp only[c3',c3,decide_true,if_true,and_self]
   ·have c3':decide (((flat (qP x)).length:Int)>400)=false:=decide_eq_false (by omega)
    simp only[c3',c3,decide_false,if_false,Bool.false_eq_true,and_self]
 ·rw[if_neg c,if_neg c,if_neg c];exact ⟨rfl,rfl⟩
theorem Ux {e:List Tok} (h:(K7 e).2=true): ∃y,WT y∧(K7 e).1=flat y∧(flat y).length≤400:=by
 unfold K7 at h⊢
 split at h
 ·rename_i c
  rw[if_pos c]
  rw[Bool.and_eq_true] at c
  obtain ⟨x,h1,hw,rfl⟩:=N3 c.2
  rw[wR hw] at h⊢
  split at h
  ·cases h
  ·rename_i c2
   rw[if_neg c2]
   split at h
   ·cases h
   ·rename_i c3
    rw[if_neg c3]
    exact ⟨_,Sc hw,rfl,by omega⟩
 ·cases h
end D
namespace D
open Go.RowKit
def Oa (out:List Bool) (t:Int):Bool:=decide (t≥0)&&nth out t
def hit (out:List Bool) (row:List Int):Bool:=row.any (Oa out)
def xD (a:AutT) (out:List Bool) (s:Nat):List Bool:=if hit out (nth a.2.2 s) then out.set s true else out
def jy (a:AutT) (out:List Bool):Nat→List Bool
 | 0=>out
 | s+1=>xD a (jy a out s) s
def cnt (out:List Bool):Nat:=out.count true
theorem Wj (out:List Bool):cnt out≤out.length:=List.count_le_length
theorem Jy {out:List Bool} {s:Nat} (h:s<out.length) (k:out[s] =true):out.set s true=out:=by
 refine List.ext_getElem (by simp) fun i h1 h2=>?_
 rw[List.getElem_set]
 split
 ·rename_i e;subst e;exact k.symm
 ·rfl
theorem Uy {out:List Bool} {s:Nat} (h:s<out.length) (k:out[s] =false):cnt (out.set s true)=cnt out+1:=by
 unfold cnt
 rw[List.count_set h];simp[k]
section
variable {a:AutT} {n:Nat}
theorem DJ (a:AutT) (out:List Bool) (s:Nat):(xD a out s).length=out.length:=by unfold xD;split <;> simp
theorem kj (a:AutT) (out:List Bool): ∀s,(jy a out s).length=out.length
 | 0=>rfl
 | s+1=>by rw[jy,DJ,kj a out s]
theorem xE {out:List Bool} {s:Nat} (h:s<out.length):(xD a out s=out∧ ¬(hit out (nth a.2.2 s)=true∧nth out s=false))∨(cnt (xD a out s)=cnt out+1∧hit out (nth a.2.2 s)=true∧nth out s=false):=by
 unfold xD
 rw[bY h]
 cases hh:hit out (nth a.2.2 s) with
 | false=>exact .inl ⟨by simp,by simp⟩
 | true =>
  cases hk:out[s] with
  | true=>exact .inl ⟨by simp[Jy h hk],by simp⟩
  | false=>exact .inr ⟨by simp[Uy h hk],rfl,rfl⟩
theorem wT {out:List Bool} : ∀s,s≤out.length→(jy a out s=out∧cnt (jy a out s)=cnt out)∨cnt out<cnt (jy a out s)
 | 0,_=>.inl ⟨rfl,rfl⟩
 | s+1,hs=>by
  have hl:s<(jy a out s).length:=by rw[kj];omega
  have ih:=wT (out:=out) s (by omega)
  rw[jy]
  rcases xE (a:=a) hl with ⟨e,-⟩ | ⟨e,-,-⟩
  ·rw[e];exact ih
  ·rcases ih with ⟨-,h2⟩ | h
   ·exact .inr (by omega)
   ·exact .inr (by omega)
def it (a:AutT):Nat→List Bool
 | 0=>a.2.1
 | j+1=>jy a (it a j) a.2.1.length
theorem pB (a:AutT): ∀j,(it a j).length=a.2.1.length
 | 0=>rfl
 | j+1=>by rw[it,kj,pB a j]
theorem Sd (a:AutT) (j:Nat):cnt (it a j)≤a.2.1.length:=by rw[←pB a j];exact Wj _
theorem Ib (a:AutT) (j:Nat):(it a (j+1)=it a j)∨cnt (it a j)<cnt (it a (j+1)):=by
 rcases wT (a:=a) (out:=it a j) a.2.1.length (by rw[pB];exact Nat.le_refl _) with h | h
 ·exact .inl h.1
 ·exact .inr h
theorem Se {j k:Nat} (h:it a (j+1)=it a j) (hk:j≤k):it a k=it a j:=by
 induction hk with
 | refl=>rfl
 | step _ ih=>rw[it,ih];exact h
theorem Ob {j k:Nat} (h:it a (j+1)=it a j) (h':it a (k+1)=it a k):it a j=it a k:=by
 rcases Nat.le_total j k with e | e
 ·exact (Se h e).symm
 ·exact Se h' e
theorem Uz (a : AutT) : it a (a.2.1.length + 1) = it a a.2.1.length := by
  have key : ∀ j, it a (j + 1) = it a j ∨ j + 1 ≤ cnt (it a (j + 1)) := by
    intro j
    induction j with
    | zero => rcases Ib a 0 with h | h
              · exact .inl h
              · exact .inr (by omega)
    | succ j ih =>
      rcases Ib a (j + 1) with h | h
      · exact .inl h
      · rcases ih with h' | h'
        · left; rw [it, h']; exact h'
        · exact .inr (by omega)
  rcases key a.2.1.length with h | h
  · exact h
  · have := Sd a (a.2.1.length + 1); omega
def live (a:AutT):List Bool:=it a a.2.1.length
theorem uj (a:AutT):(live a).length=a.2.1.length:=pB a _
theorem Jz {α:Type} [Inhabited α] {row:List α} {p:α→Bool} {k:Nat} (h:k<row.length):(row.take (k+1)).any p=((row.take k).any p || p (nth row (k:Int))):=by
 rw[List.take_succ_eq_append_getElem h,List.any_append,bY h];simp
section
variable (V:VA a n) (hn:n≤1000000)
include V hn
theorem Oc {out:List Bool} {s:Nat} (hs:s<n) (hl:out.length=n):ai (iF a (out,(s:Int))) aC (out,0)=some (.brk (xD a out s,9)):=by
 have hr:=V.rowAt (s:=s) (by omega) (by omega)
 have hls:s<out.length:=by omega
 have:=aD (f:=iF a (out,(s:Int))) (fun k=>(if ((nth a.2.2 (s:Int)).take k).any (Oa out) then out.set s true else out,(k:Int))) 9 (fun k hk=>by
  unfold iF
  simp only
  rw[if_pos (by simp;omega),V.get (by omega) (by omega)];simp only[Option.bind_some]
  rw[V.get2 (by omega) (by omega) hk];simp only[Option.bind_some]
  rw[Jz (by omega),show nth (nth a.2.2 (s:Int)) (k:Int)=mv a s k from rfl]
  simp only[aa (show k<9223372036854775807 by omega)]
  by_cases c:mv a s k≥0
  ·have hset:(out.set s true).length=n:=by simp[hl]
   have hm:=(V.mv (s:=s) (k:=k) (by omega) (by omega) hk).2
   rw[if_pos (by simpa using c)]
   by_cases q:((nth a.2.2 (s:Int)).take k).any (Oa out)=true
   ·simp only[q,if_true,Bool.true_or]
    rw[ak c (by rw[hset];exact hm),ak (by omega) (by rw[hset];omega)];simp only[Option.bind_some,Int.toNat_natCast]
    split <;> simp
   ·simp only[q,Bool.false_eq_true,if_false,Bool.false_or,Oa]
    rw[ak c (by rw[hl];exact hm),ak (by omega) (by rw[hl];omega)];simp only[Option.bind_some,Int.toNat_natCast]
    cases hc:nth out (mv a s k) <;> simp[hc,c]
  ·rw[if_neg (by simpa using c)]
   simp[Oa,c]) (by unfold iF;simp) (by unfold aC;omega)
 have e9:(nth a.2.2 (s:Int)).take 9=nth a.2.2 (s:Int):=List.take_of_length_le (by omega)
 rw[e9] at this
 exact this
theorem F5 {out:List Bool} (hl:out.length=n):ai (iG a) aC (out,0)=some (.brk (jy a out n,(n:Int))):=by
 have hlen:=V.len
 refine aD (f:=iG a) (fun s=>(jy a out s,(s:Int))) n (fun s hs=>?_) ?_ (mb (by omega))
 ·unfold iG
  simp only
  rw[if_pos (by simp;omega),af (Oc V hn hs (by rw[kj];exact hl)),aa (by omega)]
  rfl
 ·unfold iG
  simp only
  rw[if_neg (by simp;omega)]
theorem Sf:kE a=some (live a):=by
 have hlen:=V.len
 unfold kE
 rw[au (by simp;omega)];simp only[Option.bind_some,List.nil_append]
 have:=aD (f:=lg a) (fun j=>(it a j,(j:Int))) n (fun j hj=>by
  unfold lg
  simp only
  rw[if_pos (by simp;omega),af (F5 V hn (by rw[pB];exact hlen)),aa (by omega),it,hlen]) (by
  unfold lg
  simp only
  rw[if_neg (by simp;omega)]) (mb (by omega))
 exact (af this).trans (by simp[live,hlen])
theorem Od {out:List Bool} {g:Bool} {s:Nat} (hs:s<n) (hl:out.length=n):ai (c7 (g,(s:Int),out) (nth a.2.2 (s:Int))) aC (g,0,out)=some (.brk (g || (hit out (nth a.2.2 (s:Int)) && !nth out (s:Int)),9,xD a out s)):=by
 have hr:=V.rowAt (s:=s) (by omega) (by omega)
 have hls:s<out.length:=by omega
 have:=aD (f:=c7 (g,(s:Int),out) (nth a.2.2 (s:Int))) (fun k=>(g || (((nth a.2.2 (s:Int)).take k).any (Oa out) && !nth out (s:Int)),(k:Int),if ((nth a.2.2 (s:Int)).take k).any (Oa out) then out.set s true else out)) 9 (fun k hk=>by
  unfold c7
  simp only
  rw[if_pos (by simp[hr];omega),V.get2 (by omega) (by omega) hk];simp only[Option.bind_some]
  rw[Jz (by omega),show nth (nth a.2.2 (s:Int)) (k:Int)=mv a s k from rfl]
  simp only[aa (show k<9223372036854775807 by omega)]
  by_cases c:mv a s k≥0
  ·have hset:(out.set s true).length=n:=by simp[hl]
   have hm:=(V.mv (s:=s) (k:=k) (by omega) (by omega) hk).2
   rw[if_pos (by simpa using c)]
   by_cases q:((nth a.2.2 (s:Int)).take k).any (Oa out)=true
   ·simp only[q,if_true,Bool.true_or]
    have hself:nth (out.set s true) (s:Int)=true:=by
     have:=ot (xs:=out) (i:=(s:Int)) (x:=true) (by omega) (by omega)
     simpa using this
    rw[ak c (by rw[hset];exact hm),ak (by omega) (by rw[hset];omega)];simp only[Option.bind_some,Int.toNat_natCast,hself,if_true]
    split <;> simp
   ·simp only[q,Bool.false_eq_true,if_false,Bool.false_or,Oa,Bool.false_and,Bool.or_false]
    rw[ak c (by rw[hl];exact hm),ak (by omega) (by rw[hl];omega)];simp only[Option.bind_some,Int.toNat_natCast]
    cases hc:nth out (mv a s k) with
    | false=>simp[c]
    | true =>
     cases hd:nth out (s:Int) with
     | false=>simp[c]
     | true =>
      rw[bY hls] at hd
      simp[c,Jy hls hd]
  ·rw[if_neg (by simpa using c)]
   simp[Oa,c]) (by unfold c7;simp[hr]) (by unfold aC;omega)
 have e9:(nth a.2.2 (s:Int)).take 9=nth a.2.2 (s:Int):=List.take_of_length_le (by omega)
 rw[e9] at this
 have e0:(g || (((nth a.2.2 (s:Int)).take 0).any (Oa out) && !nth out (s:Int)))=g:=by simp
 rw[e0] at this
 exact this
theorem F6 {out:List Bool} (hl:out.length=n): ∃g,ai (c8 a) aC (false,0,out)=some (.brk (g,(n:Int),jy a out n))∧(g=true↔cnt out<cnt (jy a out n)):=by
 have hlen:=V.len
 have hnl:=V.nlen
 obtain ⟨s',e,⟨g,rfl,hg⟩⟩:=fS (f:=c8 a) (fun s st=> ∃g,st=(g,(s:Int),jy a out s)∧(g=true↔cnt out<cnt (jy a out s))) n (by
  rintro s st hs ⟨g,rfl,hg⟩
  have hpl:(jy a out s).length=n:=by rw[kj];exact hl
  unfold c8
  simp only
  rw[if_pos (by simp;omega),V.get (by omega) (by omega)];simp only[Option.bind_some]
  rw[af (Od V hn hs hpl),aa (by omega)]
  refine ⟨_,rfl,_,rfl,?_⟩
  rw[Bool.or_eq_true,Bool.and_eq_true,Bool.not_eq_true',hg,jy]
  have hc:=wT (a:=a) (out:=out) s (by omega)
  rcases xE (a:=a) (out:=jy a out s) (s:=s) (by omega) with ⟨e,k⟩ | ⟨e,k⟩
  ·rw[e];exact ⟨fun h=>h.elim id fun h=>absurd h k,.inl⟩
  ·rw[e]
   exact ⟨fun _=>by rcases hc with ⟨-,h⟩ | h <;> omega,fun _=>.inr k⟩) (by
  rintro s ⟨g,rfl,hg⟩
  unfold c8
  simp only
  rw[if_neg (by simp;omega)]) ⟨false,rfl,by simp[jy]⟩ (mb (by omega))
 exact ⟨g,e,hg⟩
theorem Wk:ep a=some (live a):=by
 have hlen:=V.len
 unfold ep
 rw[au (by simp;omega)];simp only[Option.bind_some,List.nil_append]
 obtain ⟨o,e,i,rfl,hi⟩:=cm (f:=gI a) (fun i s=> ∃b,s=(b,it a i)∧(b=true→i≤cnt (it a i))∧(b=false→it a (i+1)=it a i)) (fun o=> ∃i,o= .brk (false,it a i)∧it a (i+1)=it a i) (n+1) (s:=(true,a.2.1)) (by
  rintro i s hi ⟨b,rfl,h1,h2⟩
  unfold gI
  simp only
  cases b with
  | false=>exact .inr ⟨_,by rw[if_neg (by simp)],(fun s' e=>by cases e),i,rfl,h2 rfl⟩
  | true =>
   have hc:=Sd a i
   have h1:=h1 rfl
   obtain ⟨g,e,hg⟩:=F6 V hn (out:=it a i) (by rw[pB];exact hlen)
   have ee:jy a (it a i) n=it a (i+1):=by rw[it,hlen]
   rw[ee] at e hg
   refine .inl ⟨by omega,(g,it a (i+1)),by rw[if_pos rfl,af e],g,rfl,fun h=>?_,fun h=>?_⟩
   ·have:=hg.1 h;omega
   ·have hs:it a (i+1)=it a i:=by
     rcases Ib a i with h' | h'
     ·exact h'
     ·rw[←hg,h] at h';cases h'
    rw[it,hs];exact hs) ⟨true,rfl,fun _=>Nat.zero_le _,fun h=>by cases h⟩ (mb (by omega))
 rw[af e]
 have:=Ob hi (Uz a)
 simp[live,this]
end
end
end D
namespace D
open Go.RowKit
def nothing:AutT:=(0,[false],[[-1,-1,-1,-1,-1,-1,-1,-1,-1]])
theorem Oe:oC=some nothing:=by kernel_rfl
theorem Of:tQ=some nothing:=by kernel_rfl
theorem Og {n:Nat} (h:n≤1000000):iOk (n:Int)=true:=by
 have h1:IntKind.i64.min= -9223372036854775808:=by decide
 have h2:IntKind.i64.max=9223372036854775807:=by decide
 simp only[iOk,Lit.wf,h1,h2,Bool.and_eq_true,decide_eq_true_eq]
 omega
theorem take_one {α:Type} [Inhabited α] {xs:List α} {k:Nat} (h:k<xs.length):xs.take (k+1)=xs.take k++ [nth xs (k:Int)]:=by
 rw[List.take_succ_eq_append_getElem h,bY h]
theorem jz {α:Type} [Inhabited α] {xs ys:List α} (h:xs <+:ys) {i:Int} (h0:0≤i) (h1:i<xs.length):nth ys i=nth xs i:=by
 obtain ⟨t,rfl⟩:=h
 exact nF h0 h1
structure NumOk {κ:Type} [DecidableEq κ] (nx:κ→List (Option κ)) (first:κ) (G:κ→Prop) (B:Nat):Prop where
 g0:G first
 gn: ∀x,G x→ ∀y,some y∈nx x→G y
 len: ∀x,G x→(nx x).length=9
 bound: ∀l:List κ,l.Nodup→(∀x∈l,G x)→l.length≤B
section
variable {κ:Type} [DecidableEq κ] [Inhabited κ] {nx:κ→List (Option κ)} {first:κ} {G:κ→Prop} {B:Nat}
theorem NumOk.le (H:NumOk nx first G B) (i:Nat):(bfS nx first i).length≤B:=H.bound _ (py i) (lE H.g0 H.gn i)
theorem NumOk.at (H:NumOk nx first G B) {i:Nat} (h:i<(bfS nx first i).length):G (nth (bfS nx first i) (i:Int)):=lE H.g0 H.gn i _ (bH (by omega) (by omega))
theorem kl {i:Nat} (h:i<(bfS nx first i).length):bfS nx first (i+1)=nbS (bfS nx first i) (nx (nth (bfS nx first i) (i:Int))):=by rw[DD h,bY h]
theorem vE {i:Nat} (h:i<(bfS nx first i).length):bfR nx first (i+1)=bfR nx first i++ [nbR (bfS nx first i) (nx (nth (bfS nx first i) (i:Int)))]:=by rw[vz h,bY h]
theorem yq {β:Type} {acc:κ→β} {i:Nat} (h:i<(bfS nx first i).length):((bfS nx first (i+1)).take (i+1)).map acc=((bfS nx first i).take i).map acc++ [acc (nth (bfS nx first i) (i:Int))]:=by
 have hp:=br (nx:=nx) (first:=first) i
 have hl:=hp.length_le
 have e:(bfS nx first (i+1)).take i=(bfS nx first i).take i:=by
  obtain ⟨t,ht⟩:=hp
  rw[←ht,List.take_append_of_le_length (by omega)]
 rw[take_one (by omega),List.map_append,e,jz hp (by omega) (by omega)];rfl
def MapOf (M:List (κ×Int)) (l:List κ):Prop:=M.length=l.length∧ ∀x,M.lookup x=if x∈l then some (l.idxOf x:Int) else none
theorem MapOf.one (x:κ):MapOf [(x,0)] [x]:=by
 refine ⟨rfl,fun y=>?_⟩
 rw[List.lookup_cons]
 by_cases e:y=x
 ·subst e;simp
 ·simp only[show (y==x)=false from by simp[e]];simp[e]
theorem MapOf.put {M:List (κ×Int)} {l:List κ} (h:MapOf M l) {x:κ} (hx:x∉l):MapOf ((x,(l.length:Int))::M) (l++ [x]):=by
 refine ⟨by simp[h.1],fun y=>?_⟩
 rw[List.lookup_cons]
 by_cases e:y=x
 ·subst e
  simp[List.idxOf_append,hx]
 ·simp only[show (y==x)=false from by simp[e],h.2 y,List.mem_append,List.mem_singleton,e,or_false]
  by_cases k:y∈l
  ·simp[k,List.idxOf_append]
  ·simp[k]
end
section
variable {nx:Int→List (Option Int)} {first:Int} {G:Int→Prop} {B:Nat}
theorem F7 {p3:Int→Int→Option (Int×Bool)} {l:List Int} {M:List (Int×Int)} {os:List (Option Int)} {acs:List Bool} {rws:List (List Int)} {i:Nat}
  (hi:i<l.length) (hos:os.length=9) (hM:MapOf M l) (hok: ∀y,some y∈os→iOk y=true) (hB: ∀k,(nbS l (os.take k)).length≤1000000)
  (hp: ∀(k:Nat) (hk:k<9),∃j,p3 (nth l (i:Int)) (k:Int)=some (match nth os (k:Int) with | some y=>(y,true) | none=>(j,false))) :
  ∃M',ai (dF p3 (l,M,(i:Int),0,acs,rws)) aC (l,M,[],0)=some (.brk (nbS l os,M',nbR l os,9))∧MapOf M' (nbS l os):=by
 obtain ⟨s',e,M',rfl,hM'⟩:=fS (f:=dF p3 (l,M,(i:Int),0,acs,rws)) (fun k s=> ∃M',s=(nbS l (os.take k),M',nbR l (os.take k),(k:Int))∧MapOf M' (nbS l (os.take k))) 9 (by
  rintro k s hk ⟨M1,rfl,hM1⟩
  have hpre:=kO l (os.take k)
  have hlen:=hpre.length_le
  have hBk:=hB k
  obtain ⟨j,hj⟩:=hp k hk
  have hrl:(nbR l (os.take k)).length≤9:=by rw[dZ,List.length_take];omega
  unfold dF
  simp only
  rw[if_pos (by simp;omega),ak (by omega) (by omega)];simp only[Option.bind_some]
  rw[jz hpre (by omega) (by omega),hj,take_one (by omega),vy,sC]
  simp only[Option.bind_some,aa (show k<9223372036854775807 by omega)]
  cases ho:nth os (k:Int) with
  | none =>
   simp only[Bool.false_eq_true,if_false]
   rw[au (by simp;omega)]
   exact ⟨_,rfl,M1,rfl,hM1⟩
  | some y =>
   have hy:iOk y=true:=hok y (ho ▸ bH (by omega) (by omega))
   simp only[if_true]
   rw[show chk (iOk y=true)=some () from by unfold chk;rw[if_pos hy]];simp only[Option.bind_some]
   rw[show lkM M1 y=_ from hM1.2 y]
   by_cases c:y∈nbS l (os.take k)
   ·simp only[c,if_true,Option.isSome_some,Option.getD_some,Option.bind_some]
    rw[au (by simp;omega)]
    exact ⟨_,rfl,M1,by rw[mc c];rfl,by rw[mc c];exact hM1⟩
   ·have hput:LK M1 iOk iOk y ((nbS l (os.take k)).length:Int)=some ((y,((nbS l (os.take k)).length:Int))::M1):=by
     unfold LK
     rw[if_pos ⟨by have:=hM1.1;omega,hy,Og hBk⟩]
    simp only[c,if_false,Option.isSome_none,Bool.false_eq_true,hput,Option.bind_some]
    rw[au (by simp;omega)];simp only[Option.bind_some]
    rw[au (by simp;omega)]
    refine ⟨_,rfl,(y,((nbS l (os.take k)).length:Int))::M1,?_,?_⟩
    ·rw[kP c];simp only[nbI,px c]
    ·rw[kP c];exact hM1.put c) (by
  rintro s ⟨M1,rfl,hM1⟩
  unfold dF
  simp) (s:=(l,M,[],0)) ⟨M,rfl,hM⟩ (by unfold aC;omega)
 rw[List.take_of_length_le (by omega)] at e hM'
 exact ⟨M',e,hM'⟩
theorem Wl {most:Int} {p2:Int→Option Bool} {p3:Int→Int→Option (Int×Bool)} {acc:Int→Bool} (H:NumOk nx first G B) (hB:B≤1000000) (hmost:(B:Int)≤most) (hok: ∀x,G x→iOk x=true)
  (h2: ∀x,G x→p2 x=some (acc x)) (h3: ∀x (k:Nat),G x→k<9→ ∃j,p3 x (k:Int)=some (match nth (nx x) (k:Int) with | some y=>(y,true) | none=>(j,false))) :
  ∃N,bfE nx first N∧dW first most p2 p3=some ((0,(bfS nx first N).map acc,bfR nx first N),true):=by
 obtain ⟨N,hNB,hN⟩:=Sa (nx:=nx) (first:=first) (H.le)
 refine ⟨N,hN,?_⟩
 unfold dW
 rw[show LK ([] :List (Int×Int)) iOk iOk first 0=some [(first,0)] from by unfold LK;rw[if_pos ⟨by simp,hok _ H.g0,by decide⟩]];simp only[Option.bind_some]
 obtain ⟨s',e,M',rfl,hM'⟩:=fS (f:=bE most p2 p3) (fun i s=> ∃M,s=(bfS nx first i,M,(i:Int),0,((bfS nx first i).take i).map acc,bfR nx first i)∧MapOf M (bfS nx first i)) N (by
  rintro i s hi ⟨M,rfl,hM⟩
  have hlt:=hN.2 i hi
  have hG:=H.at hlt
  have hle:=H.le i
  have hle':=H.le (i+1)
  obtain ⟨M',e,hM'⟩:=F7 (p3:=p3) (l:=bfS nx first i) (M:=M) (os:=nx (nth (bfS nx first i) (i:Int))) (acs:=((bfS nx first i).take i).map acc) (rws:=bfR nx first i) hlt (H.len _ hG) hM (fun y hy=>hok y (H.gn _ hG y hy))
   (fun k=>by
    have:(nbS (bfS nx first i) ((nx (nth (bfS nx first i) (i:Int))).take k)).length≤B:=H.bound _ (rL (py i)) fun x hx=>by
     rcases wP.1 hx with hx | hx
     ·exact lE H.g0 H.gn i x hx
     ·exact H.gn _ hG x (List.mem_of_mem_take hx)
    omega) (fun k hk=>h3 _ k hG hk)
  unfold bE
  simp only
  rw[if_pos (by simp;omega),af e,←kl hlt]
  rw[←kl hlt] at hM'
  have hl2:=(br (nx:=nx) (first:=first) i).length_le
  simp only
  rw[if_neg (by simp;omega),ak (by omega) (by omega)];simp only[Option.bind_some]
  rw[jz (br i) (by omega) (by omega),h2 _ hG];simp only[Option.bind_some]
  have hr:(bfR nx first i).length=i:=jx fun j hj=>hN.2 j (by omega)
  rw[au (by simp;omega)];simp only[Option.bind_some]
  rw[au (by simp;omega)];simp only[Option.bind_some,aa (show i<9223372036854775807 by omega)]
  exact ⟨_,rfl,M',by rw[yq hlt,vE hlt],hM'⟩) (by
  rintro s ⟨M,rfl,hM⟩
  unfold bE
  simp only
  rw[if_neg (by have:=hN.1;simp;omega)]) (s:=([first],[(first,0)],0,0,[],[])) ⟨_,rfl,MapOf.one first⟩ (mb (by omega))
 rw[af e]
 simp only
 rw[List.take_of_length_le (by have:=hN.1;omega)]
end
theorem Si {l:List Int} {x:Int} (h:l.length≤9223372036854775807):nc l x=some (if x∈l then (l.idxOf x:Int) else -1):=by
 unfold nc
 obtain ⟨o,e,hq⟩:=cm (f:=oB l x) (fun i s=>s=(i:Int)∧x∉l.take i) (fun o=>(x∈l∧o= .ret (l.idxOf x:Int))∨(x∉l∧ ∃s,o= .brk s)) l.length (s:=0) (by
  rintro i s hi ⟨rfl,hx⟩
  unfold oB
  by_cases hl:i<l.length
  ·rw[if_pos (by simp;omega),ak (by omega) (by omega)];simp only[Option.bind_some]
   by_cases c:nth l (i:Int)=x
   ·refine .inr ⟨_,by rw[if_pos (by simpa using c)],(fun s' e=>by cases e),.inl ?_⟩
    have e:l=l.take i++(x::l.drop (i+1)):=by
     rw[←c,bY hl,←List.drop_eq_getElem_cons hl,List.take_append_drop]
    refine ⟨by rw[e];simp,?_⟩
    congr 1
    conv=>rhs;rw[e,List.idxOf_append,if_neg hx,List.idxOf_cons_self]
    simp[List.length_take];first | done | omega
   ·refine .inl ⟨hl,_,by rw[if_neg (by simpa using c)],by rw[aa (by omega)],?_⟩
    rw[take_one hl,List.mem_append,List.mem_singleton]
    rintro (h | h)
    ·exact hx h
    ·exact c h.symm
  ·refine .inr ⟨_,by rw[if_neg (by simp;omega)],(fun s' e=>by cases e),.inr ⟨?_,_,rfl⟩⟩
   rwa [List.take_of_length_le (by omega)] at hx) ⟨rfl,by simp⟩ (mb h)
 rcases hq with ⟨hx,rfl⟩ | ⟨hx,s,rfl⟩
 ·rw[aT e,if_pos hx]
 ·rw[af e,if_neg hx]
section
variable {a:AutT} {n:Nat} {c:List Int} {lv:List Bool} {nx:Int→List (Option Int)} {G:Int→Prop} {B:Nat} {acc:Int→Bool}
def good (n:Nat) (lv:List Bool) (r:Int):Prop:=0≤r∧r<n∧nth lv r=true
def wU (a:AutT) (c:List Int) (lv:List Bool) (r:Int):List (Option Int):=(List.range 9).map fun k=>if mv a r k≥0∧nth lv (mv a r k)=true then some (nth c (mv a r k)) else none
theorem JA {r:Int} {k:Nat} (hk:k<9):nth (wU a c lv r) (k:Int)=if mv a r k≥0∧nth lv (mv a r k)=true then some (nth c (mv a r k)) else none:=by
 have:k<(wU a c lv r).length:=by simp[wU];omega
 rw[bY this];simp[wU]
def RepsOf (n:Nat) (lv:List Bool) (c:List Int) (rs l:List Int):Prop:=rs.length=l.length∧ ∀j:Nat,j<l.length→good n lv (nth rs j)∧nth c (nth rs j)=nth l (j:Int)
theorem RepsOf.snoc {rs l:List Int} (h:RepsOf n lv c rs l) {t:Int} (ht:good n lv t):RepsOf n lv c (rs++ [t]) (l++ [nth c t]):=by
 refine ⟨by simp[h.1],fun j hj=>?_⟩
 by_cases e:j<l.length
 ·rw[nF (by omega) (by have:=h.1;omega),nF (by omega) (by omega)];exact h.2 j e
 ·have e:j=l.length:=by simp at hj;omega
  subst e
  have h1:nth (rs++ [t]) (l.length:Int)=t:=by rw[bY (by simp[h.1])];simp[←h.1]
  have h2:nth (l++ [nth c t]) (l.length:Int)=nth c t:=by rw[bY (by simp)];simp
  rw[h1,h2];exact ⟨ht,rfl⟩
theorem Oh (V:VA a n) (hn:n≤1000000) (hc:c.length=n) (hlv:lv.length=n) {l rs:List Int} {acs:List Bool} {rws:List (List Int)} {i:Nat} (hi:i<l.length) (hR:RepsOf n lv c rs l) {os:List (Option Int)} (hos:os.length=9)
  (ho: ∀r,good n lv r→nth c r=nth l (i:Int)→wU a c lv r=os) (hB: ∀k,(nbS l (os.take k)).length≤1000000) :
  ∃rs',ai (fM a c lv (l,rs,(i:Int),0,acs,rws)) aC (l,rs,[],0)=some (.brk (nbS l os,rs',nbR l os,9))∧RepsOf n lv c rs' (nbS l os):=by
 obtain ⟨s',e,rs',rfl,hR'⟩:=fS (f:=fM a c lv (l,rs,(i:Int),0,acs,rws)) (fun k s=> ∃rs',s=(nbS l (os.take k),rs',nbR l (os.take k),(k:Int))∧RepsOf n lv c rs' (nbS l (os.take k))) 9 (by
  rintro k s hk ⟨r1,rfl,hR1⟩
  have hpre:=kO l (os.take k)
  have hlen:=hpre.length_le
  have hBk:=hB k
  have hrl:(nbR l (os.take k)).length≤9:=by rw[dZ,List.length_take];omega
  have hr1:=hR1.1
  obtain ⟨⟨g0,g1,g2⟩,gc⟩:=hR1.2 i (by omega)
  rw[jz hpre (by omega) (by omega)] at gc
  have hsu:=ho _ ⟨g0,g1,g2⟩ gc
  have hok:nth os (k:Int)=if mv a (nth r1 (i:Int)) k≥0∧nth lv (mv a (nth r1 (i:Int)) k)=true then some (nth c (mv a (nth r1 (i:Int)) k)) else none:=by
   rw[←hsu];exact JA hk
  have hmv:=V.mv (s:=nth r1 (i:Int)) (k:=k) g0 g1 hk
  unfold fM
  simp only
  rw[if_pos (by simp;omega),ak (xs:=r1) (by omega) (by omega)];simp only[Option.bind_some]
  rw[V.get g0 g1];simp only[Option.bind_some]
  rw[V.get2 g0 g1 hk,take_one (by omega),vy,sC]
  simp only[Option.bind_some,aa (show k<9223372036854775807 by omega)]
  by_cases c1:mv a (nth r1 (i:Int)) k≥0
  ·rw[if_pos (by simpa using c1),ak (xs:=lv) c1 (by omega)];simp only[Option.bind_some]
   by_cases c2:nth lv (mv a (nth r1 (i:Int)) k)=true
   ·rw[if_pos ⟨c1,c2⟩] at hok
    rw[if_pos c2,ak (xs:=c) c1 (by omega),hok];simp only[Option.bind_some]
    rw[Si (by omega)];simp only[Option.bind_some]
    by_cases c3:nth c (mv a (nth r1 (i:Int)) k)∈nbS l (os.take k)
    ·rw[if_pos c3,if_neg (by simp)];simp only[Option.bind_some]
     rw[au (by simp;omega)]
     exact ⟨_,rfl,r1,by rw[mc c3];rfl,by rw[mc c3];exact hR1⟩
    ·rw[if_neg c3,if_pos (by decide)]
     rw[au (by simp;omega)];simp only[Option.bind_some]
     rw[au (by simp;omega)];simp only[Option.bind_some]
     rw[au (by simp;omega)];simp only[Option.bind_some]
     refine ⟨_,rfl,r1++ [mv a (nth r1 (i:Int)) k],?_,?_⟩
     ·rw[kP c3];simp only[nbI,px c3]
     ·rw[kP c3];exact hR1.snoc ⟨c1,hmv.2,c2⟩
   ·rw[if_neg (fun h=>c2 h.2)] at hok
    rw[if_neg c2,hok];simp only[Option.bind_some]
    rw[au (by simp;omega)]
    exact ⟨_,rfl,r1,rfl,hR1⟩
  ·rw[if_neg (fun h=>c1 h.1)] at hok
   rw[if_neg (by simpa using c1),hok];simp only[Option.bind_some]
   rw[au (by simp;omega)]
   exact ⟨_,rfl,r1,rfl,hR1⟩) (by
  rintro s ⟨r1,rfl,hR1⟩
  unfold fM
  simp) (s:=(l,rs,[],0)) ⟨rs,rfl,hR⟩ (by unfold aC;omega)
 rw[List.take_of_length_le (by omega)] at e hR'
 exact ⟨rs',e,hR'⟩
theorem Wm (V:VA a n) (hn:n≤1000000) (hc:c.length=n) (hlv:lv.length=n) (hs:nth lv a.1=true) (H:NumOk nx (nth c a.1) G B) (hB:B≤1000000)
  (hnx: ∀r,good n lv r→nx (nth c r)=wU a c lv r) (hacc: ∀r,good n lv r→acc (nth c r)=nth a.2.1 r) :
  ∃N,bfE nx (nth c a.1) N∧gY a c lv=some (0,(bfS nx (nth c a.1) N).map acc,bfR nx (nth c a.1) N):=by
 obtain ⟨N,hNB,hN⟩:=Sa (nx:=nx) (first:=nth c a.1) (H.le)
 refine ⟨N,hN,?_⟩
 have hst:=V.start
 have hlen:=V.len
 unfold gY
 rw[ak hst.1 (by omega)];simp only[Option.bind_some]
 rw[if_pos hs,ak hst.1 (by omega)];simp only[Option.bind_some]
 obtain ⟨s',e,rs,rfl,hR⟩:=fS (f:=iV a c lv) (fun i s=> ∃rs,s=(bfS nx (nth c a.1) i,rs,(i:Int),0,((bfS nx (nth c a.1) i).take i).map acc,bfR nx (nth c a.1) i)∧RepsOf n lv c rs (bfS nx (nth c a.1) i)) N (by
  rintro i s hi ⟨rs,rfl,hR⟩
  have hlt:=hN.2 i hi
  have hG:=H.at hlt
  have hle:=H.le i
  have hle':=H.le (i+1)
  obtain ⟨rs',e,hR'⟩:=Oh (acs:=((bfS nx (nth c a.1) i).take i).map acc) (rws:=bfR nx (nth c a.1) i) V hn hc hlv hlt hR (os:=nx (nth (bfS nx (nth c a.1) i) (i:Int))) (H.len _ hG) (fun r hr e=>by rw[←hnx r hr,e]) (fun k=>by
    have:(nbS (bfS nx (nth c a.1) i) ((nx (nth (bfS nx (nth c a.1) i) (i:Int))).take k)).length≤B:=H.bound _ (rL (py i)) fun x hx=>by
     rcases wP.1 hx with hx | hx
     ·exact lE H.g0 H.gn i x hx
     ·exact H.gn _ hG x (List.mem_of_mem_take hx)
    omega)
  unfold iV
  simp only
  rw[if_pos (by simp;omega),af e]
  rw[←kl hlt] at hR'
  have hl2:=(br (nx:=nx) (first:=nth c a.1) i).length_le
  have hr1:=hR'.1
  obtain ⟨⟨g0,g1,g2⟩,gc⟩:=hR'.2 i (by omega)
  rw[jz (br i) (by omega) (by omega)] at gc
  rw[ak (xs:=rs') (by omega) (by omega)];simp only[Option.bind_some]
  rw[V.acc g0 g1,←hacc _ ⟨g0,g1,g2⟩,gc];simp only[Option.bind_some]
  have hr:(bfR nx (nth c a.1) i).length=i:=jx fun j hj=>hN.2 j (by omega)
  rw[au (by simp;omega)];simp only[Option.bind_some]
  rw[au (by simp;omega)];simp only[Option.bind_some,aa (show i<9223372036854775807 by omega)]
  exact ⟨_,rfl,rs',by rw[←kl hlt,yq hlt,vE hlt],hR'⟩) (by
  rintro s ⟨rs,rfl,hR⟩
  unfold iV
  simp only
  rw[if_neg (by have:=hN.1;simp;omega)]) (s:=([nth c a.1],[a.1],0,0,[],[])) ⟨[a.1],rfl,rfl,fun j hj=>by
   obtain rfl:j=0:=by simpa [bfS] using hj
   exact ⟨⟨hst.1,hst.2,hs⟩,rfl⟩⟩ (mb (by omega))
 rw[af e]
 simp only
 rw[List.take_of_length_le (by have:=hN.1;omega)]
theorem Ic (V:VA a n) (hlv:lv.length=n) (hs:nth lv a.1=false):gY a c lv=some nothing:=by
 have hst:=V.start
 unfold gY
 rw[ak hst.1 (by omega)];simp only[Option.bind_some]
 rw[hs,Oe];rfl
end
end D
namespace D
open Go.RowKit
abbrev Gx:=(List Int)×Int×Int×(List Int)×Bool
abbrev Q6 (x:Int) (j:Nat):Bool:=(rQ (nJ x (j:Int)) 1)==1
def Q7 (F:List Int) (set m0:Int):Nat→Int
 | 0=>m0
 | i+1=>if Q6 set (i+1) then orI (Q7 F set m0 i) (nth F (i:Int)) else Q7 F set m0 i
def pick (L:List Int) (m letter:Int):Nat→Int
 | 0=>0
 | i+1=>if nth L (i:Int)=letter∧Q6 m i=true then orI (pick L m letter i) (vR 1 ((i+1:Nat):Int)) else pick L m letter i
def aft (p:Gx) (set letter:Int):Int:=pick p.1 (Q7 p.2.2.2.1 set (if (rQ set 1)==1 then p.2.1 else 0) p.2.2.2.1.length) letter p.1.length
def vF (p:Gx) (set:Int):Bool:=if (rQ set 1)==1 then (if p.2.2.2.2 then true else (rQ (nJ set 1) p.2.2.1) !=0) else (rQ (nJ set 1) p.2.2.1) !=0
theorem rM (i:Nat):chk (0≤(i:Int))=some ():=by unfold chk;rw[if_pos (by omega)]
theorem UA {p:Gx} {set letter:Int} (hl:p.2.2.2.1.length=p.1.length) (hb:p.1.length≤1000000):nU p set letter=some (aft p set letter):=by
 have h0: ∀m0,ai (gu p set) aC (m0,0)=some (.brk (Q7 p.2.2.2.1 set m0 p.1.length,(p.1.length:Int))):=fun m0 =>
  aD (f:=gu p set) (fun i=>(Q7 p.2.2.2.1 set m0 i,(i:Int))) p.1.length (fun i hi=>by
   unfold gu
   simp only
   rw[if_pos (by simp;omega),aa (by omega),rM];simp only[Option.bind_some]
   rw[Q7]
   by_cases c:Q6 set (i+1)=true
   ·rw[if_pos c,if_pos c,ak (by omega) (by omega)];rfl
   ·rw[if_neg c,if_neg c];rfl) (by unfold gu;simp) (mb (by omega))
 have h1: ∀s7:Int×Int,ai (gx p letter s7) aC (0,0)=some (.brk (pick p.1 s7.1 letter p.1.length,(p.1.length:Int))):=fun s7 =>
  aD (f:=gx p letter s7) (fun i=>(pick p.1 s7.1 letter i,(i:Int))) p.1.length (fun i hi=>by
   unfold gx
   simp only
   rw[if_pos (by simp;omega),aa (by omega),rM,rM];simp only[Option.bind_some]
   rw[pick]
   by_cases c:Q6 s7.1 i=true
   ·rw[if_pos c,ak (by omega) (by omega)];simp only[Option.bind_some]
    by_cases d:nth p.1 (i:Int)=letter
    ·rw[if_pos (by simpa using d),if_pos ⟨d,c⟩];rfl
    ·rw[if_neg (by simpa using d),if_neg (fun h=>d h.1)];rfl
   ·rw[if_neg c,if_neg (fun h=>c h.2)];rfl) (by unfold gx;simp) (mb (by omega))
 unfold nU aft
 rw[hl]
 by_cases c:((rQ set 1)==1)=true
 ·rw[if_pos c,if_pos c];simp only[Option.bind_some]
  rw[af (h0 _),af (h1 _)]
 ·rw[if_neg c,if_neg c];simp only[Option.bind_some]
  rw[af (h0 _),af (h1 _)]
theorem UB {p:Gx} {set letter:Int} (hl:p.2.2.2.1.length=p.1.length) (hb:p.1.length≤1000000):fD p set letter=some (aft p set letter):=by
 have h0: ∀m0,ai (cG p set) aC (m0,0)=some (.brk (Q7 p.2.2.2.1 set m0 p.2.2.2.1.length,(p.2.2.2.1.length:Int))):=fun m0 =>
  aD (f:=cG p set) (fun i=>(Q7 p.2.2.2.1 set m0 i,(i:Int))) p.2.2.2.1.length (fun i hi=>by
   unfold cG
   simp only
   rw[if_pos (by simp;omega),ak (by omega) (by omega)];simp only[Option.bind_some]
   rw[aa (by omega),rM];simp only[Option.bind_some]
   rw[Q7]
   by_cases c:Q6 set (i+1)=true
   ·rw[if_pos c,if_pos c];rfl
   ·rw[if_neg c,if_neg c];rfl) (by unfold cG;simp) (mb (by omega))
 have h1: ∀s7:Int×Int,ai (cH p letter s7) aC (0,0)=some (.brk (pick p.1 s7.1 letter p.1.length,(p.1.length:Int))):=fun s7 =>
  aD (f:=cH p letter s7) (fun i=>(pick p.1 s7.1 letter i,(i:Int))) p.1.length (fun i hi=>by
   unfold cH
   simp only
   rw[if_pos (by simp;omega),ak (by omega) (by omega)];simp only[Option.bind_some]
   rw[aa (by omega),rM,rM];simp only[Option.bind_some]
   rw[pick]
   by_cases d:nth p.1 (i:Int)=letter
   ·rw[if_pos (by simpa using d)]
    by_cases c:Q6 s7.1 i=true
    ·rw[if_pos c,if_pos ⟨d,c⟩];rfl
    ·rw[if_neg c,if_neg (fun h=>c h.2)];rfl
   ·rw[if_neg (by simpa using d),if_neg (fun h=>d h.1)];rfl) (by unfold cH;simp) (mb (by omega))
 unfold fD aft
 by_cases c:((rQ set 1)==1)=true
 ·rw[if_pos c,if_pos c];simp only[Option.bind_some]
  rw[af (h0 _),af (h1 _)]
 ·rw[if_neg c,if_neg c];simp only[Option.bind_some]
  rw[af (h0 _),af (h1 _)]
theorem Wn (p:Gx) (x:Int):lf p x=some (vF p x):=by
 unfold lf vF
 split <;> (try split) <;> rfl
theorem Wo (p:Gx) (x:Int):cZ p x=some (vF p x):=by
 unfold cZ vF
 split <;> (try split) <;> rfl
theorem K8 (x:Int): -9223372036854775808≤IntKind.i64.wrap x∧IntKind.i64.wrap x≤9223372036854775807:=by
 simp only[IntKind.wrap,IntKind.bits,IntKind.signed,Bool.true_and]
 split <;> rename_i h <;> simp at h <;> omega
theorem UC (x:Int):iOk (IntKind.i64.wrap x)=true:=by
 have h1:IntKind.i64.min= -9223372036854775808:=by decide
 have h2:IntKind.i64.max=9223372036854775807:=by decide
 have h3:=K8 x
 simp only[iOk,Lit.wf,h1,h2,Bool.and_eq_true,decide_eq_true_eq]
 omega
theorem Wp (m n:Int):iOk (orI m n)=true:=UC _
theorem Oi (L:List Int) (m letter:Int): ∀i,iOk (pick L m letter i)=true
 | 0=>by unfold pick;decide
 | i+1=>by
  rw[pick]
  split
  ·exact Wp _ _
  ·exact Oi L m letter i
def nxS (p:Gx) (x:Int):List (Option Int):=(List.range 9).map fun k:Nat=>if aft p x (k:Int)=0 then none else some (aft p x (k:Int))
theorem Sj {p:Gx} {x:Int} {k:Nat} (hk:k<9):nth (nxS p x) (k:Int)=if aft p x k=0 then none else some (aft p x k):=by
 have:k<(nxS p x).length:=by simp[nxS];omega
 rw[bY this];simp[nxS]
theorem DK (p:Gx) (x:Int):(nxS p x).length=9:=by simp[nxS]
theorem Wq {p:Gx} {x y:Int} (h:some y∈nxS p x):iOk y=true:=by
 obtain ⟨k,hk,e⟩:=List.mem_map.1 h
 split at e
 ·cases e
 ·obtain rfl:=Option.some.inj e
  exact Oi _ _ _ _
theorem Oj {κ:Type} [DecidableEq κ] : ∀(l:List κ) (os:List (Option κ)),(nbS l os).length≤l.length+os.length
 | l,[] =>by simp[nbS]
 | l,o::os=>by
  have h:=Oj (nbL l o) os
  have h2:(nbL l o).length≤l.length+1:=by
   cases o with
   | none=>simp[nbL]
   | some x=>unfold nbL;simp only;split <;> simp
  show (nbS (nbL l o) os).length≤_
  simp only[List.length_cons];omega
section
variable {κ:Type} [DecidableEq κ] (nx:κ→List (Option κ)) (first:κ) (acc:κ→Bool) (most:Nat)
def goM:Nat→Nat→AutT×Bool
 | 0,i=>((0,[],[]),false)
 | f+1,i=>if i<(bfS nx first i).length then (if (bfS nx first (i+1)).length>most then ((0,[],[]),false) else goM f (i+1)) else ((0,((bfS nx first i).take i).map acc,bfR nx first i),true)
end
section
variable {κ:Type} [DecidableEq κ] {nx:κ→List (Option κ)} {first:κ} {acc:κ→Bool} {most:Nat}
theorem DL {i:Nat} (h: ∀j,j<i→j<(bfS nx first j).length):i≤(bfS nx first i).length:=by
 cases i with
 | zero=>omega
 | succ i =>
  have h1:=h i (by omega)
  have h2:=(br (nx:=nx) (first:=first) i).length_le
  omega
theorem JB {S:Type} {f:S→Option (Out (AutT×Bool) S)} (hm:most≤1000000) (h1:1≤most) (st:Nat→S→Prop)
  (hs: ∀i s,st i s→(∀j,j<i→j<(bfS nx first j).length)→(bfS nx first i).length≤most→i<(bfS nx first i).length→((bfS nx first (i+1)).length>most→f s=some (.ret ((0,[],[]),false)))∧((bfS nx first (i+1)).length≤most→ ∃s',f s=some (.nxt s')∧st (i+1) s'))
  (he: ∀i s,st i s→ ¬i<(bfS nx first i).length→f s=some (.brk s)) {s:S} (h0:st 0 s) :
  (ai f aC s=some (.ret ((0,[],[]),false))∧goM nx first acc most (most+2) 0=((0,[],[]),false)) ∨
  ∃N s',ai f aC s=some (.brk s')∧st N s'∧bfE nx first N∧N≤most∧goM nx first acc most (most+2) 0=((0,(bfS nx first N).map acc,bfR nx first N),true):=by
 obtain ⟨o,e,hq⟩:=cm (f:=f) (fun i s=>st i s∧(∀j,j<i→j<(bfS nx first j).length)∧(bfS nx first i).length≤most∧goM nx first acc most (most+2) 0=goM nx first acc most (most+2 - i) i)
  (fun o=>(o= .ret ((0,[],[]),false)∧goM nx first acc most (most+2) 0=((0,[],[]),false))∨ ∃N s',o= .brk s'∧st N s'∧bfE nx first N∧N≤most∧goM nx first acc most (most+2) 0=((0,(bfS nx first N).map acc,bfR nx first N),true)) most (s:=s) (by
  rintro i s hi ⟨k1,k2,k3,k4⟩
  have hle:=DL k2
  rw[show most+2 - i=(most+1 - i)+1 from by omega] at k4
  have k5:goM nx first acc most (most+1 - i+1) i=if i<(bfS nx first i).length then (if (bfS nx first (i+1)).length>most then ((0,[],[]),false) else goM nx first acc most (most+1 - i) (i+1)) else ((0,((bfS nx first i).take i).map acc,bfR nx first i),true):=rfl
  rw[k5] at k4
  by_cases c:i<(bfS nx first i).length
  ·rw[if_pos c] at k4
   obtain ⟨q1,q2⟩:=hs i s k1 k2 k3 c
   by_cases d:(bfS nx first (i+1)).length>most
   ·rw[if_pos d] at k4
    exact .inr ⟨_,q1 d,(fun s' e=>by cases e),.inl ⟨rfl,k4⟩⟩
   ·rw[if_neg d] at k4
    obtain ⟨s',e,hs'⟩:=q2 (by omega)
    exact .inl ⟨by omega,s',e,hs',fun j hj=>(by
     by_cases ej:j=i
     ·subst ej;exact c
     ·exact k2 j (by omega)),by omega,by rw[k4];congr 1;omega⟩
  ·rw[if_neg c] at k4
   refine .inr ⟨_,he i s k1 c,(fun s' e=>by cases e),.inr ⟨i,s,rfl,k1,⟨by omega,k2⟩,hi,?_⟩⟩
   rw[k4,List.take_of_length_le (by omega)]) ⟨h0,fun j hj=>by omega,by simp[bfS];omega,rfl⟩ (mb (by omega))
 rcases hq with ⟨rfl,h⟩ | ⟨N,s',rfl,h⟩
 ·exact .inl ⟨e,h⟩
 ·exact .inr ⟨N,s',e,h⟩
end
section
variable {p:Gx} {most:Nat} (hl:p.2.2.2.1.length=p.1.length) (hb:p.1.length≤1000000) (hm:most≤900000) (h1:1≤most)
include hl hb hm h1
theorem XP:gH p most=some (goM (nxS p) 1 (vF p) most (most+2) 0):=by
 have hp3: ∀(l:List Int) (i k:Nat),k<9→ ∃j,(fun a0 a1=>cK a0 a1 (p.1,p.2.1,p.2.2.1,p.2.2.2.1,p.2.2.2.2)) (nth l (i:Int)) (k:Int)=some (match nth (nxS p (nth l (i:Int))) (k:Int) with | some y=>(y,true) | none=>(j,false)):=by
  intro l i k hk
  refine ⟨0,?_⟩
  show cK _ _ p=_
  unfold cK
  simp only[db]
  rw[UB hl hb,Sj hk];simp only[Option.bind_some]
  by_cases c:aft p (nth l (i:Int)) k=0
  ·rw[if_pos c];simp[c]
  ·rw[if_neg c];simp[c]
 unfold gH dW
 rw[show LK ([] :List (Int×Int)) iOk iOk 1 0=some [(1,0)] from by unfold LK;rw[if_pos ⟨by simp,by decide,by decide⟩]];simp only[Option.bind_some]
 rcases JB (nx:=nxS p) (first:=1) (acc:=vF p) (most:=most) (f:=bE most (fun a0=>cZ (p.1,p.2.1,p.2.2.1,p.2.2.2.1,p.2.2.2.2) a0) (fun a0 a1=>cK a0 a1 (p.1,p.2.1,p.2.2.1,p.2.2.2.1,p.2.2.2.2)))
  (by omega) h1 (fun i s=> ∃M,s=(bfS (nxS p) 1 i,M,(i:Int),0,((bfS (nxS p) 1 i).take i).map (vF p),bfR (nxS p) 1 i)∧MapOf M (bfS (nxS p) 1 i)) (by
   rintro i s ⟨M,rfl,hM⟩ hj hle hlt
   have hil:=DL hj
   obtain ⟨M',e,hM'⟩:=F7 (p3:=fun a0 a1=>cK a0 a1 (p.1,p.2.1,p.2.2.1,p.2.2.2.1,p.2.2.2.2)) (l:=bfS (nxS p) 1 i) (M:=M) (os:=nxS p (nth (bfS (nxS p) 1 i) (i:Int))) (acs:=((bfS (nxS p) 1 i).take i).map (vF p)) (rws:=bfR (nxS p) 1 i) hlt (DK _ _) hM (fun y hy=>Wq hy)
    (fun k=>by
     have:=Oj (bfS (nxS p) 1 i) ((nxS p (nth (bfS (nxS p) 1 i) (i:Int))).take k)
     have h9:=DK p (nth (bfS (nxS p) 1 i) (i:Int))
     rw[List.length_take] at this
     omega) (fun k hk=>hp3 _ i k hk)
   rw[←kl hlt] at hM'
   have hl2:=(br (nx:=nxS p) (first:=1) i).length_le
   constructor
   ·intro hgt
    unfold bE
    simp only
    rw[if_pos (by simp;omega),af e,←kl hlt]
    simp only
    rw[if_pos (by simp;omega)]
   ·intro hle2
    unfold bE
    simp only
    rw[if_pos (by simp;omega),af e,←kl hlt]
    simp only
    rw[if_neg (by simp;omega),ak (by omega) (by omega)];simp only[Option.bind_some]
    rw[jz (br i) (by omega) (by omega)]
    simp only[db]
    rw[Wo];simp only[Option.bind_some]
    have hr:(bfR (nxS p) 1 i).length=i:=jx hj
    rw[au (by simp;omega)];simp only[Option.bind_some]
    rw[au (by simp;omega)];simp only[Option.bind_some,aa (show i<9223372036854775807 by omega)]
    exact ⟨_,rfl,M',by rw[yq hlt,vE hlt],hM'⟩) (by
   rintro i s ⟨M,rfl,hM⟩ hn
   unfold bE
   simp only
   rw[if_neg (by simp;omega)]) (s:=([1],[(1,0)],0,0,[],[])) ⟨_,rfl,MapOf.one 1⟩ with ⟨e,hg⟩ | ⟨N,s',e,⟨M,rfl,hM⟩,hN,hNm,hg⟩
 ·rw[aT e,hg];rfl
 ·rw[af e,hg];simp only[Option.bind_some]
  rw[List.take_of_length_le (by have:=hN.1;omega)]
theorem Q8 {l:List Int} {acs:List Bool} {rws:List (List Int)} {i:Nat} (hi:i<l.length) (hle:l.length≤most) :
  ai (eW p (l,(i:Int),0,acs,rws)) aC (l,[],0)=some (.brk (nbS l (nxS p (nth l (i:Int))),nbR l (nxS p (nth l (i:Int))),9)):=by
 have h9:=DK p (nth l (i:Int))
 have:=aD (f:=eW p (l,(i:Int),0,acs,rws)) (fun k=>(nbS l ((nxS p (nth l (i:Int))).take k),nbR l ((nxS p (nth l (i:Int))).take k),(k:Int))) 9 (fun k hk=>by
  have hpre:=kO l ((nxS p (nth l (i:Int))).take k)
  have hlen:=hpre.length_le
  have hB:=Oj l ((nxS p (nth l (i:Int))).take k)
  rw[List.length_take] at hB
  have hrl:(nbR l ((nxS p (nth l (i:Int))).take k)).length≤9:=by rw[dZ,List.length_take];omega
  unfold eW
  simp only[db]
  rw[if_pos (by simp;omega),ak (by omega) (by omega)];simp only[Option.bind_some]
  rw[jz hpre (by omega) (by omega),UA hl hb];simp only[Option.bind_some]
  rw[take_one (by omega),vy,sC,Sj hk]
  simp only[aa (show k<9223372036854775807 by omega)]
  by_cases c:aft p (nth l (i:Int)) k=0
  ·rw[if_pos c,if_neg (by simp[c])];simp only[Option.bind_some]
   rw[au (by simp;omega)];rfl
  ·rw[if_neg c,if_pos (by simpa using c),Si (by omega)];simp only[Option.bind_some]
   by_cases d:aft p (nth l (i:Int)) k∈nbS l ((nxS p (nth l (i:Int))).take k)
   ·rw[if_pos d,if_neg (by simp),mc d];simp only[Option.bind_some]
    rw[au (by simp;omega)];rfl
   ·rw[if_neg d,if_pos (by decide),au (by simp;omega),kP d];simp only[Option.bind_some]
    rw[au (by simp;omega)];simp only[nbI,px d,Option.bind_some]) (by
  unfold eW
  simp) (by unfold aC;omega)
 have e9:(nxS p (nth l (i:Int))).take 9=nxS p (nth l (i:Int)):=List.take_of_length_le (by omega)
 rw[e9] at this
 exact this
theorem XQ:iE p most=some (goM (nxS p) 1 (vF p) most (most+2) 0):=by
 unfold iE
 rcases JB (nx:=nxS p) (first:=1) (acc:=vF p) (most:=most) (f:=eX p most)
  (by omega) h1 (fun i s=>s=(bfS (nxS p) 1 i,(i:Int),0,((bfS (nxS p) 1 i).take i).map (vF p),bfR (nxS p) 1 i)) (by
   rintro i s rfl hj hle hlt
   have hil:=DL hj
   have e:=Q8 hl hb hm h1 (acs:=((bfS (nxS p) 1 i).take i).map (vF p)) (rws:=bfR (nxS p) 1 i) hlt hle
   have hl2:=(br (nx:=nxS p) (first:=1) i).length_le
   constructor
   ·intro hgt
    unfold eX
    simp only
    rw[if_pos (by simp;omega),af e,←kl hlt]
    simp only
    rw[if_pos (by simp;omega)]
   ·intro hle2
    unfold eX
    simp only
    rw[if_pos (by simp;omega),af e,←kl hlt]
    simp only
    rw[if_neg (by simp;omega),ak (by omega) (by omega)];simp only[Option.bind_some]
    rw[jz (br i) (by omega) (by omega)]
    simp only[db]
    rw[Wn];simp only[Option.bind_some]
    have hr:(bfR (nxS p) 1 i).length=i:=jx hj
    rw[au (by simp;omega)];simp only[Option.bind_some]
    rw[au (by simp;omega)];simp only[Option.bind_some,aa (show i<9223372036854775807 by omega)]
    exact ⟨_,rfl,by rw[yq hlt,vE hlt]⟩) (by
   rintro i s rfl hn
   unfold eX
   simp only
   rw[if_neg (by simp;omega)]) (s:=([1],0,0,[],[])) rfl with ⟨e,hg⟩ | ⟨N,s',e,rfl,hN,hNm,hg⟩
 ·rw[aT e,hg]
 ·rw[af e,hg];simp only
  rw[List.take_of_length_le (by have:=hN.1;omega)]
end
end D
namespace D
open Go.RowKit
theorem Q9 (m n:Int):orI m n=orI n m:=by unfold orI;rw[BitVec.or_comm]
def lk (F:List Int) (from_ to_:Int):Nat→List Int
 | 0=>F
 | i+1=>if Q6 from_ i then (lk F from_ to_ i).set i (orI (nth (lk F from_ to_ i) (i:Int)) to_) else lk F from_ to_ i
theorem AD (F:List Int) (f t:Int): ∀i,(lk F f t i).length=F.length
 | 0=>rfl
 | i+1=>by
  rw[lk]
  split
  ·rw[List.length_set,AD]
  ·exact AD F f t i
theorem Sk {p:Gx} {f t:Int} (hl:p.2.2.2.1.length≤1000000):na p f t=some (p.1,p.2.1,p.2.2.1,lk p.2.2.2.1 f t p.2.2.2.1.length,p.2.2.2.2):=by
 have hL:ai (iD f t) aC (0,p.2.2.2.1)=some (.brk ((p.2.2.2.1.length:Int),lk p.2.2.2.1 f t p.2.2.2.1.length)):=aD (f:=iD f t) (fun i=>((i:Int),lk p.2.2.2.1 f t i)) p.2.2.2.1.length (fun i hi=>by
  have hk:=AD p.2.2.2.1 f t i
  unfold iD
  simp only
  rw[if_pos (by simp;omega),rM];simp only[Option.bind_some]
  rw[lk,aa (by omega)]
  by_cases c:Q6 f i=true
  ·rw[if_pos c,if_pos c,ak (by omega) (by omega)];simp only[Option.bind_some,Int.toNat_natCast]
  ·rw[if_neg c,if_neg c];rfl) (by unfold iD;simp[AD]) (mb (by omega))
 unfold na
 rw[af hL]
theorem JC {p:Gx} {f t:Int} (hl:p.2.2.2.1.length≤1000000):dj p f t=some (p.1,p.2.1,p.2.2.1,lk p.2.2.2.1 f t p.2.2.2.1.length,p.2.2.2.2):=by
 have hL:ai (cw p f t) aC (0,p.2.2.2.1)=some (.brk ((p.2.2.2.1.length:Int),lk p.2.2.2.1 f t p.2.2.2.1.length)):=aD (f:=cw p f t) (fun i=>((i:Int),lk p.2.2.2.1 f t i)) p.2.2.2.1.length (fun i hi=>by
  have hk:=AD p.2.2.2.1 f t i
  unfold cw
  simp only
  rw[if_pos (by simp;omega),rM];simp only[Option.bind_some]
  rw[lk,aa (by omega)]
  by_cases c:Q6 f i=true
  ·rw[if_pos c,if_pos c,ak (by omega) (by omega)];simp only[Option.bind_some,Int.toNat_natCast]
  ·rw[if_neg c,if_neg c];rfl) (by unfold cw;simp) (mb (by omega))
 unfold dj
 rw[af hL]
def BOk (x:Tr Tok):Prop:= ∀(n m:Nat) (p:Gx),(flat x).length≤n→(flat x).length≤m→p.2.2.2.1.length=p.1.length→p.1.length+(flat x).length≤100000→
 ∃(nu:Bool) (fi la:Int) (q:Gx),cV n p (flat x)=some ((nu,fi,la),q)∧aZ m p x=some ((fi,la,nu),q)∧q.2.2.2.1.length=q.1.length∧q.1.length≤p.1.length+(flat x).length
theorem Ra {x:Tr Tok} (h:WT x):BOk x:=by
 refine WT.ind (p:=BOk) ?_ ?_ ?_ h
 ·intro t e n m p hn hm hF hl
  rw[BE] at hn hm hl⊢
  simp only[List.length_cons,List.length_nil] at hl
  match n,m,hn,hm with
  | n+1,m+1,_,_ =>
   rw[cV,aZ];simp only[pA,Option.bind_some]
   have:=(mM (A:=[]) (t:=t) (by simp)).1
   rw[List.nil_append] at this
   rw[this];simp only[Option.bind_some,db]
   rcases nG (show 0≤ar t by omega) with ⟨k,_⟩ | ⟨k,_⟩ | ⟨_,k⟩
   ·omega
   ·omega
   rcases k with k | k | k
   ·exact ⟨false,0,0,p,by simp[k],by simp[k],hF,by simp⟩
   ·exact ⟨true,0,0,p,by simp[k],by simp[k],hF,by simp⟩
   ·refine ⟨false,vR 1 (p.1.length:Int),vR 1 (p.1.length:Int),(p.1++ [t.2.1],p.2.1,p.2.2.1,p.2.2.2.1++ [0],p.2.2.2.2),?_,?_,by simp[hF],by simp⟩
    ·rw[if_neg (by simp[k]),if_pos (by simp[k]),au (by simp;omega)];simp only[Option.bind_some]
     rw[au (by simp;omega)];rfl
    ·rw[if_neg (by simp[k]),if_pos (by simp[k]),au (by simp;omega)];simp only[Option.bind_some]
     rw[au (by simp;omega)];rfl
 ·intro t a e wa ih n m p hn hm hF hl
  rw[DE] at hn hm hl⊢
  simp only[List.length_append,List.length_cons,List.length_nil] at hn hm hl
  match n,m,hn,hm with
  | n+1,m+1,hn,hm =>
   rw[cV,aZ];simp only[pA,Option.bind_some,db]
   obtain ⟨l1,l2⟩:=mM (A:=flat a) (t:=t) (by omega)
   rw[l1];simp only[Option.bind_some]
   obtain ⟨nu,fi,la,q,hs,hi,hq1,hq2⟩:=ih n m p (by omega) (by omega) hF (by omega)
   rcases Q2 e with ⟨k1,k2⟩ | ⟨k1,k2,k3⟩
   ·have g2:(t.1==2)=false:=by simp[k2]
    have g3:(t.1==3)=false:=by simp[k2]
    have g4:(t.1==4)=false:=by simp[k2]
    have g5:(t.1==5)=false:=by simp[k2]
    simp only[g2,g3,g4,g5,k1,Bool.false_eq_true,if_false,if_true]
    rw[l2,Int.toNat_natCast,List.take_left,mj (by simp only[List.length_append,List.length_cons,List.length_nil];omega)];simp only[Option.bind_some]
    rw[hs,show az [a] 0=some a from rfl];simp only[Option.bind_some]
    rw[hi];simp only[Option.bind_some,db]
    rw[Sk (by omega),JC (by omega)];simp only[Option.bind_some]
    refine ⟨true,fi,la,_,rfl,rfl,?_,?_⟩
    ·simp only[AD];exact hq1
    ·simp only[List.length_append,List.length_cons,List.length_nil];omega
   ·have g2:(t.1==2)=false:=by simp[k3]
    have g3:(t.1==3)=false:=by simp[k3]
    have g4:(t.1==4)=false:=by simp[k3]
    have g5:(t.1==5)=false:=by simp[k3]
    simp only[g2,g3,g4,g5,k1,Bool.false_eq_true,if_false]
    exact ⟨false,0,0,p,rfl,rfl,hF,by omega⟩
 ·intro t a b e wa wb iha ihb n m p hn hm hF hl
  rw[ui] at hn hm hl⊢
  have hl2:((flat a++flat b)++ [t]).length≤1000000:=by omega
  obtain ⟨p1,p2,p3,p4⟩:=AC (a:=a) (t:=t) wb hl2
  simp only[List.length_append,List.length_cons,List.length_nil] at hn hm hl
  match n,m,hn,hm with
  | n+1,m+1,hn,hm =>
   have hpa:=wa.pos
   have hpb:=wb.pos
   rw[cV,aZ];simp only[pA,Option.bind_some,db]
   obtain ⟨l1,l2⟩:=mM (A:=flat a++flat b) (t:=t) (by rw[List.length_append];omega)
   rw[l1];simp only[Option.bind_some]
   obtain ⟨nu,fi,la,q,hs,hi,hq1,hq2⟩:=iha n m p (by omega) (by omega) hF (by omega)
   obtain ⟨nu2,fi2,la2,q2,hs2,hi2,hq3,hq4⟩:=ihb n m q (by omega) (by omega) hq1 (by omega)
   have c1: ∀r:Int,0≤r→r≤((flat a++flat b++ [t]).length:Int)→chk (0≤r∧r≤((flat a++flat b++ [t]).length:Int))=some ():=fun r h1 h2=>mj ⟨h1,h2⟩
   have g0:az [a,b] 0=some a:=rfl
   have g1:az [a,b] 1=some b:=rfl
   rcases nG (show 0≤ar t by omega) with ⟨_,k⟩ | ⟨k,_⟩ | ⟨k,_⟩
   ·rcases k with k | k
    ·have g2:(t.1==2)=false:=by simp[k]
     have g3:(t.1==3)=false:=by simp[k]
     have g4:(t.1==4)=true:=by simp[k]
     have g5:(t.1==5)=false:=by simp[k]
     simp only[g2,g3,g4,g5,Bool.false_eq_true,if_false,if_true]
     rw[l2,p1,p2,mj (by simp only[List.length_append,List.length_cons,List.length_nil];omega)];simp only[Option.bind_some]
     rw[mj (by simp only[List.length_append,List.length_cons,List.length_nil];omega),p3,p4,hs,g0,g1];simp only[Option.bind_some]
     rw[hi,mj (by simp only[List.length_append,List.length_cons,List.length_nil];omega)];simp only[Option.bind_some,db]
     rw[hs2,hi2];simp only[Option.bind_some,db]
     rw[Sk (by omega),JC (by omega)];simp only[Option.bind_some]
     refine ⟨nu&&nu2,if nu then orI fi fi2 else fi,if nu2 then orI la la2 else la2,(q2.1,q2.2.1,q2.2.2.1,lk q2.2.2.2.1 la fi2 q2.2.2.2.1.length,q2.2.2.2.2),?_,?_,?_,?_⟩
     ·cases nu <;> cases nu2 <;> rfl
     ·rw[Q9 la la2]
      cases nu <;> cases nu2 <;> rfl
     ·simp only[AD];exact hq3
     ·simp only[List.length_append,List.length_cons,List.length_nil];omega
    ·have g2:(t.1==2)=false:=by simp[k]
     have g3:(t.1==3)=false:=by simp[k]
     have g4:(t.1==4)=false:=by simp[k]
     have g5:(t.1==5)=true:=by simp[k]
     simp only[g2,g3,g4,g5,Bool.false_eq_true,if_false,if_true]
     rw[l2,p1,p2,mj (by simp only[List.length_append,List.length_cons,List.length_nil];omega)];simp only[Option.bind_some]
     rw[mj (by simp only[List.length_append,List.length_cons,List.length_nil];omega),p3,p4,hs,g0,g1];simp only[Option.bind_some]
     rw[hi,mj (by simp only[List.length_append,List.length_cons,List.length_nil];omega)];simp only[Option.bind_some,db]
     rw[hs2,hi2];simp only[Option.bind_some,db]
     refine ⟨nu || nu2,orI fi fi2,orI la la2,q2,?_,?_,hq3,?_⟩
     ·cases nu <;> simp
     ·cases nu <;> simp
     ·simp only[List.length_append,List.length_cons,List.length_nil];omega
   ·omega
   ·omega
def Ie (e:List Tok):Nat→Nat
 | 0=>0
 | i+1=>if (nth e (i:Int)).1=3 then Ie e i+1 else Ie e i
theorem If (e:List Tok): ∀i,Ie e i≤i
 | 0=>Nat.le_refl _
 | i+1=>by
  have:=If e i
  rw[Ie];split <;> omega
theorem XR {r:List Tok×Bool} (hl:r.1.length≤1000000):ai (cW r) aC (0,0)=some (.brk ((Ie r.1 r.1.length:Int),(r.1.length:Int))):=
 aD (f:=cW r) (fun i=>((Ie r.1 i:Int),(i:Int))) r.1.length (fun i hi=>by
  have:=If r.1 i
  unfold cW
  simp only
  rw[if_pos (by simp;omega),ak (by omega) (by omega)];simp only[Option.bind_some]
  rw[Ie,aa (show i<9223372036854775807 by omega),aa (show Ie r.1 i<9223372036854775807 by omega)]
  by_cases c:(nth r.1 (i:Int)).1=3
  ·rw[if_pos (by simpa using c),if_pos c];rfl
  ·rw[if_neg (by simpa using c),if_neg c];rfl) (by unfold cW;simp) (mb (by omega))
theorem XS {r:List Tok×Bool} (hl:r.1.length≤1000000):ai (cY r) aC (0,0)=some (.brk ((Ie r.1 r.1.length:Int),(r.1.length:Int))):=
 aD (f:=cY r) (fun i=>((Ie r.1 i:Int),(i:Int))) r.1.length (fun i hi=>by
  have:=If r.1 i
  unfold cY
  simp only
  rw[if_pos (by simp;omega),ak (by omega) (by omega)];simp only[Option.bind_some]
  rw[Ie,aa (show i<9223372036854775807 by omega),aa (show Ie r.1 i<9223372036854775807 by omega)]
  by_cases c:(nth r.1 (i:Int)).1=3
  ·rw[if_pos (by simpa using c),if_pos c];rfl
  ·rw[if_neg (by simpa using c),if_neg c];rfl) (by unfold cY;simp) (mb (by omega))
theorem uk {e:List Tok} (he:e.length≤1048576): ∃r:Gx×Bool,ga e=some r∧gb e=some r∧r.1.2.2.2.1.length=r.1.1.length∧r.1.1.length≤100000:=by
 have hF:=vD
 obtain ⟨e1,e2⟩:=Ia he
 unfold ga gb
 rw[e1,e2];simp only[Option.bind_some]
 by_cases c:(K7 e).2=true
 ·obtain ⟨y,wy,ey,ly⟩:=Ux c
  rw[if_pos c,if_pos c,af (XR (by rw[ey];omega)),af (XS (by rw[ey];omega))]
  simp only
  by_cases d:(Ie (K7 e).1 (K7 e).1.length:Int)>20
  ·have d':decide ((Ie (K7 e).1 (K7 e).1.length:Int)>20)=true:=decide_eq_true d
   simp only[d',if_true]
   exact ⟨_,rfl,rfl,rfl,by simp⟩
  ·have d':decide ((Ie (K7 e).1 (K7 e).1.length:Int)>20)=false:=decide_eq_false d
   simp only[d',Bool.false_eq_true,if_false]
   rw[ey,DG (by omega),wR wy];simp only[Option.bind_some]
   obtain ⟨nu,fi,la,q,hs,hi,hq1,hq2⟩:=Ra wy fK fK ([],0,0,[],false) (by omega) (by omega) rfl (by simp;omega)
   rw[hs,hi];simp only[Option.bind_some]
   exact ⟨_,rfl,rfl,hq1,by simp at hq2;show q.1.length≤_;omega⟩
 ·rw[if_neg c,if_neg c]
  exact ⟨_,rfl,rfl,rfl,by simp⟩
end D
namespace D
open Go.RowKit
theorem K9 {κ:Type} [DecidableEq κ] {l m:List κ} (h:l <+:m) {y:κ} (hy:y∈l):(m.idxOf y:Int)=l.idxOf y:=by
 obtain ⟨t,rfl⟩:=h
 rw[List.idxOf_append,if_pos hy]
theorem Sl {κ:Type} [DecidableEq κ] : ∀(l:List κ) (os:List (Option κ)) (i:Nat),i<os.length→nth (nbR l os) (i:Int)=nbI (nbS l os) (nth os (i:Int))
 | l,o::os,0,_=>by
  show nbI l o=nbI (nbS (nbL l o) os) o
  cases o with
  | none=>rfl
  | some y =>
   have hm:y∈nbL l (some y):=N1.2 (.inr rfl)
   simp only[nbI]
   rw[K9 (kO _ os) hm]
   by_cases c:y∈l
   ·rw[mc c]
   ·rw[kP c,List.idxOf_append,if_neg c,px c];simp
 | l,o::os,i+1,h=>by
  have h':i<os.length:=by simpa using h
  have ih:=Sl (nbL l o) os i h'
  have e1:nth (nbR l (o::os)) ((i+1:Nat):Int)=nth (nbR (nbL l o) os) (i:Int):=by
   rw[bY (by rw[dZ];exact h),bY (by rw[dZ];exact h')];rfl
  have e2:nth (o::os) ((i+1:Nat):Int)=nth os (i:Int):=by rw[bY h,bY h'];rfl
  rw[e1,e2];exact ih
theorem oK {κ:Type} [DecidableEq κ] {l:List κ} {y:κ} (h:y∈l): ∃(q:Nat) (hq:q<l.length),nbI l (some y)=(q:Int)∧l[q] =y:=
 ⟨l.idxOf y,List.idxOf_lt_length_of_mem h,rfl,by simp⟩
theorem DM {κ:Type} [DecidableEq κ] {l:List κ} {y:κ} (h:y∉l):nbI l (some y)=(l.length:Int):=by simp only[nbI,px h]
def Sn:List Int→Nat→Nat→Prop
 | [],c,m=>c=m
 | x::xs,c,m=>(x= -1∧Sn xs c m)∨(0≤x∧x<c∧Sn xs c m)∨(x=c∧Sn xs (c+1) m)
theorem DN {κ:Type} [DecidableEq κ] : ∀(os:List (Option κ)) (l:List κ),Sn (nbR l os) l.length (nbS l os).length
 | [],l=>rfl
 | none::os,l=>.inl ⟨rfl,DN os l⟩
 | some y::os,l=>by
  by_cases c:y∈l
  ·refine .inr (.inl ⟨Int.natCast_nonneg _,?_,?_⟩)
   ·have:=List.idxOf_lt_length_of_mem c
    simp only[nbI];omega
   ·show Sn (nbR (nbL l (some y)) os) l.length (nbS (nbL l (some y)) os).length
    rw[mc c];exact DN os l
  ·refine .inr (.inr ⟨by simp only[nbI,px c],?_⟩)
   show Sn (nbR (nbL l (some y)) os) (l.length+1) (nbS (nbL l (some y)) os).length
   have:=DN os (l++ [y])
   rw[kP c]
   simpa using this
def Xj:List Int→List (Option (List Int))→Prop
 | [],[] =>True
 | x::xs,o::os=>((x<0∧o=none)∨(0≤x∧ ∃t,o=some (x::t)))∧Xj xs os
 | _,_=>False
theorem Ol: ∀(xs:List Int) (os:List (Option (List Int))),xs.length=os.length→(∀i (h:i<xs.length) (h':i<os.length),(xs[i] < 0∧os[i] =none)∨(0≤xs[i] ∧ ∃t,os[i] =some (xs[i] ::t)))→Xj xs os
 | [],[],_,_=>trivial
 | x::xs,o::os,hl,h=>⟨h 0 (by simp) (by simp),Ol xs os (by simpa using hl) fun i h1 h2=>h (i+1) (by simpa using h1) (by simpa using h2)⟩
theorem nH: ∀(xs:List Int) (os:List (Option (List Int))) (l:List (List Int)) (c m:Nat),Xj xs os→Sn xs c m→(∀y∈l,∃h t,y=h::t∧h<c)→
  m+l.length≤(nbS l os).length+c∧(l.length=c→(∀(q:Nat) (hq:q<l.length),∃t,l[q] =(q:Int)::t)→(nbS l os).length=m→nbR l os=xs)
 | [],[],l,c,m,_,hn,_=>by
  have hn:c=m:=hn
  subst hn
  exact ⟨by simp[nbS];omega,fun _ _ _=>rfl⟩
 | x::xs,o::os,l,c,m,hr,hn,hh=>by
  obtain ⟨hr1,hr2⟩:=hr
  rcases hn with ⟨rfl,hn⟩ | ⟨hx0,hxc,hn⟩ | ⟨rfl,hn⟩
  ·have ho:o=none:=by
    rcases hr1 with ⟨-,h⟩ | ⟨h,-⟩
    ·exact h
    ·omega
   subst ho
   obtain ⟨i1,i2⟩:=nH xs os l c m hr2 hn hh
   exact ⟨i1,fun h1 h2 h3=>by show -1::nbR l os=_;rw[i2 h1 h2 h3]⟩
  ·obtain ⟨t,rfl⟩: ∃t,o=some (x::t):=by
    rcases hr1 with ⟨h,-⟩ | ⟨-,h⟩
    ·omega
    ·exact h
   by_cases k:(x::t)∈l
   ·obtain ⟨i1,i2⟩:=nH xs os l c m hr2 hn hh
    have hb:nbL l (some (x::t))=l:=mc k
    refine ⟨by show m+l.length≤(nbS (nbL l (some (x::t))) os).length+c;rw[hb];exact i1,fun h1 h2 h3=>?_⟩
    have h3:(nbS (nbL l (some (x::t))) os).length=m:=h3
    rw[hb] at h3
    obtain ⟨q,hq,e1,e2⟩:=oK k
    obtain ⟨t',ht'⟩:=h2 _ hq
    rw[e2] at ht'
    have:x=(q:Int):=by injection ht'
    show nbI l (some (x::t))::nbR (nbL l (some (x::t))) os=_
    rw[e1,←this,hb,i2 h1 h2 h3]
   ·have hb:nbL l (some (x::t))=l++ [x::t]:=kP k
    obtain ⟨i1,i2⟩:=nH xs os (l++ [x::t]) c m hr2 hn (fun y hy=>by
     rcases List.mem_append.1 hy with hy | hy
     ·exact hh y hy
     ·obtain rfl:=List.mem_singleton.1 hy
      exact ⟨x,t,rfl,hxc⟩)
    rw[List.length_append,List.length_singleton] at i1
    refine ⟨by show m+l.length≤(nbS (nbL l (some (x::t))) os).length+c;rw[hb];omega,fun h1 h2 h3=>?_⟩
    have h3:(nbS (nbL l (some (x::t))) os).length=m:=h3
    rw[hb] at h3
    omega
  ·obtain ⟨t,rfl⟩: ∃t,o=some ((c:Int)::t):=by
    rcases hr1 with ⟨h,-⟩ | ⟨-,h⟩
    ·omega
    ·exact h
   have k:((c:Int)::t)∉l:=fun k=>by
    obtain ⟨h,t',e,hlt⟩:=hh _ k
    have:(c:Int)=h:=by injection e
    omega
   have hb:nbL l (some ((c:Int)::t))=l++ [(c:Int)::t]:=kP k
   obtain ⟨i1,i2⟩:=nH xs os (l++ [(c:Int)::t]) (c+1) m hr2 hn (fun y hy=>by
    rcases List.mem_append.1 hy with hy | hy
    ·obtain ⟨h,t',e,hlt⟩:=hh y hy
     exact ⟨h,t',e,by omega⟩
    ·obtain rfl:=List.mem_singleton.1 hy
     exact ⟨c,t,rfl,by omega⟩)
   have hlen:(l++ [(c:Int)::t]).length=l.length+1:=by simp
   rw[hlen] at i1
   refine ⟨by show m+l.length≤(nbS (nbL l (some ((c:Int)::t))) os).length+c;rw[hb];omega,fun h1 h2 h3=>?_⟩
   have h3:(nbS (nbL l (some ((c:Int)::t))) os).length=m:=h3
   rw[hb] at h3
   have:=i2 (by rw[hlen,h1]) (fun q hq=>by
    by_cases e:q<l.length
    ·rw[List.getElem_append_left e];exact h2 q e
    ·have e:q=l.length:=by omega
     subst e
     exact ⟨t,by simp;omega⟩) h3
   show nbI l (some ((c:Int)::t))::nbR (nbL l (some ((c:Int)::t))) os=_
   rw[hb,this,DM k,h1]
theorem DO (xs ys:List Int) (hN:xs.length≤1048576): ∃r,nf xs ys=some r∧(r=0↔xs=ys):=by
 unfold nf
 have h0:=Wf (f:=nV xs ys) xs ys (fun i h h'=>by
  simp only[nV,a6 h,a6 h',if_true,ah h,ah h',Option.bind_some,aa (show i<9223372036854775807 by omega)]
  by_cases h1:xs[i] < ys[i]
  ·simp[h1]
  ·by_cases h2:xs[i] > ys[i]
   ·simp[h1,h2]
   ·simp[h1,h2]) (fun i hi=>by
  simp only[nV]
  by_cases h1:i<xs.length
  ·have h2: ¬i<ys.length:=by omega
   simp[h1,h2]
  ·simp[h1]) xs.length 0 aC (by omega) (iy _ (by omega))
 rw[show (((0:Nat):Int))=(0:Int) from rfl] at h0
 rcases h0 with ⟨r,e,h1,h2⟩ | ⟨s,e,h1⟩
 ·exact ⟨r,by rw[e];rfl,by simp[h1,h2]⟩
 ·rw[e]
  simp only[ax]
  by_cases c1:xs.length<ys.length
  ·exact ⟨-1,by simp[c1],by simp;intro e;subst e;omega⟩
  ·by_cases c2:xs.length>ys.length
   ·exact ⟨1,by simp[c1,c2],by simp;intro e;subst e;omega⟩
   ·exact ⟨0,by simp[c1,c2],by simpa using h1 (by omega)⟩
theorem vG (xs ys:List Int) (hN:xs.length≤9223372036854775807):bO xs ys=some (decide (xs=ys)):=
 eqL (f:=bV xs ys) xs ys hN (fun i h h'=>by
  simp only[bV,a6 h,if_true,ah h,ah h',Option.bind_some,aa (show i<9223372036854775807 by omega)]
  by_cases c:xs[i] =ys[i] <;> simp[c]) (by simp only[bV,aO];rfl)
def Ls (a:AutT):List Int:=(List.range a.2.1.length).map fun s:Nat=>if nth (live a) (s:Int)=true then (if nth a.2.1 (s:Int)=true then 1 else 0) else -1
def ent (a:AutT) (c:List Int) (s:Int) (k:Nat):Int:=if mv a s k<0 then -1 else nth c (mv a s k)
def DP (a:AutT) (c:List Int) (s:Int):List Int:=nth c s::(List.range 9).map fun k=>ent a c s k
def Eb (a:AutT) (c:List Int) (s:Nat):Option (List Int):=if nth c (s:Int)<0 then none else some (DP a c s)
def keys (a:AutT) (c:List Int):List (Option (List Int)):=(List.range a.2.1.length).map (Eb a c)
def Cw (a:AutT) (c:List Int):List Int:=nbR [] (keys a c)
def yr (a:AutT) (c:List Int):Nat:=(nbS [] (keys a c)).length
def cI (a:AutT):Nat→List Int
 | 0=>Ls a
 | j+1=>Cw a (cI a j)
section
variable {a:AutT} {n:Nat}
theorem dL (a:AutT) (c:List Int):(keys a c).length=a.2.1.length:=by simp[keys]
theorem Ig {c:List Int} {s:Nat} (h:s<a.2.1.length):nth (keys a c) (s:Int)=Eb a c s:=by
 rw[bY (by simpa [keys] using h)];simp[keys]
theorem AE (a:AutT) (c:List Int):(Cw a c).length=a.2.1.length:=by rw[Cw,dZ,dL]
theorem nI (a:AutT): ∀j,(cI a j).length=a.2.1.length
 | 0=>by simp[cI,Ls]
 | j+1=>AE a _
theorem qj {κ:Type} [DecidableEq κ] : ∀(l:List κ) (os:List (Option κ)),(nbS l os).length≤l.length+os.length
 | l,[] =>by simp[nbS]
 | l,o::os=>by
  have h:=qj (nbL l o) os
  have:(nbL l o).length≤l.length+1:=by
   cases o with
   | none=>simp[nbL]
   | some x=>unfold nbL;simp only;split <;> simp
  show (nbS (nbL l o) os).length≤_
  rw[List.length_cons];omega
theorem Ih (a:AutT) (c:List Int):yr a c≤a.2.1.length:=by
 have:=qj ([] :List (List Int)) (keys a c)
 rw[dL] at this
 simpa [yr] using this
theorem DQ {c:List Int} {s:Nat} (h:s<a.2.1.length):nth (Cw a c) (s:Int)=nbI (nbS [] (keys a c)) (Eb a c s):=by
 rw[Cw,Sl _ _ _ (by rw[dL];exact h),Ig h]
theorem AF {c:List Int} {s:Nat} (h:s<a.2.1.length) (hc: ¬nth c (s:Int)<0):DP a c s∈nbS [] (keys a c):=by
 refine wP.2 (.inr ?_)
 refine List.mem_map.2 ⟨s,List.mem_range.2 h,?_⟩
 unfold Eb;rw[if_neg hc]
theorem yt {c:List Int} {s:Nat} (h:s<a.2.1.length):(nth (Cw a c) (s:Int)<0↔nth c (s:Int)<0)∧(nth (Cw a c) (s:Int)<0→nth (Cw a c) (s:Int)= -1):=by
 rw[DQ h]
 unfold Eb
 by_cases hc:nth c (s:Int)<0
 ·rw[if_pos hc];simp[nbI,hc]
 ·rw[if_neg hc]
  obtain ⟨q,hq,e,-⟩:=oK (AF h hc)
  rw[e]
  exact ⟨⟨fun h=>by omega,fun h=>absurd h hc⟩,fun h=>by omega⟩
theorem UD {c:List Int} {s:Nat} (h:s<a.2.1.length):nth (Cw a c) (s:Int)<(a.2.1.length:Int):=by
 rw[DQ h]
 unfold Eb
 by_cases hc:nth c (s:Int)<0
 ·rw[if_pos hc];simp only[nbI];omega
 ·rw[if_neg hc]
  obtain ⟨q,hq,e,-⟩:=oK (AF h hc)
  have:=Ih a c
  unfold yr at this
  rw[e];omega
theorem Om {c:List Int} {s t:Nat} (hs:s<a.2.1.length) (ht:t<a.2.1.length) (h0:0≤nth (Cw a c) (s:Int)) (h:nth (Cw a c) (s:Int)=nth (Cw a c) (t:Int)):DP a c s=DP a c t:=by
 have n1: ¬nth c (s:Int)<0:=fun k=>by have:=(yt hs).1.2 k;omega
 have n2: ¬nth c (t:Int)<0:=fun k=>by have:=(yt ht).1.2 k;omega
 rw[DQ hs,DQ ht] at h
 unfold Eb at h
 rw[if_neg n1,if_neg n2] at h
 obtain ⟨q,hq,e1,e2⟩:=oK (AF hs n1)
 obtain ⟨q',hq',e1',e2'⟩:=oK (AF ht n2)
 rw[e1,e1'] at h
 obtain rfl:q=q':=by omega
 rw[←e2,←e2']
theorem Cx (a:AutT) {s:Nat} (h:s<a.2.1.length): ∀j,(nth (cI a j) (s:Int)<0↔nth (live a) (s:Int)=false)∧(nth (cI a j) (s:Int)<0→nth (cI a j) (s:Int)= -1)
 | 0=>by
  have e:nth (cI a 0) (s:Int)=if nth (live a) (s:Int)=true then (if nth a.2.1 (s:Int)=true then 1 else 0) else -1:=by
   show nth (Ls a) (s:Int)=_
   rw[bY (by simpa [Ls] using h)];simp[Ls]
  rw[e]
  cases nth (live a) (s:Int) <;> cases nth a.2.1 (s:Int) <;> simp
 | j+1=>by
  have ih:=Cx a h j
  have:=yt (c:=cI a j) h
  exact ⟨this.1.trans ih.1,this.2⟩
theorem So (a:AutT) {s t:Nat} (hs:s<a.2.1.length) (ht:t<a.2.1.length): ∀j,0≤nth (cI a j) (s:Int)→nth (cI a j) (s:Int)=nth (cI a j) (t:Int)→nth a.2.1 (s:Int)=nth a.2.1 (t:Int)
 | 0,h0,h=>by
  have e: ∀ {s:Nat},s<a.2.1.length→nth (cI a 0) (s:Int)=if nth (live a) (s:Int)=true then (if nth a.2.1 (s:Int)=true then 1 else 0) else -1:=by
   intro s h
   show nth (Ls a) (s:Int)=_
   rw[bY (by simpa [Ls] using h)];simp[Ls]
  rw[e hs] at h0 h
  rw[e ht] at h
  revert h0 h
  cases nth (live a) (s:Int) <;> cases nth a.2.1 (s:Int) <;> cases nth (live a) (t:Int) <;> cases nth a.2.1 (t:Int) <;> simp
 | j+1,h0,h=>by
  have k:=Om (c:=cI a j) hs ht h0 h
  have h1:nth (cI a j) (s:Int)=nth (cI a j) (t:Int):=by
   unfold DP at k;injection k
  refine So a hs ht j ?_ h1
  have:=(yt (c:=cI a j) hs).1
  by_cases q:nth (cI a j) (s:Int)<0
  ·have:=this.2 q
   have h0:0≤nth (Cw a (cI a j)) (s:Int):=h0
   omega
  ·omega
theorem UE (a:AutT) (j:Nat):Sn (cI a (j+1)) 0 (yr a (cI a j)):=DN (keys a (cI a j)) []
theorem Rb (a:AutT) {c:List Int} (hc:c.length=a.2.1.length):Xj c (keys a c):=by
 refine Ol _ _ (by rw[dL,hc]) fun i h h'=>?_
 have e1:c[i] =nth c (i:Int):=(bY h).symm
 have e2:(keys a c)[i] =Eb a c i:=by simp[keys]
 rw[e1,e2]
 unfold Eb
 by_cases k:nth c (i:Int)<0
 ·exact .inl ⟨k,by rw[if_pos k]⟩
 ·exact .inr ⟨by omega,_,by rw[if_neg k];rfl⟩
theorem On (a:AutT) (j:Nat):yr a (cI a j)≤yr a (cI a (j+1))∧(yr a (cI a (j+1))=yr a (cI a j)→cI a (j+2)=cI a (j+1)):=by
 obtain ⟨h1,h2⟩:=nH (cI a (j+1)) (keys a (cI a (j+1))) [] 0 (yr a (cI a j)) (Rb a (nI a _)) (UE a j) (fun y hy=>by cases hy)
 exact ⟨by simpa [yr] using h1,fun h=>h2 rfl (fun q hq=>absurd hq (Nat.not_lt_zero q)) h⟩
theorem Sp {j k:Nat} (h:cI a (j+1)=cI a j) (hk:j≤k):cI a k=cI a j:=by
 induction hk with
 | refl=>rfl
 | step _ ih=>rw[cI,ih];exact h
theorem Oo {j k:Nat} (h:cI a (j+1)=cI a j) (h':cI a (k+1)=cI a k):cI a j=cI a k:=by
 rcases Nat.le_total j k with e | e
 ·exact (Sp h e).symm
 ·exact Sp h' e
theorem UF (a:AutT): ∃j,j≤a.2.1.length∧cI a (j+1)=cI a j:=by
 by_cases h0:cI a 1=cI a 0
 ·exact ⟨0,Nat.zero_le _,h0⟩
 have hpos:1≤yr a (cI a 0):=by
  refine Nat.one_le_iff_ne_zero.2 fun hz=>h0 ?_
  have hnone: ∀s:Nat,s<a.2.1.length→nth (cI a 0) (s:Int)<0:=fun s hs=>by
   refine Classical.byContradiction fun k=>?_
   have:=AF (c:=cI a 0) hs k
   have hl:=List.length_pos_of_mem this
   unfold yr at hz;omega
  refine Ut (by rw[nI,nI]) fun i hi=>?_
  rw[nI] at hi
  have h1:=(Cx a hi 0).2 (hnone i hi)
  have h2:=(Cx a hi 1).2 (((Cx a hi 1).1.trans (Cx a hi 0).1.symm).2 (hnone i hi))
  rw[h1,h2]
 have key: ∀m,(∃j,j≤m∧cI a (j+1)=cI a j)∨m+1≤yr a (cI a m):=by
  intro m
  induction m with
  | zero=>exact .inr hpos
  | succ m ih =>
   rcases ih with ⟨j,hj,e⟩ | ih
   ·exact .inl ⟨j,by omega,e⟩
   ·obtain ⟨g1,g2⟩:=On a m
    by_cases e:yr a (cI a (m+1))=yr a (cI a m)
    ·exact .inl ⟨m+1,Nat.le_refl _,g2 e⟩
    ·exact .inr (by omega)
 rcases key a.2.1.length with h | h
 ·exact h
 ·have:=Ih a (cI a a.2.1.length);omega
end
end D
namespace D
open Go.RowKit
section
variable {a:AutT} {n:Nat} {c:List Int}
theorem JD (k:Nat) (s:Int):(List.range (k+1)).map (fun k=>ent a c s k)=(List.range k).map (fun k=>ent a c s k)++ [ent a c s k]:=by simp[List.range_succ]
theorem XT (V:VA a n) (hn:n≤1000000) (hc:c.length=n) {s:Nat} (hs:s<n):oT a c s=some (DP a c s):=by
 unfold oT
 rw[ak (by omega) (by omega)];simp only[Option.bind_some]
 have:=aD (f:=mA a c s) (fun k=>(nth c (s:Int)::(List.range k).map (fun k=>ent a c s k),(k:Int))) 9 (fun k hk=>by
  have hm:=V.mv (s:=s) (k:=k) (by omega) (by omega) hk
  unfold mA
  simp only
  rw[if_pos (by simp;omega),V.get (by omega) (by omega)];simp only[Option.bind_some]
  rw[V.get2 (by omega) (by omega) hk,JD];simp only[Option.bind_some,aa (show k<9223372036854775807 by omega)]
  by_cases h:mv a s k<0
  ·rw[if_pos (by simpa using h),au (by simp;omega),show ent a c s k= -1 from by unfold ent;rw[if_pos h]];rfl
  ·rw[if_neg (by simpa using h),ak (by omega) (by omega)];simp only[Option.bind_some]
   rw[au (by simp;omega),show ent a c s k=nth c (mv a s k) from by unfold ent;rw[if_neg h]];rfl) (by unfold mA;simp) (by unfold aC;omega)
 exact af this
theorem XU (V:VA a n) (hn:n≤1000000) (hc:c.length=n) {s:Nat} (hs:s<n):ai (cx c (nth a.2.2 (s:Int))) aC (0,[nth c (s:Int)])=some (.brk (9,DP a c s)):=by
 have hr:=V.rowAt (s:=s) (by omega) (by omega)
 exact aD (f:=cx c (nth a.2.2 (s:Int))) (fun k=>((k:Int),nth c (s:Int)::(List.range k).map (fun k=>ent a c s k))) 9 (fun k hk=>by
  have hm:=V.mv (s:=s) (k:=k) (by omega) (by omega) hk
  unfold cx
  simp only
  rw[if_pos (by simp[hr];omega),V.get2 (by omega) (by omega) hk,JD];simp only[Option.bind_some,aa (show k<9223372036854775807 by omega)]
  by_cases h:mv a s k<0
  ·have e:mv a s k= -1:=by omega
   rw[if_neg (by simp;omega)];simp only[Option.bind_some]
   rw[au (by simp;omega),show ent a c s k=mv a s k from by unfold ent;rw[if_pos h,e]];rfl
  ·rw[if_pos (by simp;omega),ak (by omega) (by omega)];simp only[Option.bind_some]
   rw[au (by simp;omega),show ent a c s k=nth c (mv a s k) from by unfold ent;rw[if_neg h]];rfl) (by unfold cx;simp[hr]) (by unfold aC;omega)
theorem F8 {κ:Type} [DecidableEq κ] {l t r:List κ} {x:κ} (e:l=t++x::r) (hx:x∉t):nbI l (some x)=(t.length:Int):=by
 subst e
 simp only[nbI]
 rw[List.idxOf_append,if_neg hx,List.idxOf_cons_self,Nat.zero_add]
def Wr (l:List (List Int)) (x:List Int):Int:=if x∈l then nbI l (some x) else -1
theorem Ws {l:List (List Int)} {x cs:List Int} {q:Int} (hl:l.length≤1000000) (hd:l.Nodup) (hx: ∀y∈l,y.length≤1048576):ai (eZ (l,cs,q) x) aC (-1,0)=some (.brk (Wr l x,(l.length:Int))):=by
 have:=aD (f:=eZ (l,cs,q) x) (fun k=>(if x∈l.take k then nbI l (some x) else -1,(k:Int))) l.length (fun k hk=>by
  unfold eZ
  simp only
  rw[if_pos (by simp;omega),ak (by omega) (by omega)];simp only[Option.bind_some,Int.toNat_natCast,aa (show k<9223372036854775807 by omega)]
  obtain ⟨r,e,hr⟩:=DO (nth l (k:Int)) x (hx _ (bH (by omega) (by omega)))
  rw[e,take_one hk];simp only[Option.bind_some,List.mem_append,List.mem_singleton]
  by_cases h:nth l (k:Int)=x
  ·have h0:r=0:=hr.2 h
   have hm:x∈l:=h ▸ bH (by omega) (by omega)
   obtain ⟨q,hq,e1,e2⟩:=oK hm
   have:q=k:=by
    have h1:l[q]? =some x:=by rw[List.getElem?_eq_getElem hq,e2]
    have h2:l[k]? =some x:=by rw[List.getElem?_eq_getElem hk,←bY hk,h]
    exact (List.getElem?_inj hq hd).1 (h1.trans h2.symm)
   subst this
   rw[if_pos (by simp[h0]),if_pos (.inr h.symm),e1];rfl
  ·have h0:r≠0:=fun e=>h (hr.1 e)
   have hn: ¬x=nth l (k:Int):=fun e=>h e.symm
   rw[if_neg (by simpa using h0)]
   simp[hn]) (by unfold eZ;simp) (mb (by omega))
 rw[List.take_of_length_le (Nat.le_refl _)] at this
 exact this
theorem Wt {l:List (List Int)} {x:List Int} {f:List Int→Option Bool} (hl:l.length≤1000000) (hf: ∀y∈l,f y=some (decide (y=x))):bz l f=some (Wr l x):=by
 unfold bz
 obtain ⟨o,e,hq⟩:=cm (f:=bP l f) (fun k s=>s=(k:Int)∧x∉l.take k) (fun o=>(x∈l∧o= .ret (nbI l (some x)))∨(x∉l∧ ∃s,o= .brk s)) l.length (s:=0) (by
  rintro k s hk ⟨rfl,hx⟩
  unfold bP
  by_cases hkl:k<l.length
  ·rw[if_pos (by simp;omega),ak (by omega) (by omega)];simp only[Option.bind_some]
   rw[hf _ (bH (by omega) (by omega))];simp only[Option.bind_some]
   by_cases h:nth l (k:Int)=x
   ·refine .inr ⟨_,by rw[if_pos (by simpa using h)],(fun s' e=>by cases e),.inl ?_⟩
    have hm:x∈l:=h ▸ bH (by omega) (by omega)
    refine ⟨hm,?_⟩
    have e:l=l.take k++(x::l.drop (k+1)):=by
     rw[←h,bY hkl,←List.drop_eq_getElem_cons hkl,List.take_append_drop]
    rw[F8 e hx,List.length_take,Nat.min_eq_left (by omega)]
   ·refine .inl ⟨hkl,_,by rw[if_neg (by simpa using h)],by rw[aa (by omega)],?_⟩
    rw[take_one hkl,List.mem_append,List.mem_singleton]
    rintro (h' | h')
    ·exact hx h'
    ·exact h h'.symm
  ·refine .inr ⟨_,by rw[if_neg (by simp;omega)],(fun s' e=>by cases e),.inr ⟨?_,_,rfl⟩⟩
   rwa [List.take_of_length_le (by omega)] at hx) ⟨rfl,by simp⟩ (mb (by omega))
 unfold Wr
 rcases hq with ⟨hx,rfl⟩ | ⟨hx,s,rfl⟩
 ·rw[aT e,if_pos hx]
 ·rw[af e,if_neg hx]
theorem AG {os:List (Option (List Int))} (h: ∀y,some y∈os→y.length=10): ∀y∈nbS [] os,y.length=10:=fun y hy=>by
 rcases wP.1 hy with hy | hy
 ·cases hy
 ·exact h y hy
theorem Cy (a:AutT) (c:List Int): ∀y,some y∈keys a c→y.length=10:=by
 intro y hy
 obtain ⟨s,-,e⟩:=List.mem_map.1 hy
 unfold Eb at e
 split at e
 ·cases e
 ·rw[←Option.some.inj e];simp[DP]
section
variable (V:VA a n) (hn:n≤1000000) (hc:c.length=n)
include V hn hc
theorem JE (s:Nat):(nbS [] ((keys a c).take s)).length≤n:=by
 have:=qj ([] :List (List Int)) ((keys a c).take s)
 rw[List.length_take,dL,V.len] at this
 simp at this;omega
theorem Rc {m:Int} :ai (e7 a (c,m)) aC ([],[],0)=some (.brk (nbS [] (keys a c),Cw a c,(n:Int))):=by
 have hlen:=V.len
 have:=aD (f:=e7 a (c,m)) (fun s=>(nbS [] ((keys a c).take s),nbR [] ((keys a c).take s),(s:Int))) n (fun s hs=>by
  have hkl:=JE V hn hc s
  have hrl:(nbR [] ((keys a c).take s)).length≤n:=by rw[dZ,List.length_take,dL];omega
  unfold e7
  simp only
  rw[if_pos (by simp;omega),ak (by omega) (by omega)];simp only[Option.bind_some]
  rw[take_one (by rw[dL];omega),vy,sC,Ig (by omega)]
  simp only[aa (show s<9223372036854775807 by omega)]
  by_cases h:nth c (s:Int)<0
  ·rw[if_pos (by simpa using h),au (by simp;omega),show Eb a c s=none from by unfold Eb;rw[if_pos h]];rfl
  ·rw[if_neg (by simpa using h),show Eb a c s=some (DP a c s) from by unfold Eb;rw[if_neg h]]
   rw[show oT (a.1,a.2.1,a.2.2) c (s:Int)=some (DP a c s) from XT V hn hc hs];simp only[Option.bind_some]
   rw[af (Ws (by omega) (rL (by simp)) (fun y hy=>by rw[AG (fun y hy=>Cy a c y (List.mem_of_mem_take hy)) y hy];decide))]
   simp only
   unfold Wr
   by_cases k:DP a c s∈nbS [] ((keys a c).take s)
   ·obtain ⟨q,hq,e1,e2⟩:=oK k
    rw[if_pos k,mc k,e1,if_neg (by simp)];simp only[Option.bind_some]
    rw[au (by simp;omega)];rfl
   ·rw[if_neg k,kP k,DM k,if_pos (show decide ((-1:Int)<0)=true from rfl),au (by simp;omega)];simp only[Option.bind_some]
    rw[au (by simp;omega)];rfl) (by
  unfold e7
  simp only
  rw[if_neg (by simp;omega)]) (mb (by omega))
 rw[show (keys a c).take n=keys a c from List.take_of_length_le (by rw[dL];omega)] at this
 exact this
theorem Re:dk a c=some (Cw a c,(yr a c:Int)):=by
 have hlen:=V.len
 unfold dk
 have:=aD (f:=dq a c) (fun s=>(nbS [] ((keys a c).take s),nbR [] ((keys a c).take s),(s:Int))) n (fun s hs=>by
  have hkl:=JE V hn hc s
  have hrl:(nbR [] ((keys a c).take s)).length≤n:=by rw[dZ,List.length_take,dL];omega
  unfold dq
  simp only
  rw[if_pos (by simp;omega),ak (by omega) (by omega)];simp only[Option.bind_some]
  rw[take_one (by rw[dL];omega),vy,sC,Ig (by omega)]
  simp only[aa (show s<9223372036854775807 by omega)]
  by_cases h:nth c (s:Int)<0
  ·rw[if_pos (by simpa using h),au (by simp;omega),show Eb a c s=none from by unfold Eb;rw[if_pos h]];rfl
  ·rw[if_neg (by simpa using h),show Eb a c s=some (DP a c s) from by unfold Eb;rw[if_neg h],V.get (by omega) (by omega)];simp only[Option.bind_some]
   rw[af (XU V hn hc hs)];simp only
   rw[Wt (x:=DP a c s) (by omega) (fun y hy=>by
    unfold fY
    rw[vG _ _ (by rw[AG (fun y hy=>Cy a c y (List.mem_of_mem_take hy)) y hy];decide)];rfl)];simp only[Option.bind_some]
   unfold Wr
   by_cases k:DP a c s∈nbS [] ((keys a c).take s)
   ·obtain ⟨q,hq,e1,e2⟩:=oK k
    rw[if_pos k,mc k,e1,if_neg (by simp)];simp only[Option.bind_some]
    rw[au (by simp;omega)];rfl
   ·rw[if_neg k,kP k,DM k,if_pos (show decide ((-1:Int)<0)=true from rfl),au (by simp;omega)];simp only[Option.bind_some]
    rw[au (by simp;omega)];rfl) (by
  unfold dq
  simp only
  rw[if_neg (by simp;omega)]) (mb (by omega))
 rw[show (keys a c).take n=keys a c from List.take_of_length_le (by rw[dL];omega)] at this
 exact af this
end
end
section
variable {a:AutT} {n:Nat} (V:VA a n) (hn:n≤1000000)
include V hn
theorem F9 (s:Nat):(List.range (s+1)).map (fun s:Nat=>if nth (live a) (s:Int)=true then (if nth a.2.1 (s:Int)=true then (1:Int) else 0) else -1)=(List.range s).map (fun s:Nat=>if nth (live a) (s:Int)=true then (if nth a.2.1 (s:Int)=true then 1 else 0) else -1)++ [if nth (live a) (s:Int)=true then (if nth a.2.1 (s:Int)=true then 1 else 0) else -1]:=by simp[List.range_succ]
theorem Wu:ai (eY a (live a)) aC ([],0)=some (.brk (Ls a,(n:Int))):=by
 have hlen:=V.len
 have hll:(live a).length=n:=by rw[uj,hlen]
 have:=aD (f:=eY a (live a)) (fun s=>((List.range s).map (fun s:Nat=>if nth (live a) (s:Int)=true then (if nth a.2.1 (s:Int)=true then (1:Int) else 0) else -1),(s:Int))) n (fun s hs=>by
  unfold eY
  simp only
  rw[if_pos (by simp;omega),V.acc (by omega) (by omega)];simp only[Option.bind_some]
  rw[F9 V hn,ak (xs:=live a) (by omega) (by omega)];simp only[aa (show s<9223372036854775807 by omega)]
  cases nth (live a) (s:Int) <;> cases nth a.2.1 (s:Int) <;> simp only[if_true,if_false,Bool.false_eq_true,Option.bind_some] <;> rw[au (by simp;omega)] <;> rfl) (by
  unfold eY
  simp only
  rw[if_neg (by simp;omega)]) (mb (by omega))
 unfold Ls
 rw[hlen]
 exact this
theorem Wv:ai (bZ a (live a)) aC ([],0)=some (.brk (Ls a,(n:Int))):=by
 have hlen:=V.len
 have hll:(live a).length=n:=by rw[uj,hlen]
 have:=aD (f:=bZ a (live a)) (fun s=>((List.range s).map (fun s:Nat=>if nth (live a) (s:Int)=true then (if nth a.2.1 (s:Int)=true then (1:Int) else 0) else -1),(s:Int))) n (fun s hs=>by
  unfold bZ
  simp only
  rw[if_pos (by simp;omega),ak (xs:=live a) (by omega) (by omega)];simp only[Option.bind_some]
  rw[F9 V hn,V.acc (by omega) (by omega)];simp only[aa (show s<9223372036854775807 by omega)]
  cases nth (live a) (s:Int) <;> cases nth a.2.1 (s:Int) <;> simp only[if_true,if_false,Bool.false_eq_true,Option.bind_some] <;> rw[au (by simp;omega)] <;> rfl) (by
  unfold bZ
  simp only
  rw[if_neg (by simp;omega)]) (mb (by omega))
 unfold Ls
 rw[hlen]
 exact this
theorem Oq: ∃J,cI a (J+1)=cI a J∧iH a=some (cI a J):=by
 have hlen:=V.len
 unfold iH
 rw[show kE (a.1,a.2.1,a.2.2)=some (live a) from Sf V hn];simp only[Option.bind_some]
 rw[af (Wu V hn)]
 obtain ⟨J0,hJ0,hfix⟩:=UF a
 obtain ⟨o,e,j,rfl,hj⟩:=cm (f:=kF a) (fun j s=>s=(cI a j,(j:Int))∧j≤J0) (fun o=> ∃j,o= .ret (cI a j)∧cI a (j+1)=cI a j) (J0+1) (s:=(cI a 0,0)) (by
  rintro j s hj ⟨rfl,hjJ⟩
  have hcl:(cI a j).length=n:=by rw[nI,hlen]
  unfold kF
  simp only
  rw[if_pos (by simp;omega),af (Rc V hn hcl)]
  simp only
  obtain ⟨r,er,hr⟩:=DO (Cw a (cI a j)) (cI a j) (by rw[AE];omega)
  rw[er];simp only[Option.bind_some,aa (show j<9223372036854775807 by omega)]
  by_cases h:Cw a (cI a j)=cI a j
  ·exact .inr ⟨_,by rw[if_pos (by simpa using hr.2 h)],(fun s' e=>by cases e),j,rfl,h⟩
  ·refine .inl ⟨by omega,(cI a (j+1),((j+1:Nat):Int)),by rw[if_neg (by simpa using fun e=>h (hr.1 e))];rfl,rfl,?_⟩
   by_cases e:j=J0
   ·subst e;exact absurd hfix h
   ·omega) ⟨rfl,Nat.zero_le _⟩ (mb (by omega))
 exact ⟨j,hj,aT e⟩
theorem Ot: ∃J,cI a (J+1)=cI a J∧c9 a=some (cI a J):=by
 have hlen:=V.len
 unfold c9
 rw[show ep (a.1,a.2.1,a.2.2)=some (live a) from Wk V hn];simp only[Option.bind_some]
 rw[af (Wv V hn)]
 let kk:Nat→Int:=fun j=>match j with | 0=> -1 | i+1=>(yr a (cI a i):Int)
 obtain ⟨o,e,j,rfl,hj⟩:=cm (f:=fe a) (fun j s=>s=(cI a j,kk j)∧(j:Int)≤kk j+1) (fun o=> ∃j,o= .ret (cI a j)∧cI a (j+1)=cI a j) (n+2) (s:=(cI a 0,-1)) (by
  rintro j s hj ⟨rfl,hjk⟩
  have hcl:(cI a j).length=n:=by rw[nI,hlen]
  have hle:=Ih a (cI a j)
  unfold fe
  simp only
  rw[show dk (a.1,a.2.1,a.2.2) (cI a j)=some (Cw a (cI a j),(yr a (cI a j):Int)) from Re V hn hcl];simp only[Option.bind_some]
  cases j with
  | zero =>
   refine .inl ⟨by omega,(cI a 1,kk 1),by rw[if_neg (by show¬((yr a (cI a 0):Int) == -1)=true;simp)];rfl,rfl,?_⟩
   show (1:Int)≤(yr a (cI a 0):Int)+1
   omega
  | succ i =>
   obtain ⟨g1,g2⟩:=On a i
   have hki:kk (i+1)=(yr a (cI a i):Int):=rfl
   rw[hki] at hjk⊢
   by_cases h:yr a (cI a (i+1))=yr a (cI a i)
   ·refine .inr ⟨.ret (cI a (i+2)),by rw[if_pos (by simp[h])];rfl,(fun s' e=>by cases e),i+2,rfl,?_⟩
    have:=g2 h
    show Cw a (cI a (i+2))=cI a (i+2)
    rw[this];exact this
   ·refine .inl ⟨?_,(cI a (i+2),kk (i+2)),by rw[if_neg (by simp;omega)];rfl,rfl,?_⟩
    ·omega
    ·show ((i+1+1:Nat):Int)≤(yr a (cI a (i+1)):Int)+1
     omega) ⟨rfl,by show ((0:Nat):Int)≤ -1+1;omega⟩ (mb (by omega))
 exact ⟨j,hj,aT e⟩
theorem La: ∃c,iH a=some c∧c9 a=some c∧c.length=n∧Cw a c=c∧ ∃j,c=cI a j:=by
 obtain ⟨J,hJ,es⟩:=Oq V hn
 obtain ⟨J',hJ',ei⟩:=Ot V hn
 have:=Oo hJ hJ'
 exact ⟨cI a J,es,by rw[this];exact ei,by rw[nI,V.len],hJ,J,rfl⟩
end
end D
namespace D
open Go.RowKit
theorem Lb (n:Nat) (l:List Int) (hd:l.Nodup) (h: ∀x∈l,0≤x∧x<n):l.length≤n:=by
 have:=hd.length_le_of_subset (l₂:=(List.range n).map Int.ofNat) (fun x hx=>by
  obtain ⟨h0,h1⟩:=h x hx
  exact List.mem_map.2 ⟨x.toNat,List.mem_range.2 (by omega),by show ((x.toNat:Nat):Int)=x;omega⟩)
 simpa using this
theorem Ww {n:Nat} {x:Int} (hn:n≤1000000) (h0:0≤x) (h1:x<n):iOk x=true:=by
 have:=Og (n:=x.toNat) (by omega)
 rwa [show ((x.toNat:Nat):Int)=x from by omega] at this
theorem Wx {κ:Type} [DecidableEq κ] {nx:κ→List (Option κ)} {first:κ} {G:κ→Prop} {B N:Nat} {acc:κ→Bool} (H:NumOk nx first G B) (hB:B≤1000000) (hN:bfE nx first N):Data.sm ((0,(bfS nx first N).map acc,bfR nx first N):AutT):=by
 have hl:=H.bound _ (py (nx:=nx) (first:=first) N) (lE H.g0 H.gn N)
 refine ⟨trivial,⟨by rw[List.length_map];omega,fun _ _=>trivial⟩,?_,?_⟩
 ·rw[jx hN.2];have:=hN.1;omega
 ·have key: ∀i,i≤N→ ∀r∈bfR nx first i,r.length=9:=by
   intro i
   induction i with
   | zero=>intro _ r hr;cases hr
   | succ i ih =>
    intro hi r hr
    have hlt:=hN.2 i (by omega)
    rw[vz hlt] at hr
    rcases List.mem_append.1 hr with hr | hr
    ·exact ih (by omega) r hr
    ·obtain rfl:=List.mem_singleton.1 hr
     rw[dZ,H.len _ (lE H.g0 H.gn i _ (List.getElem_mem hlt))]
  intro r hr
  exact ⟨by rw[key N (Nat.le_refl _) r hr];decide,fun _ _=>trivial⟩
theorem Lc:Data.sm nothing:=⟨trivial,⟨by decide,fun _ _=>trivial⟩,by decide,fun r hr=>by
 obtain rfl:=List.mem_singleton.1 hr
 exact ⟨by decide,fun _ _=>trivial⟩⟩
end D
namespace D
open Go.RowKit
theorem UG {l:List Int} {x:Int} (hl:l.length≤1000000) (hx:x∈l):aL x l=some (nbI l (some x)):=by
 unfold aL dS
 obtain ⟨o,e,hq⟩:=cm (f:=dg l x) (fun k s=>s=(k:Int)∧x∉l.take k) (fun o=>o= .ret (nbI l (some x))) l.length (s:=0) (by
  rintro k s hk ⟨rfl,hx'⟩
  unfold dg
  by_cases hkl:k<l.length
  ·rw[if_pos (by simp;omega),ak (by omega) (by omega)];simp only[Option.bind_some]
   by_cases h:nth l (k:Int)=x
   ·refine .inr ⟨_,by rw[if_pos (by simp[h])],(fun s' e=>by cases e),?_⟩
    have e:l=l.take k++(x::l.drop (k+1)):=by
     rw[←h,bY hkl,←List.drop_eq_getElem_cons hkl,List.take_append_drop]
    rw[F8 e hx',List.length_take,Nat.min_eq_left (by omega)]
   ·have h': ¬x=nth l (k:Int):=fun e=>h e.symm
    refine .inl ⟨hkl,_,by rw[if_neg (by simpa using h')],by rw[aa (by omega)],?_⟩
    rw[take_one hkl,List.mem_append,List.mem_singleton]
    rintro (h' | h')
    ·exact hx' h'
    ·exact h h'.symm
  ·rw[List.take_of_length_le (by omega)] at hx'
   exact absurd hx hx') ⟨rfl,by simp⟩ (mb (by omega))
 subst hq
 rw[aT e];rfl
section
variable {a:AutT} {n:Nat}
def rep (c:List Int) (x:Int):Int:=nbI c (some x)
theorem Ou {c:List Int} {x:Int} (h:x∈c):0≤rep c x∧rep c x<c.length∧nth c (rep c x)=x:=by
 obtain ⟨q,hq,e1,e2⟩:=oK h
 unfold rep
 rw[e1]
 exact ⟨by omega,by omega,by rw[bY hq,e2]⟩
theorem Rf (V:VA a n) (hn:n≤1000000): ∃r,jV a=some r∧dP a=some r∧Data.sm r:=by
 have hlen:=V.len
 have hst:=V.start
 have hll:(live a).length=n:=by rw[uj,hlen]
 obtain ⟨c,es,ei,hcl,hfix,j,hj⟩:=La V hn
 have hneg: ∀s:Int,0≤s→s<n→(nth c s<0↔nth (live a) s=false):=fun s h0 h1=>by
  have:=(Cx a (s:=s.toNat) (by omega) j).1
  rw[←hj,show ((s.toNat:Nat):Int)=s from by omega] at this
  exact this
 have hlt: ∀s:Int,0≤s→s<n→nth c s<n:=fun s h0 h1=>by
  have:=UD (c:=c) (a:=a) (s:=s.toNat) (by omega)
  rw[hfix,hlen,show ((s.toNat:Nat):Int)=s from by omega] at this
  exact this
 have hpos: ∀r,good n (live a) r→0≤nth c r:=fun r hr=>by
  have:=hneg r hr.1 hr.2.1
  by_cases k:nth c r<0
  ·have:=this.1 k;rw[hr.2.2] at this;cases this
  ·omega
 have hkey: ∀r t:Int,0≤r→r<n→0≤t→t<n→0≤nth c r→nth c r=nth c t→DP a c r=DP a c t:=fun r t r0 r1 t0 t1 h0 h=>by
  have:=Om (a:=a) (c:=c) (s:=r.toNat) (t:=t.toNat) (by omega) (by omega) (by rw[hfix,show ((r.toNat:Nat):Int)=r from by omega];exact h0) (by rw[hfix,show ((r.toNat:Nat):Int)=r from by omega,show ((t.toNat:Nat):Int)=t from by omega];exact h)
  rwa [show ((r.toNat:Nat):Int)=r from by omega,show ((t.toNat:Nat):Int)=t from by omega] at this
 have hacc: ∀r t:Int,0≤r→r<n→0≤t→t<n→0≤nth c r→nth c r=nth c t→nth a.2.1 r=nth a.2.1 t:=fun r t r0 r1 t0 t1 h0 h=>by
  have:=So a (s:=r.toNat) (t:=t.toNat) (by omega) (by omega) j (by rw[←hj,show ((r.toNat:Nat):Int)=r from by omega];exact h0) (by rw[←hj,show ((r.toNat:Nat):Int)=r from by omega,show ((t.toNat:Nat):Int)=t from by omega];exact h)
  rwa [show ((r.toNat:Nat):Int)=r from by omega,show ((t.toNat:Nat):Int)=t from by omega] at this
 have hsuccs: ∀r,good n (live a) r→wU a c (live a) r=(List.range 9).map fun k=>if 0≤ent a c r k then some (ent a c r k) else none:=fun r hr=>by
  refine List.map_congr_left fun k hk=>?_
  have hk:k<9:=List.mem_range.1 hk
  have hm:=V.mv hr.1 hr.2.1 hk
  unfold ent
  by_cases h:mv a r k<0
  ·rw[if_pos h,if_neg (fun h'=>by omega),if_neg (by omega)]
  ·rw[if_neg h]
   have:=hneg (mv a r k) (by omega) hm.2
   cases hl:nth (live a) (mv a r k) with
   | false =>
    have:=this.2 hl
    rw[if_neg (fun h'=>by cases h'.2),if_neg (by omega)]
   | true =>
    have: ¬nth c (mv a r k)<0:=fun h'=>by have:=this.1 h';rw[hl] at this;cases this
    rw[if_pos ⟨by omega,rfl⟩,if_pos (by omega)]
 have hent: ∀r t:Int,DP a c r=DP a c t→ ∀k,k<9→ent a c r k=ent a c t k:=fun r t h k hk=>by
  have h:(List.range 9).map (fun k=>ent a c r k)=(List.range 9).map (fun k=>ent a c t k):=by unfold DP at h;injection h
  have:=congrArg (fun l:List Int=>l[k]?) h
  simpa [hk] using this
 let nx:Int→List (Option Int):=fun x=>wU a c (live a) (rep c x)
 let acc:Int→Bool:=fun x=>nth a.2.1 (rep c x)
 let G:Int→Prop:=fun x=> ∃r,good n (live a) r∧nth c r=x
 have Gm: ∀x,G x→x∈c∧0≤x∧good n (live a) (rep c x):=by
  rintro x ⟨r,hr,rfl⟩
  have hm:nth c r∈c:=bH hr.1 (by rw[hcl];exact hr.2.1)
  obtain ⟨h0,h1,h2⟩:=Ou hm
  have hp:=hpos r hr
  refine ⟨hm,hp,h0,by omega,?_⟩
  have:=hneg (rep c (nth c r)) h0 (by omega)
  rw[h2] at this
  cases hl:nth (live a) (rep c (nth c r)) with
  | true=>rfl
  | false=>have:=this.2 hl;omega
 have hnx: ∀r,good n (live a) r→nx (nth c r)=wU a c (live a) r:=fun r hr=>by
  obtain ⟨hm,hp,hg⟩:=Gm _ ⟨r,hr,rfl⟩
  obtain ⟨h0,h1,h2⟩:=Ou hm
  show wU a c (live a) (rep c (nth c r))=_
  rw[hsuccs _ hg,hsuccs _ hr]
  refine List.map_congr_left fun k hk=>?_
  rw[hent _ _ (hkey _ _ hg.1 hg.2.1 hr.1 hr.2.1 (by rw[h2];exact hp) h2) k (List.mem_range.1 hk)]
 have hac: ∀r,good n (live a) r→acc (nth c r)=nth a.2.1 r:=fun r hr=>by
  obtain ⟨hm,hp,hg⟩:=Gm _ ⟨r,hr,rfl⟩
  obtain ⟨h0,h1,h2⟩:=Ou hm
  exact hacc _ _ hg.1 hg.2.1 hr.1 hr.2.1 (by rw[h2];exact hp) h2
 have hgn: ∀r,good n (live a) r→ ∀y,some y∈wU a c (live a) r→G y:=fun r hr y h=>by
  obtain ⟨k,hk,e⟩:=List.mem_map.1 h
  have hk:k<9:=List.mem_range.1 hk
  split at e
  ·rename_i hc
   exact ⟨mv a r k,⟨hc.1,(V.mv hr.1 hr.2.1 hk).2,hc.2⟩,Option.some.inj e⟩
  ·cases e
 unfold jV dP
 simp only[db]
 rw[es,ei,Sf V hn];simp only[Option.bind_some]
 rw[ak hst.1 (by omega)];simp only[Option.bind_some]
 cases hs:nth (live a) a.1 with
 | false =>
  have:=(hneg a.1 hst.1 hst.2).2 hs
  rw[Ic V hll hs,if_pos (by simpa using this),Of]
  exact ⟨nothing,rfl,rfl,Lc⟩
 | true =>
  have hst':good n (live a) a.1:=⟨hst.1,hst.2,hs⟩
  have hp:=hpos _ hst'
  have H:NumOk nx (nth c a.1) G n:=⟨⟨a.1,hst',rfl⟩,fun x hx y hy=>hgn _ (Gm x hx).2.2 y hy,fun x hx=>by simp[nx,wU],fun l hd h=>Lb n l hd fun x hx=>by
   obtain ⟨r,hr,rfl⟩:=h x hx
   exact ⟨hpos r hr,hlt r hr.1 hr.2.1⟩⟩
  obtain ⟨N,hN,e1⟩:=Wm (acc:=acc) V hn hcl hll hs H hn hnx hac
  have hfirst: ∀x,G x→aL x c=some (rep c x):=fun x hx=>UG (by omega) (Gm x hx).1
  obtain ⟨N',hN',e2⟩:=Wl (most:=(c.length:Int)) (p2:=fun a0=>b7 a0 (a.1,a.2.1,a.2.2) (fun a0=>aL a0 c)) (p3:=fun a0 a1=>b8 a0 a1 (a.1,a.2.1,a.2.2) (fun a0=>aL a0 c) c) (acc:=acc) H hn (by omega) (fun x hx=>Ww hn (Gm x hx).2.1 (by
    obtain ⟨r,hr,rfl⟩:=hx
    exact hlt r hr.1 hr.2.1)) (fun x hx=>by
   show b7 x (a.1,a.2.1,a.2.2) (fun a0=>aL a0 c)=_
   unfold b7
   simp only
   rw[hfirst x hx];simp only[Option.bind_some]
   rw[V.acc (Gm x hx).2.2.1 (Gm x hx).2.2.2.1];rfl) (fun x k hx hk=>by
   obtain ⟨hm,hx0,hg⟩:=Gm x hx
   have hm':=V.mv hg.1 hg.2.1 hk
   refine ⟨0,?_⟩
   show b8 x k (a.1,a.2.1,a.2.2) (fun a0=>aL a0 c) c=_
   unfold b8
   simp only
   rw[hfirst x hx];simp only[Option.bind_some]
   rw[show bc (a.1,a.2.1,a.2.2) (rep c x) k=some (mv a (rep c x) k) from FZ V hg.1 hg.2.1 hk];simp only[Option.bind_some]
   show _=some (match nth (wU a c (live a) (rep c x)) (k:Int) with | some y=>(y,true) | none=>(0,false))
   rw[JA hk]
   by_cases h:mv a (rep c x) k<0
   ·rw[if_pos (by simpa using h),if_neg (fun h'=>by omega)]
   ·rw[if_neg (by simpa using h),ak (by omega) (by omega)];simp only[Option.bind_some]
    have hng:=hneg (mv a (rep c x) k) (by omega) hm'.2
    cases hl:nth (live a) (mv a (rep c x) k) with
    | false =>
     have:=hng.2 hl
     rw[if_pos (by simpa using this),if_neg (fun h'=>by cases h'.2)]
    | true =>
     have: ¬nth c (mv a (rep c x) k)<0:=fun h'=>by have:=hng.1 h';rw[hl] at this;cases this
     rw[if_neg (by simpa using this),if_pos ⟨by omega,rfl⟩])
  obtain rfl:=QV hN hN'
  refine ⟨_,by rw[e1];rfl,?_,Wx H hn hN⟩
  rw[if_neg (by simp;omega)]
  exact (congrArg (fun x=>Option.bind x _) e2).trans rfl
end
end D
namespace D
open Go.RowKit
section
variable {κ:Type} [DecidableEq κ] [Inhabited κ] {nx:κ→List (Option κ)} {first:κ} {G:κ→Prop} {B N:Nat} {acc:κ→Bool}
theorem AH: ∀(l:List κ) (os:List (Option κ)),∀t∈nbR l os,-1≤t∧t<((nbS l os).length:Int)
 | l,[] =>fun t ht=>by cases ht
 | l,o::os=>fun t ht=>by
  have hp:=kO (nbL l o) os
  have hl:=hp.length_le
  rcases List.mem_cons.1 ht with rfl | ht
  ·show -1≤nbI l o∧nbI l o<((nbS (nbL l o) os).length:Int)
   cases o with
   | none=>exact ⟨by simp[nbI],by simp only[nbI];omega⟩
   | some y =>
    by_cases c:y∈l
    ·obtain ⟨q,hq,e,-⟩:=oK c
     rw[mc c] at hl
     rw[e];exact ⟨by omega,by rw[mc c];omega⟩
    ·rw[kP c] at hl
     rw[DM c];rw[List.length_append] at hl
     exact ⟨by omega,by rw[kP c];simp at hl;omega⟩
  ·exact AH (nbL l o) os t ht
theorem YN (H:NumOk nx first G B) (hN:bfE nx first N):VA ((0,(bfS nx first N).map acc,bfR nx first N):AutT) N:=by
 have h0:0<N:=by
  have:=FY (nx:=nx) (first:=first) N
  have:=(List.getElem?_eq_some_iff.1 this).1
  have:=hN.1;omega
 have key: ∀i,i≤N→ ∀r∈bfR nx first i,r.length=9∧ ∀t∈r,-1≤t∧t<(N:Int):=by
  intro i
  induction i with
  | zero=>intro _ r hr;cases hr
  | succ i ih =>
   intro hi r hr
   have hlt:=hN.2 i (by omega)
   rw[vz hlt] at hr
   rcases List.mem_append.1 hr with hr | hr
   ·exact ih (by omega) r hr
   ·obtain rfl:=List.mem_singleton.1 hr
    refine ⟨by rw[dZ,H.len _ (lE H.g0 H.gn i _ (List.getElem_mem hlt))],fun t ht=>?_⟩
    have:=AH _ _ t ht
    rw[←DD hlt] at this
    have hl:=(wQ (nx:=nx) (first:=first) hi).length_le
    have:=hN.1
    omega
 exact ⟨by show ((bfS nx first N).map acc).length=N;rw[List.length_map];exact hN.1.symm,⟨Int.le_refl _,by show (0:Int)<N;omega⟩,jx hN.2,fun r hr=>(key N (Nat.le_refl _) r hr).1,fun r hr=>(key N (Nat.le_refl _) r hr).2⟩
theorem UH (hlen: ∀x,(nx x).length=9) (hN:bfE nx first N):VA ((0,(bfS nx first N).map acc,bfR nx first N):AutT) N:=by
 have h0:0<N:=by
  have:=FY (nx:=nx) (first:=first) N
  have:=(List.getElem?_eq_some_iff.1 this).1
  have:=hN.1;omega
 have key: ∀i,i≤N→ ∀r∈bfR nx first i,r.length=9∧ ∀t∈r,-1≤t∧t<(N:Int):=by
  intro i
  induction i with
  | zero=>intro _ r hr;cases hr
  | succ i ih =>
   intro hi r hr
   have hlt:=hN.2 i (by omega)
   rw[vz hlt] at hr
   rcases List.mem_append.1 hr with hr | hr
   ·exact ih (by omega) r hr
   ·obtain rfl:=List.mem_singleton.1 hr
    refine ⟨by rw[dZ,hlen _],fun t ht=>?_⟩
    have:=AH _ _ t ht
    rw[←DD hlt] at this
    have hl:=(wQ (nx:=nx) (first:=first) hi).length_le
    have:=hN.1
    omega
 exact ⟨by show ((bfS nx first N).map acc).length=N;rw[List.length_map];exact hN.1.symm,⟨Int.le_refl _,by show (0:Int)<N;omega⟩,jx hN.2,fun r hr=>(key N (Nat.le_refl _) r hr).1,fun r hr=>(key N (Nat.le_refl _) r hr).2⟩
end
end D
namespace D
open Go.RowKit
theorem vH:Data.sm ((0,[],[]):AutT):=⟨trivial,⟨by decide,fun _ h=>by cases h⟩,by decide,fun _ h=>by cases h⟩
theorem Ov {κ:Type} [DecidableEq κ] {nx:κ→List (Option κ)} {first:κ} {acc:κ→Bool} {most:Nat} : ∀(f i:Nat),(∀j,j<i→j<(bfS nx first j).length)→(bfS nx first i).length≤most→goM nx first acc most f i=((0,[],[]),false)∨ ∃N,bfE nx first N∧N≤most∧goM nx first acc most f i=((0,(bfS nx first N).map acc,bfR nx first N),true)
 | 0,i,_,_=>.inl rfl
 | f+1,i,h,hl=>by
  have hle:=DL h
  rw[goM]
  by_cases c:i<(bfS nx first i).length
  ·rw[if_pos c]
   by_cases d:(bfS nx first (i+1)).length>most
   ·rw[if_pos d];exact .inl rfl
   ·rw[if_neg d]
    exact Ov f (i+1) (fun j hj=>by
     by_cases e:j=i
     ·subst e;exact c
     ·exact h j (by omega)) (by omega)
  ·rw[if_neg c]
   exact .inr ⟨i,⟨by omega,h⟩,by omega,by rw[List.take_of_length_le (by omega)]⟩
theorem Gc {e:List Tok} (he:e.length≤1048576): ∃r:AutT×Bool,gy e=some r∧gJ e=some r∧Data.sm r.1:=by
 obtain ⟨⟨p,b⟩,e1,e2,h1,h2⟩:=uk he
 have h1:p.2.2.2.1.length=p.1.length:=h1
 have h2:p.1.length≤100000:=h2
 unfold gy gJ
 rw[e1,e2];simp only[Option.bind_some,db]
 cases b with
 | false=>exact ⟨((0,[],[]),false),rfl,rfl,vH⟩
 | true =>
  have d1:=XQ (p:=p) (most:=200) h1 (by omega) (by omega) (by omega)
  have d2:=XP (p:=p) (most:=200) h1 (by omega) (by omega) (by omega)
  have d1:iE p 200=_:=d1
  have d2:gH p 200=_:=d2
  rw[d1,d2];simp only[if_true,Option.bind_some]
  rcases Ov (nx:=nxS p) (first:=1) (acc:=vF p) (most:=200) (200+2) 0 (fun j hj=>by omega) (by simp[bfS]) with e | ⟨N,hN,hNm,e⟩
  ·rw[e]
   exact ⟨((0,[],[]),false),rfl,rfl,vH⟩
  ·rw[e];simp only[if_true]
   have V:=UH (acc:=vF p) (DK p) hN
   obtain ⟨r,es,ei,hr⟩:=Rf V (by omega)
   unfold zu
   rw[es];simp only[Option.bind_some,db]
   rw[ei];simp only[Option.bind_some,db]
   by_cases c:(r.2.1.length:Int)>12
   ·have c':decide ((r.2.1.length:Int)>12)=true:=decide_eq_true c
    simp only[c',if_true,Option.bind_some]
    exact ⟨((0,[],[]),false),rfl,rfl,vH⟩
   ·have c':decide ((r.2.1.length:Int)>12)=false:=decide_eq_false c
    simp only[c',Bool.false_eq_true,if_false,Option.bind_some]
    exact ⟨(r,true),rfl,rfl,hr⟩
theorem Ii {e:List Tok} (he:e.length≤1048576): ∃r:AutT×Bool,gy e=some r∧gJ e=some r∧Data.sm r.1:=Gc he
end D
set_option synthInstance.maxSize 20000
set_option synthInstance.maxHeartbeats 2000000
namespace D
open Go.RowKit
theorem AI (x y:AutT) (hx:Data.sm x):fa x y=some (decide (x=y)):=by
 obtain ⟨-,⟨ha,-⟩,hn,hr⟩:=hx
 unfold fa
 by_cases c1:x.1=y.1
 case neg=>rw[if_pos (by simpa using c1)];simp[Prod.ext_iff,c1]
 rw[if_neg (by simpa using c1)]
 by_cases c2:x.2.1.length=y.2.1.length
 case neg=>rw[if_pos (by simp;omega)];simp[Prod.ext_iff];exact fun _ e=>absurd (by rw[e]) c2
 rw[if_neg (by simp;omega)]
 by_cases c3:x.2.2.length=y.2.2.length
 case neg=>rw[if_pos (by simp;omega)];simp[Prod.ext_iff];exact fun _ _ e=>absurd (by rw[e]) c3
 rw[if_neg (by simp;omega)]
 rw[eqB (f:=eQ x y) x.2.1 y.2.1 (by omega) c2 (fun i h h'=>by
  simp only[eQ,a6 h,if_true,ah h,ah h',Option.bind_some,aa (show i<9223372036854775807 by omega)]
  by_cases c:x.2.1[i] =y.2.1[i] <;> simp[c]) (by simp only[eQ,aO];rfl)]
 by_cases c4:x.2.1=y.2.1
 case neg=>rw[if_neg c4];simp[Prod.ext_iff,c4]
 rw[if_pos c4]
 rw[eqB (f:=eR x y) x.2.2 y.2.2 (by omega) c3 (fun i h h'=>by
  obtain ⟨r,e,hr'⟩:=DO x.2.2[i] y.2.2[i] ((hr _ (List.getElem_mem h)).1)
  simp only[eR,a6 h,if_true,ah h,ah h',Option.bind_some,aa (show i<9223372036854775807 by omega),e]
  by_cases c:x.2.2[i] =y.2.2[i]
  ·rw[if_neg (by simpa using hr'.2 c),if_pos c]
  ·rw[if_pos (by simpa using fun e=>c (hr'.1 e)),if_neg c]) (by simp only[eR,aO];rfl)]
 by_cases c5:x.2.2=y.2.2
 ·rw[if_pos c5];simp[Prod.ext_iff,c1,c4,c5]
 ·rw[if_neg c5];simp[Prod.ext_iff,c5]
theorem Rg (xs ys:List Bool) (hN:xs.length≤9223372036854775807):dt xs ys=some (decide (xs=ys)):=
 eqL (f:=bJ xs ys) xs ys hN (fun i h h'=>by
  simp only[bJ,a6 h,if_true,ah h,ah h',Option.bind_some,aa (show i<9223372036854775807 by omega)]
  by_cases c:xs[i] =ys[i] <;> simp[c]) (by simp only[bJ,aO];rfl)
theorem AJ (x y:AutT) (hx:Data.sm x):dz x y=some (decide (x=y)):=by
 obtain ⟨-,⟨ha,-⟩,hn,hr⟩:=hx
 unfold dz
 by_cases c1:x.1=y.1
 case neg=>rw[if_neg (by simpa using c1)];simp[Prod.ext_iff,c1]
 rw[if_pos (by simpa using c1),Rg _ _ (by omega)];simp only[Option.bind_some]
 by_cases c2:x.2.1=y.2.1
 case neg=>rw[if_neg (by simpa using c2)];simp[Prod.ext_iff,c2]
 rw[if_pos (by simpa using c2)]
 have:bd x.2.2 y.2.2 (fun a0 a1=>fE a0 a1)=some (decide (x.2.2=y.2.2)):=
  eqL (f:=aJ x.2.2 y.2.2 _) x.2.2 y.2.2 (by omega) (fun i h h'=>by
   simp only[aJ,a6 h,if_true,ah h,ah h',Option.bind_some,aa (show i<9223372036854775807 by omega),fE]
   rw[vG _ _ (by have:x.2.2[i].length≤1048576:=(hr _ (List.getElem_mem h)).1;omega)];simp only[Option.bind_some]
   by_cases c:x.2.2[i] =y.2.2[i] <;> simp[c]) (by simp only[aJ,aO];rfl)
 rw[this]
 by_cases c3:x.2.2=y.2.2 <;> simp[Prod.ext_iff,c1,c2,c3]
abbrev QT:=Int×List Tok×Int
abbrev Ld:=List AutT×List QT
theorem Rh (x y:List Tok) (hx:x.length≤1048576):lh x y=some (decide (x=y)):=by
 unfold lh
 exact eqL (f:=gZ x y) x y (by omega) (fun i h h'=>by
  simp only[gZ,a6 h,if_true,ah h,ah h',Option.bind_some,db,aa (show i<9223372036854775807 by omega)]
  refine dR ?_;simp only[Bool.and_true,Bool.and_eq_true,beq_iff_eq];exact YK) (by simp only[gZ,aO];rfl)
theorem Ow (x y:List Tok) (hx:x.length≤1048576):bS x y=some (decide (x=y)):=by
 unfold bS
 exact eqL (f:=bA x y) x y (by omega) (fun i h h'=>by
  simp only[bA,a6 h,if_true,ah h,ah h',Option.bind_some,db,aa (show i<9223372036854775807 by omega)]
  refine dR ?_;simp only[Bool.and_true,Bool.and_eq_true,beq_iff_eq];exact YK) (by simp only[bA,aO];rfl)
theorem Ri (x y:List Tok) (hx:x.length≤1048576):lu x y=some (decide (x=y)):=by
 unfold lu
 rw[Ow x y hx];rfl
theorem DR (x y:Ld) (hx:Data.sm x):fA x y=some (decide (x=y)):=by
 obtain ⟨⟨ha,hA⟩,hq,hQ⟩:=hx
 unfold fA
 by_cases h1:x.1.length=y.1.length
 ·by_cases h2:x.2.length=y.2.length
  ·rw[if_neg (by rw[h1];simp),if_neg (by rw[h2];simp)]
   rw[eqB (f:=dN x y) x.1 y.1 (by omega) h1 (fun i h h'=>by
    simp only[dN,a6 h,if_true,ah h,ah h',Option.bind_some,db,AI x.1[i] y.1[i] (hA _ (List.getElem_mem h)),aa (show i<9223372036854775807 by omega)]
    exact dR (by simp)) (by simp only[dN,aO];rfl)]
   rw[eqB (f:=dO x y) x.2 y.2 (by omega) h2 (fun i h h'=>by
    have e:=Rh x.2[i].2.1 y.2[i].2.1 (hQ _ (List.getElem_mem h)).2.1.1
    simp only[dO,a6 h,if_true,ah h,ah h',Option.bind_some,e,aa (show i<9223372036854775807 by omega)]
    generalize x.2[i] =u;generalize y.2[i] =v
    by_cases e1:u.1=v.1 <;> by_cases e2:u.2.1=v.2.1 <;> by_cases e3:u.2.2=v.2.2 <;> simp[Prod.ext_iff,e1,e2,e3]) (by simp only[dO,aO];rfl)]
   by_cases e1:x.1=y.1 <;> by_cases e2:x.2=y.2 <;> simp[Prod.ext_iff,e1,e2]
  ·have:x.2≠y.2:=fun e=>h2 (by rw[e])
   rw[if_neg (by rw[h1];simp),if_pos (by simp;omega)];simp[Prod.ext_iff,this]
 ·have:x.1≠y.1:=fun e=>h1 (by rw[e])
  rw[if_pos (by simp;omega)];simp[Prod.ext_iff,this]
theorem Le (x y:QT) (hx:Data.sm x):fO x y=some (decide (x=y)):=by
 unfold fO
 rw[Ri x.2.1 y.2.1 hx.2.1.1];simp only[Option.bind_some]
 by_cases h1:x.1=y.1 <;> by_cases h2:x.2.1=y.2.1 <;> by_cases h3:x.2.2=y.2.2 <;> simp[Prod.ext_iff,h1,h2,h3]
theorem DS (x y:Ld) (hx:Data.sm x):fF x y=some (decide (x=y)):=by
 obtain ⟨⟨ha,hA⟩,hq,hQ⟩:=hx
 unfold fF
 have e:aI x.1 y.1 (fun a0 a1=>dz a0 a1)=some (decide (x.1=y.1)):=
  eqL (f:=aB x.1 y.1 _) x.1 y.1 (by omega) (fun i h h'=>by
   simp only[aB,a6 h,if_true,ah h,ah h',Option.bind_some,db,aa (show i<9223372036854775807 by omega),AJ x.1[i] y.1[i] (hA _ (List.getElem_mem h))]
   exact dR (by simp)) (by simp only[aB,aO];rfl)
 have e':aH x.2 y.2 (fun a0 a1=>fO a0 a1)=some (decide (x.2=y.2)):=
  eqL (f:=ay x.2 y.2 _) x.2 y.2 (by omega) (fun i h h'=>by
   simp only[ay,a6 h,if_true,ah h,ah h',Option.bind_some,db,aa (show i<9223372036854775807 by omega),Le x.2[i] y.2[i] (hQ _ (List.getElem_mem h))]
   exact dR (by simp)) (by simp only[ay,aO];rfl)
 rw[e,e'];simp only[Option.bind_some]
 by_cases h1:x.1=y.1 <;> by_cases h2:x.2=y.2 <;> simp[Prod.ext_iff,h1,h2]
theorem wV {R S:Type} {f g:S→Option (Out R S)} (Inv:Nat→S→Prop) (h: ∀i s,Inv i s→g s=f s∧ ∀s',f s=some (.nxt s')→Inv (i+1) s'): ∀(k i:Nat) (s:S),Inv i s→ai g k s=ai f k s
 | 0,_,_,_=>rfl
 | k+1,i,s,hI=>by
  obtain ⟨h1,h2⟩:=h i s hI
  rw[ai,ai,h1]
  cases e:f s with
  | none=>rfl
  | some o =>
   cases o with
   | nxt s'=>exact wV Inv h k (i+1) s' (h2 s' e)
   | brk s'=>rfl
   | ret r=>rfl
theorem JF {f g:Int→Option (Out Int Int)} (N:Nat) (hN:N≤1048576) (h: ∀i:Nat,i<N→f (i:Int)=some (.ret (i:Int))∨f (i:Int)=some (.nxt ((i+1:Nat):Int))) (he:f (N:Int)=some (.brk (N:Int))) (hfg: ∀i:Nat,i≤N→g (i:Int)=f (i:Int)) :
  ∃r:Int,ax (ai f aC 0) (fun r=>some r) (fun _=>some (-1))=some r∧ax (ai g aC 0) (fun r=>some r) (fun _=>some (-1))=some r∧(r= -1∨ ∃i:Nat,i<N∧r=(i:Int)):=by
 have hs:ai g aC 0=ai f aC 0:=wV (fun i s=>s=(i:Int)∧i≤N) (fun i s ⟨e,hi⟩=>by
  subst e
  refine ⟨hfg i hi,fun s' e=>?_⟩
  by_cases c:i<N
  ·rcases h i c with e2 | e2
   ·rw[e2] at e;cases e
   ·rw[e2] at e;cases e;exact ⟨rfl,c⟩
  ·obtain rfl:i=N:=by omega
   rw[he] at e;cases e) aC 0 0 ⟨rfl,Nat.zero_le _⟩
 rw[hs]
 obtain ⟨o,e,ho⟩:=cm (f:=f) (fun i s=>s=(i:Int)) (fun o=>o= .brk (N:Int)∨ ∃i:Nat,i<N∧o= .ret (i:Int)) N (fun i s hi hs=>by
  subst hs
  by_cases h1:i<N
  ·rcases h i h1 with h2 | h2
   ·exact .inr ⟨_,h2,(fun s' e=>by cases e),.inr ⟨i,h1,rfl⟩⟩
   ·exact .inl ⟨h1,_,h2,rfl⟩
  ·obtain rfl:i=N:=by omega
   exact .inr ⟨_,he,(fun s' e=>by cases e),.inl rfl⟩) (s:=0) rfl (iy _ (by omega))
 rw[e]
 rcases ho with rfl | ⟨i,hi,rfl⟩
 ·exact ⟨-1,rfl,rfl,.inl rfl⟩
 ·exact ⟨i,rfl,rfl,.inr ⟨i,hi,rfl⟩⟩
theorem Lf (l:List AutT) (a:AutT) (hl:l.length≤1048576) (hs: ∀x∈l,Data.sm x) (ha:Data.sm a): ∃r:Int,lJ l a=some r∧aK l (fun a0=>lN a0 a)=some r∧(r= -1∨ ∃i:Nat,i<l.length∧r=(i:Int)):=by
 unfold lJ aK
 have hf: ∀i (h:i<l.length),gz l a (i:Int)=if l[i] =a then some (.ret (i:Int)) else some (.nxt ((i+1:Nat):Int)):=fun i h=>by
  simp only[gz,a6 h,if_true,ah h,Option.bind_some,db,AI l[i] a (hs _ (List.getElem_mem h)),aa (show i<9223372036854775807 by omega)]
  by_cases c:l[i] =a <;> simp[c]
 refine JF l.length hl (fun i h=>?_) (by simp only[gz,aO];rfl) (fun i hi=>?_)
 ·rw[hf i h];by_cases c:l[i] =a <;> simp[c]
 ·by_cases h:i<l.length
  ·rw[hf i h]
   simp only[bm,lN,a6 h,if_true,ah h,Option.bind_some,db,AJ a l[i] ha,aa (show i<9223372036854775807 by omega)]
   by_cases c:l[i] =a
   ·simp[c]
   ·have: ¬a=l[i]:=fun e=>c e.symm
    simp[c,this]
  ·obtain rfl:i=l.length:=by omega
   simp only[gz,bm,aO];rfl
def Ij (n i:Nat) (s:Int×List AutT×List QT):Prop:=s.1=(i:Int)∧i≤n∧s.2.2.length=i∧s.2.1.length≤i∧(∀a∈s.2.1,Data.sm a)∧ ∀q∈s.2.2,Data.sm q∧0≤q.2.2∧q.2.2<(s.2.1.length:Int)
theorem JG {qs:List QT} (hq:Data.sm qs) {i:Nat} {s:Int×List AutT×List QT} (hI:Ij qs.length i s):jZ qs s=cX qs s ∧
  ((i<qs.length∧ ∃s',cX qs s=some (.nxt s')∧Ij qs.length (i+1) s')∨ ∃o,cX qs s=some o∧(∀s',o≠ .nxt s')∧(o= .ret (([],[]),false)∨o= .brk s∧i=qs.length)):=by
 obtain ⟨hn,hs⟩:=aw hq
 obtain ⟨s1,A,Q⟩:=s
 obtain ⟨h1,h2,h3,h4,h5,h6⟩:=hI
 simp only at h1 h3 h4 h5 h6
 subst h1
 by_cases hi:i<qs.length
 ·have hqi:=hs _ (List.getElem_mem hi)
  obtain ⟨r,es,ei,hr⟩:=Ii (e:=qs[i].2.1) hqi.2.1.1
  obtain ⟨k,ks,ki,hk⟩:=Lf A r.1 (by omega) h5 hr
  have a1:cn 56 A [r.1] =some (A++ [r.1]):=au (by simp;omega)
  have a2: ∀y,cn 40 Q [y] =some (Q++ [y]):=fun y=>au (by simp;omega)
  have a3:kC qs[i].2.1=some qs[i].2.1:=by unfold kC;rw[au (by have:=hqi.2.1.1;simp;omega)];rfl
  have a4:lO qs[i].2.1=some qs[i].2.1:=by unfold lO;rw[au (by have:=hqi.2.1.1;simp;omega)];rfl
  unfold jZ cX
  simp only[a6 hi,if_true,ah hi,Option.bind_some,es,ei,OY,Ea,db,ks,ki,a1,a2,a3,a4,aa (show i<9223372036854775807 by omega)]
  by_cases c1:r.2=true
  case neg =>
   simp only[c1,Bool.false_eq_true,if_false]
   exact ⟨by first | trivial | rfl,.inr ⟨_,rfl,(fun s' e=>by cases e),.inl rfl⟩⟩
  simp only[c1,if_true]
  by_cases c2:1≤qs[i].1∧qs[i].1≤99
  case neg =>
   simp only[c2,decide_false,Bool.false_eq_true,if_false]
   exact ⟨by first | trivial | rfl,.inr ⟨_,rfl,(fun s' e=>by cases e),.inl rfl⟩⟩
  simp only[c2,decide_true,if_true]
  have fin: ∃s':Int×List AutT×List QT,(∀(y:Option (Out (Ld×Bool) (Int×List AutT×List QT))),True)∧(Option.bind (if decide (k<0) then some ((A.length:Int),A++ [r.1],Q) else some (k,A,Q)) fun s10:Int×List AutT×List QT=>(cn 40 s10.2.2 [(qs[i].1,qs[i].2.1,s10.1)]).bind fun z18=>some (.nxt (((i+1:Nat):Int),s10.2.1,z18)):Option (Out (Ld×Bool) (Int×List AutT×List QT)))=some (.nxt s')∧Ij qs.length (i+1) s':=by
   rcases hk with rfl | ⟨j,hj,rfl⟩
   ·refine ⟨(((i+1:Nat):Int),A++ [r.1],Q++ [(qs[i].1,qs[i].2.1,(A.length:Int))]),fun _=>trivial,?_,rfl,hi,by simp;omega,by simp;omega,fun a ha=>?_,fun q hq'=>?_⟩
    ·simp only[show decide ((-1:Int)<0)=true from rfl,if_true,Option.bind_some,a2]
    ·simp only[List.mem_append,List.mem_singleton] at ha
     rcases ha with ha | rfl
     ·exact h5 a ha
     ·exact hr
    ·simp only[List.mem_append,List.mem_singleton] at hq'
     simp only[List.length_append,List.length_singleton]
     rcases hq' with hq' | rfl
     ·obtain ⟨b1,b2,b3⟩:=h6 q hq'
      exact ⟨b1,b2,by omega⟩
     ·exact ⟨⟨trivial,hqi.2.1,trivial⟩,by simp,by simp;omega⟩
   ·refine ⟨(((i+1:Nat):Int),A,Q++ [(qs[i].1,qs[i].2.1,(j:Int))]),fun _=>trivial,?_,rfl,hi,by simp;omega,by simp only;omega,h5,fun q hq'=>?_⟩
    ·have:decide ((j:Int)<0)=false:=by simp
     simp only[this,Bool.false_eq_true,if_false,Option.bind_some,a2]
    ·simp only[List.mem_append,List.mem_singleton] at hq'
     rcases hq' with hq' | rfl
     ·exact h6 q hq'
     ·exact ⟨⟨trivial,hqi.2.1,trivial⟩,by simp,by simp;omega⟩
  obtain ⟨s',-,e,hI'⟩:=fin
  by_cases c3:(i:Int)>0
  ·have hp:i - 1<qs.length:=by omega
   have hw:IntKind.i64.wrap ((i:Int) - 1)=((i - 1:Nat):Int):=by rw[nE (by omega)];omega
   simp only[c3,decide_true,if_true,hw,ah hp,Option.bind_some]
   by_cases c4:qs[i - 1].1≥qs[i].1
   ·simp only[c4,decide_true,if_true]
    exact ⟨by first | trivial | rfl,.inr ⟨_,rfl,(fun s' e=>by cases e),.inl rfl⟩⟩
   ·simp only[c4,decide_false,Bool.false_eq_true,if_false]
    exact ⟨by first | trivial | rfl,.inl ⟨hi,s',e,hI'⟩⟩
  ·simp only[c3,decide_false,Bool.false_eq_true,if_false]
   exact ⟨by first | trivial | rfl,.inl ⟨hi,s',e,hI'⟩⟩
 ·obtain rfl:i=qs.length:=by omega
  unfold jZ cX
  simp only[aO,Bool.false_eq_true,if_false]
  exact ⟨by first | trivial | rfl,.inr ⟨_,rfl,(fun s' e=>by cases e),.inr (by first | exact ⟨rfl,rfl⟩ | exact ⟨trivial,rfl⟩ | exact ⟨rfl,trivial⟩ | simp)⟩⟩
def Wy (r:Ld):Prop:=Data.sm r∧ ∀q∈r.2,0≤q.2.2∧q.2.2<(r.1.length:Int)
theorem Rj {qs:List QT} (hq:Data.sm qs): ∃r:Ld,∃b:Bool,nW qs=(if (qs.length:Int)>4 then some (([],[]),false) else some (r,b))∧su qs=some (r,b&&decide ((qs.length:Int)≤4))∧Wy r:=by
 have hn:=(aw hq).1
 have h0:Ij qs.length 0 (0,[],[]):=⟨rfl,Nat.zero_le _,rfl,Nat.le_refl _,fun _ h=>(by cases h),fun _ h=>(by cases h)⟩
 have hs:ai (jZ qs) aC (0,[],[])=ai (cX qs) aC (0,[],[]):=wV (Ij qs.length) (fun i s hI=>by
  obtain ⟨e,h⟩:=JG hq hI
  refine ⟨e,fun s' e'=>?_⟩
  rcases h with ⟨_,s2,e2,hI2⟩ | ⟨o,e2,hne,-⟩
  ·rw[e2] at e';cases e';exact hI2
  ·rw[e2] at e';cases e';exact absurd rfl (hne s')) aC 0 _ h0
 obtain ⟨o,e,ho⟩:=cm (f:=cX qs) (Ij qs.length) (fun o=>o= .ret (([],[]),false)∨ ∃A Q,o= .brk ((qs.length:Int),A,Q)∧Ij qs.length qs.length ((qs.length:Int),A,Q)) qs.length (fun i s hi hI=>by
  rcases (JG hq hI).2 with h | ⟨o,e,hne,h⟩
  ·exact .inl h
  ·refine .inr ⟨o,e,hne,?_⟩
   rcases h with h | ⟨h,rfl⟩
   ·exact .inl h
   ·obtain ⟨s1,A,Q⟩:=s
    obtain ⟨rfl,-⟩:=id hI
    exact .inr ⟨A,Q,h,hI⟩) h0 (iy _ (by omega))
 unfold nW su
 rw[hs,e]
 rcases ho with rfl | ⟨A,Q,rfl,-,-,h3,h4,h5,h6⟩
 ·refine ⟨([],[]),false,?_,rfl,⟨⟨Nat.zero_le _,fun _ h=>(by cases h)⟩,Nat.zero_le _,fun _ h=>(by cases h)⟩,fun _ h=>(by cases h)⟩
  by_cases c:(qs.length:Int)>4 <;> simp[c,ax]
 ·simp only at h3 h4 h5 h6
  refine ⟨(A,Q),true,?_,by simp[ax],⟨⟨show A.length≤1048576 by omega,h5⟩,show Q.length≤1048576 by omega,fun q h=>(h6 q h).1⟩,fun q h=>(h6 q h).2⟩
  by_cases c:(qs.length:Int)>4 <;> simp[c,ax]
theorem Lg {r:Ld} (hr:Data.sm r): ∃b,fB r=some b∧fG r=some b∧(b=true→Wy r):=by
 obtain ⟨x,b,e1,e2,hx⟩:=Rj hr.2
 unfold fB fG
 rw[e1,e2]
 by_cases c:(r.2.length:Int)>4
 ·have c': ¬(r.2.length:Int)≤4:=by omega
  exact ⟨false,by simp[c],by simp[c'],fun e=>by cases e⟩
 ·have c':(r.2.length:Int)≤4:=by omega
  cases b with
  | false=>exact ⟨false,by simp[c],by simp,fun e=>by cases e⟩
  | true =>
   simp only[c,if_false,Option.bind_some,if_true,c',decide_true,Bool.and_true,db,DR x r hx.1,DS x r hx.1]
   exact ⟨_,rfl,rfl,fun e=>by rw[←of_decide_eq_true e];exact hx⟩
end D
set_option synthInstance.maxSize 20000
set_option synthInstance.maxHeartbeats 2000000
namespace D
open Go.RowKit
theorem UI (a:AutT) (ha:Data.sm a):pX a=some a:=by
 obtain ⟨-,⟨hb,-⟩,hn,hr⟩:=ha
 unfold pX
 rw[au (by simp;omega)];simp only[Option.bind_some,List.nil_append]
 have:=aD (f:=iI a) (fun i=>((i:Int),a.1,a.2.1,a.2.2.take i)) a.2.2.length (fun i hi=>by
  unfold iI
  have h1:cn 8 ([] :List Int) a.2.2[i] =some a.2.2[i]:=by rw[au (by have:a.2.2[i].length≤1048576:=(hr _ (List.getElem_mem hi)).1;simp;omega)];rfl
  simp only[a6 hi,if_true,ah hi,Option.bind_some,h1,aa (show i<9223372036854775807 by omega)]
  rw[au (by simp;omega)]
  simp only[Option.bind_some]
  rw[List.take_succ_eq_append_getElem hi]) (by
  unfold iI
  simp only[aO,Bool.false_eq_true,if_false]) (iy _ (by omega))
 have e:ai (iI a) aC (0,a.1,a.2.1,[])=_:=this
 rw[e]
 simp only[ax,List.take_length]
theorem UJ (a:AutT) (ha:Data.sm a):im a=some a:=by
 obtain ⟨-,⟨hb,-⟩,hn,hr⟩:=ha
 unfold im
 rw[au (by simp;omega)];simp only[Option.bind_some,List.nil_append]
 have:=aD (f:=dm a) (fun i=>((i:Int),a.1,a.2.1,a.2.2.take i)) a.2.2.length (fun i hi=>by
  unfold dm gK
  have h1:cn 8 ([] :List Int) a.2.2[i] =some a.2.2[i]:=by rw[au (by have:a.2.2[i].length≤1048576:=(hr _ (List.getElem_mem hi)).1;simp;omega)];rfl
  simp only[a6 hi,if_true,ah hi,Option.bind_some,h1,aa (show i<9223372036854775807 by omega)]
  rw[au (by simp;omega)]
  simp only[Option.bind_some]
  rw[List.take_succ_eq_append_getElem hi]) (by
  unfold dm
  simp only[aO,Bool.false_eq_true,if_false]) (iy _ (by omega))
 have e:ai (dm a) aC (0,a.1,a.2.1,[])=_:=this
 rw[e]
 simp only[ax,List.take_length]
end D
set_option synthInstance.maxSize 20000
set_option synthInstance.maxHeartbeats 2000000
namespace D
open Go.RowKit
theorem Ox (r:Ld) (id:Int) (hl:r.2.length≤1048576): ∃k:Int,mz r id=some k∧mE r id=some k∧(k= -1∨ ∃i:Nat,i<r.2.length∧k=(i:Int)):=by
 unfold mz mE bu
 have hf: ∀i (h:i<r.2.length),dV r id (i:Int)=if r.2[i].1=id then some (.ret (i:Int)) else some (.nxt ((i+1:Nat):Int)):=fun i h=>by
  simp only[dV,a6 h,if_true,ah h,Option.bind_some,aa (show i<9223372036854775807 by omega)]
  by_cases c:r.2[i].1=id <;> simp[c]
 obtain ⟨k,e1,e2,h⟩:=JF (f:=dV r id) (g:=aP r.2 fun a0=>jX a0 id) r.2.length hl (fun i h=>by
  rw[hf i h];by_cases c:r.2[i].1=id <;> simp[c]) (by simp only[dV,aO];rfl) (fun i hi=>by
  by_cases h:i<r.2.length
  ·rw[hf i h]
   simp only[aP,jX,a6 h,if_true,ah h,Option.bind_some,aa (show i<9223372036854775807 by omega)]
   by_cases c:r.2[i].1=id <;> simp[c]
  ·obtain rfl:i=r.2.length:=by omega
   simp only[dV,aP,aO];rfl)
 refine ⟨k,e1,?_,h⟩
 rw[e2];rfl
end D
set_option synthInstance.maxSize 20000
set_option synthInstance.maxHeartbeats 2000000
namespace D
open Go.RowKit
theorem Lh {r:Ld} (hr:Data.sm r) (id:Int): ∃x:AutT×Bool,ed r id=some x∧eu r id=some x∧Data.sm x.1:=by
 obtain ⟨k,f1,f2,hk⟩:=Ox r id (aw hr.2).1
 obtain ⟨b,v1,v2,hv⟩:=Lg hr
 unfold ed eu
 simp only[f1,f2,v1,v2,Option.bind_some,db]
 rcases hk with rfl | ⟨i,hi,rfl⟩
 ·refine ⟨((0,[],[]),false),?_,?_,vH⟩
  ·cases b <;> rfl
  ·rfl
 ·have hk:decide ((i:Int)<0)=false:=by simp
  cases b with
  | false=>exact ⟨((0,[],[]),false),by simp[hk],by simp[hk],vH⟩
  | true =>
   obtain ⟨hs,hq⟩:=hv rfl
   obtain ⟨q1,q2⟩:=hq _ (List.getElem_mem hi)
   have e1:az r.1 r.2[i].2.2=some (nth r.1 r.2[i].2.2):=ak q1 q2
   have hm:Data.sm (nth r.1 r.2[i].2.2):=(aw hs.1).2 _ (bH q1 q2)
   simp only[if_true,hk,Bool.false_eq_true,if_false,ah hi,Option.bind_some,e1,db,UI _ hm,UJ _ hm]
   exact ⟨_,rfl,rfl,hm⟩
end D
namespace D
open Go.RowKit
abbrev GrT:=(List Int)×(List (Int×Int×Int×Int))
theorem Li {R:Type} {f:Int→Option (Out R Int)} (N:Nat) (p:Nat→Prop) [DecidablePred p] (r:R) (hN:N≤9223372036854775807)
  (h: ∀i:Nat,i<N→f (i:Int)=some (if p i then .nxt ((i+1:Nat):Int) else .ret r)) (he:f (N:Int)=some (.brk (N:Int))) :
  (ai f aC 0=some (.brk (N:Int))∧ ∀i,i<N→p i)∨(ai f aC 0=some (.ret r)∧ ¬ ∀i,i<N→p i):=by
 obtain ⟨o,e,hq⟩:=cm (f:=f) (fun i s=>s=(i:Int)∧ ∀j:Nat,j<i→p j) (fun o=>(o= .brk (N:Int)∧ ∀i,i<N→p i)∨(o= .ret r∧ ¬ ∀i,i<N→p i)) N (s:=0) (by
  rintro i s hi ⟨rfl,hp⟩
  by_cases hl:i<N
  ·by_cases c:p i
   ·refine .inl ⟨hl,_,by rw[h i hl,if_pos c],rfl,fun j hj=>?_⟩
    by_cases e:j=i
    ·subst e;exact c
    ·exact hp j (by omega)
   ·exact .inr ⟨_,by rw[h i hl,if_neg c],(fun s' e=>by cases e),.inr ⟨rfl,fun hx=>c (hx i hl)⟩⟩
  ·obtain rfl:i=N:=by omega
   exact .inr ⟨_,he,(fun s' e=>by cases e),.inl ⟨rfl,hp⟩⟩) ⟨rfl,by omega⟩ (mb hN)
 rcases hq with ⟨rfl,hq⟩ | ⟨rfl,hq⟩
 ·exact .inl ⟨e,hq⟩
 ·exact .inr ⟨e,hq⟩
structure GOk (g:GrT):Prop where
 n1:1≤g.1.length
 n5:g.1.length≤5
 m:g.2.length≤12
 val: ∀v∈g.1,0≤v∧v≤2
 edge: ∀e∈g.2,(0≤e.2.1∧e.2.1<g.1.length)∧(0≤e.2.2.1∧e.2.2.1<g.1.length)∧0≤e.2.2.2∧e.2.2.2≤2
 asc: ∀i:Nat,i+1<g.2.length→(nth g.2 i).1<(nth g.2 ((i+1:Nat):Int)).1
def edgeP (e:Int×Int×Int×Int) (n:Int):Prop:=(1≤e.1∧e.1≤99)∧(0≤e.2.1∧e.2.1≤n - 1)∧(0≤e.2.2.1∧e.2.2.1≤n - 1)∧0≤e.2.2.2∧e.2.2.2≤2
instance (e n):Decidable (edgeP e n):=by unfold edgeP;infer_instance
theorem Wz (e:Int×Int×Int×Int) {n:Nat} (hn:n≤1048576):oX e (n:Int)=some (decide (edgeP e n)):=by
 unfold oX edgeP
 simp only[Ea,Option.bind_some,nE (show n≤9223372036854775807 by omega)]
 by_cases c1:1≤e.1∧e.1≤99 <;> by_cases c2:0≤e.2.1∧e.2.1≤(n:Int) - 1 <;> by_cases c3:0≤e.2.2.1∧e.2.2.1≤(n:Int) - 1 <;> simp[c1,c2,c3]
theorem DT (g:GrT) (h1:g.1.length≤1048576) (h2:g.2.length≤1048576): ∃b,aF g=some b∧(b=true→GOk g):=by
 unfold aF
 have k0:=Li (f:=dG g) g.1.length (fun i=>0≤nth g.1 i∧nth g.1 i≤2) false (by omega) (fun i hi=>by
  unfold dG
  rw[if_pos (by simp;omega),ak (by omega) (by omega)];simp only[Option.bind_some,Ea,decide_eq_true_eq]
  split
  ·rw[aa (by omega)]
  ·rfl) (by unfold dG;rw[if_neg (by simp)])
 have k1:=Li (f:=cL g) g.2.length (fun i=>edgeP (nth g.2 i) g.1.length∧(0<i→(nth g.2 ((i:Int) - 1)).1<(nth g.2 i).1)) false (by omega) (fun i hi=>by
  unfold cL
  rw[if_pos (by simp;omega),ak (by omega) (by omega)];simp only[Option.bind_some]
  have e1:=Wz (nth g.2 (i:Int)) h1
  have e1:oX ((nth g.2 (i:Int)).1,(nth g.2 (i:Int)).2.1,(nth g.2 (i:Int)).2.2.1,(nth g.2 (i:Int)).2.2.2) (g.1.length:Int)=_:=e1
  rw[e1];simp only[Option.bind_some,decide_eq_true_eq]
  by_cases c1:edgeP (nth g.2 (i:Int)) g.1.length
  ·rw[if_pos c1]
   by_cases c2:0<i
   ·rw[if_pos (by omega),nE (by omega),ak (by omega) (by omega)];simp only[Option.bind_some]
    by_cases c3:(nth g.2 ((i:Int) - 1)).1<(nth g.2 (i:Int)).1
    ·rw[if_neg (by omega),if_pos ⟨c1,fun _=>c3⟩,aa (by omega)]
    ·rw[if_pos (by omega),if_neg (fun h=>c3 (h.2 c2))]
   ·rw[if_neg (by omega),if_pos ⟨c1,fun h=>absurd h c2⟩,aa (by omega)]
  ·rw[if_neg c1,if_neg (fun h=>c1 h.1)]) (by unfold cL;rw[if_neg (by simp)])
 rcases k0 with ⟨k0,j0⟩ | ⟨k0,j0⟩
 ·rw[af k0]
  rcases k1 with ⟨k1,j1⟩ | ⟨k1,j1⟩
  ·rw[af k1,Ea];simp only[Option.bind_some,decide_eq_true_eq]
   split
   ·rename_i c
    refine ⟨_,rfl,fun hb=>?_⟩
    have hb:=of_decide_eq_true hb
    refine ⟨by omega,by omega,by omega,fun v hv=>?_,fun e he=>?_,fun i hi=>?_⟩
    ·obtain ⟨i,hi,rfl⟩:=DC hv
     exact j0 i hi
    ·obtain ⟨i,hi,rfl⟩:=DC he
     obtain ⟨a1,a2,a3,a4⟩:=(j1 i hi).1
     exact ⟨⟨a2.1,by omega⟩,⟨a3.1,by omega⟩,a4⟩
    ·have:=(j1 (i+1) hi).2 (by omega)
     rwa [show (((i+1:Nat):Int) - 1)=(i:Int) from by omega] at this
   ·exact ⟨false,rfl,fun h=>by cases h⟩
  ·rw[aT k1];exact ⟨false,rfl,fun h=>by cases h⟩
 ·rw[aT k0];exact ⟨false,rfl,fun h=>by cases h⟩
theorem GOk.lt {g:GrT} (G:GOk g) {i j:Nat} (h:i<j) (hj:j<g.2.length):(nth g.2 (i:Int)).1<(nth g.2 (j:Int)).1:=by
 induction h with
 | refl=>exact G.asc i hj
 | step h ih =>
  rename_i m
  have h1:=ih (by omega)
  have h2:=G.asc m hj
  exact Int.lt_trans h1 h2
end D
namespace D
open Go.RowKit
theorem vI (m:Nat):BitVec.ofInt 64 (m:Int)=BitVec.ofNat 64 m:=by simp
theorem Oy {m n:Nat} (hm:m<2 ^ 62) (hn:n<2 ^ 62):rQ (m:Int) (n:Int)=((m &&& n:Nat):Int):=by
 unfold rQ
 rw[vI,vI,BitVec.toNat_and,BitVec.toNat_ofNat,BitVec.toNat_ofNat,Nat.mod_eq_of_lt (by omega),Nat.mod_eq_of_lt (by omega)]
 have:m &&& n≤m:=Nat.and_le_left
 exact cB (by omega) (by omega)
theorem JH {m n:Nat} (hm:m<2 ^ 62) (hn:n<2 ^ 62):orI (m:Int) (n:Int)=((m ||| n:Nat):Int):=by
 unfold orI
 rw[vI,vI,BitVec.toNat_or,BitVec.toNat_ofNat,BitVec.toNat_ofNat,Nat.mod_eq_of_lt (by omega),Nat.mod_eq_of_lt (by omega)]
 have:m ||| n<2 ^ 62:=Nat.or_lt_two_pow hm hn
 exact cB (by omega) (by omega)
theorem DU {m i:Nat} (hi:i<64):nJ (m:Int) (i:Int)=((m >>> i:Nat):Int):=by
 unfold nJ
 rw[show min (i:Int).toNat 64=i from by simp;omega,Nat.shiftRight_eq_div_pow,Int.fdiv_eq_ediv_of_nonneg _ (by exact_mod_cast Nat.zero_le _)]
 simp
theorem wW {i:Nat} (hi:i<62):vR 1 (i:Int)=((2 ^ i:Nat):Int):=by
 unfold vR
 rw[show min (i:Int).toNat 64=i from by simp;omega,Int.one_mul]
 have:2 ^ i<2 ^ 62:=Nat.pow_lt_pow_right (by decide) hi
 rw[show ((2:Int) ^ i)=((2 ^ i:Nat):Int) from by simp]
 generalize 2 ^ i=z at this
 exact cB (by omega) (by omega)
theorem AK {m i:Nat} (hm:m<2 ^ 62) (hi:i<64):((rQ (nJ (m:Int) (i:Int)) 1)==1)=m.testBit i:=by
 have h1:m >>> i<2 ^ 62:=Nat.lt_of_le_of_lt (by rw[Nat.shiftRight_eq_div_pow];exact Nat.div_le_self _ _) hm
 rw[DU hi,show (1:Int)=((1:Nat):Int) from rfl,Oy h1 (by decide),Nat.testBit,Nat.and_comm]
 have e:m >>> i &&& 1=m >>> i % 2:=Nat.and_one_is_mod _
 rw[Nat.and_comm 1,e]
 rcases Nat.mod_two_eq_zero_or_one (m >>> i) with h | h <;> rw[h] <;> rfl
theorem Rk {m i:Nat} (hm:m<2 ^ 62) (hi:i<64):((rQ (nJ (m:Int) (i:Int)) 1)==0)= !m.testBit i:=by
 have h1:m >>> i<2 ^ 62:=Nat.lt_of_le_of_lt (by rw[Nat.shiftRight_eq_div_pow];exact Nat.div_le_self _ _) hm
 rw[DU hi,show (1:Int)=((1:Nat):Int) from rfl,Oy h1 (by decide),Nat.testBit,Nat.and_comm]
 have e:m >>> i &&& 1=m >>> i % 2:=Nat.and_one_is_mod _
 rw[Nat.and_comm 1,e]
 rcases Nat.mod_two_eq_zero_or_one (m >>> i) with h | h <;> rw[h] <;> rfl
def eE (m k:Nat):List Int:=((List.range k).filter fun i=>m.testBit i).map fun (i:Nat)=>(i:Int)
theorem jA (m k:Nat):eE m (k+1)=if m.testBit k then eE m k++ [(k:Int)] else eE m k:=by
 unfold eE
 rw[List.range_succ,List.filter_append,List.map_append]
 by_cases h:m.testBit k=true
 ·simp[h]
 ·simp[h]
theorem sD {m k l:Nat} (h:m<2 ^ k) (hl:k≤l):eE m l=eE m k:=by
 induction hl with
 | refl=>rfl
 | step hl ih =>
  rw[jA,Nat.testBit_lt_two_pow (Nat.lt_of_lt_of_le h (Nat.pow_le_pow_right (by decide) hl)),ih];rfl
theorem rN {m k:Nat} {x:Int} :x∈eE m k↔ ∃i:Nat,i<k∧m.testBit i=true∧x=(i:Int):=by
 unfold eE
 simp only[List.mem_map,List.mem_filter,List.mem_range]
 constructor
 ·rintro ⟨i,⟨h1,h2⟩,rfl⟩;exact ⟨i,h1,h2,rfl⟩
 ·rintro ⟨i,h1,h2,rfl⟩;exact ⟨i,⟨h1,h2⟩,rfl⟩
theorem lV (m k:Nat):(eE m k).length≤k:=by
 unfold eE;rw[List.length_map];exact Nat.le_trans (List.length_filter_le _ _) (by simp)
theorem Cz {m:Nat} : ∀ {k:Nat},(∀i,i<k→m.testBit i=false)→eE m k= []
 | 0,_=>rfl
 | k+1,h=>by rw[jA,h k (by omega),Cz fun i hi=>h i (by omega)];rfl
theorem Ge {s k:Nat} (h:s<k):eE (2 ^ s) k= [(s:Int)]:=by
 rw[sD (k:=s+1) (Nat.pow_lt_pow_right (by decide) (by omega)) h,jA,Nat.testBit_two_pow,Cz fun i hi=>by rw[Nat.testBit_two_pow];simp;omega]
 simp
theorem tu (m i j:Nat):(m ||| 2 ^ i).testBit j=(m.testBit j || decide (i=j)):=by
 rw[Nat.testBit_or,Nat.testBit_two_pow]
theorem vJ {m i k:Nat} (h:m<2 ^ k) (hi:i<k):m ||| 2 ^ i<2 ^ k:=Nat.or_lt_two_pow h (Nat.pow_lt_pow_right (by decide) hi)
theorem Rl {m i:Nat} (h:m >>> i=0):m<2 ^ i:=by
 rw[Nat.shiftRight_eq_div_pow] at h
 exact (Nat.div_eq_zero_iff_lt (Nat.two_pow_pos i)).1 h
end D
namespace D
open Go.RowKit
theorem p62 {n:Nat} (h:n≤30):2 ^ n≤2 ^ 62:=Nat.pow_le_pow_right (by decide) (by omega)
theorem rO {M:Nat} (hM:M<2 ^ 30):gL (M:Int)=some (eE M 30):=by
 have h62:M<2 ^ 62:=Nat.lt_of_lt_of_le hM (p62 (by decide))
 obtain ⟨o,e,hq⟩:=cm (f:=oD (M:Int)) (fun i s=>s=(eE M i,(i:Int))) (fun o=> ∃k,o= .brk (eE M 30,k)) 30 (s:=([],0)) (by
  rintro i s hi rfl
  unfold oD
  have e0:chk ((0:Int)≤(i:Int))=some ():=by unfold chk;rw[if_pos (by omega)]
  simp only[e0,Option.bind_some]
  by_cases c:M >>> i=0
  ·refine .inr ⟨.brk (eE M i,(i:Int)),?_,(fun s' e=>by cases e),(i:Int),by rw[sD (Rl c) hi]⟩
   rw[DU (by omega),c];rfl
  ·have hi':i<30:=by
    rcases Nat.lt_or_ge i 30 with h | h
    ·exact h
    ·exfalso;apply c
     rw[Nat.shiftRight_eq_div_pow]
     exact Nat.div_eq_of_lt (Nat.lt_of_lt_of_le hM (Nat.pow_le_pow_right (by decide) h))
   refine .inl ⟨hi',(eE M (i+1),((i+1:Nat):Int)),?_,rfl⟩
   have c':((nJ (M:Int) (i:Int)) !=0)=true:=by
    rw[DU (by omega)]
    simp only[bne_iff_ne,ne_eq]
    omega
   rw[if_pos c',AK h62 (by omega),jA,aa (by omega)]
   by_cases b:M.testBit i=true
   ·rw[if_pos b,if_pos b,au (by have:=lV M i;simp;omega)];rfl
   ·rw[if_neg b,if_neg b];rfl) rfl (by unfold aC;omega)
 obtain ⟨k,rfl⟩:=hq
 unfold gL
 exact af e
def ClI (n:Nat) (i:Nat) (st:Int×Int):Prop:=(-1≤st.2∧st.2<n)∧ ∃(M:Nat) (L:List Int),st.1=(M:Int)∧M<2 ^ n∧L.length=i∧L.Nodup∧(∀x∈L,0≤x∧x<n)∧ ∀j:Nat,M.testBit j=true↔(j:Int)∈L
theorem WA {n:Nat} {L:List Int} (h:L.Nodup) (k: ∀x∈L,0≤x∧x<n):L.length≤n:=by
 have:=h.length_le_of_subset (l₂:=(List.range n).map fun i:Nat=>(i:Int)) (fun x hx=>by
  obtain ⟨h0,h1⟩:=k x hx
  exact List.mem_map.2 ⟨x.toNat,List.mem_range.2 (by omega),by omega⟩)
 simpa using this
section
variable {a:AutT} {n:Nat} (V:VA a n) (hn:n≤12)
include V hn
theorem UK {v:Int} (hv:0≤v∧v≤2) {i:Nat} {st:Int×Int} (h:ClI n i st) :
  (i<n∧ ∃st',cR a v st=some (.nxt st')∧ClI n (i+1) st')∨cR a v st=some (.brk st):=by
 obtain ⟨⟨h1,h2⟩,M,L,e1,hM,hl,hd,hr,hb⟩:=h
 obtain ⟨m,s⟩:=st
 obtain rfl:m=(M:Int):=e1
 have h62:M<2 ^ 62:=Nat.lt_of_lt_of_le hM (p62 (by omega))
 unfold cR
 by_cases c:s≥0
 ·obtain ⟨k,rfl⟩: ∃k:Nat,s=(k:Int):=⟨s.toNat,by omega⟩
  have hk:k<n:=by simp only at h2;omega
  have e0:chk ((0:Int)≤(k:Int))=some ():=by unfold chk;rw[if_pos (by omega)]
  simp only[e0,Option.bind_some]
  rw[if_pos (by simp),Rk h62 (by omega)]
  by_cases b:M.testBit k=true
  ·right;rw[if_neg (by simp[b])]
  ·left
   have b':(k:Int)∉L:=fun hh=>b ((hb k).2 hh)
   have hle:=WA (n:=n) (L:=(k:Int)::L) (List.nodup_cons.2 ⟨b',hd⟩) (fun x hx=>by
    rcases List.mem_cons.1 hx with rfl | hx
    ·omega
    ·exact hr x hx)
   simp only[List.length_cons] at hle
   obtain ⟨u,rfl⟩: ∃u:Nat,v=(u:Int):=⟨v.toNat,by omega⟩
   have hu:u≤2:=by omega
   have ew:IntKind.i64.wrap (6+(u:Int))=((6+u:Nat):Int):=by rw[cB (by omega) (by omega)];omega
   refine ⟨by omega,(((M ||| 2 ^ k:Nat):Int),mv a (k:Int) (6+u)),?_,?_,M ||| 2 ^ k,(k:Int)::L,rfl,vJ hM hk,by simp[hl],List.nodup_cons.2 ⟨b',hd⟩,?_,?_⟩
   ·rw[if_pos (by simp[b]),ew]
    have e2:=FZ V (s:=(k:Int)) (k:=6+u) (by omega) (by omega) (by omega)
    have e2:bc (a.1,a.2.1,a.2.2) (k:Int) ((6+u:Nat):Int)=_:=e2
    rw[e2,wW (by omega),JH h62 (Nat.pow_lt_pow_right (by decide) (by omega))];rfl
   ·exact V.mv (by omega) (by omega) (by omega)
   ·intro x hx
    rcases List.mem_cons.1 hx with rfl | hx
    ·omega
    ·exact hr x hx
   ·intro j
    rw[tu,Bool.or_eq_true,hb j,List.mem_cons,decide_eq_true_eq]
    constructor
    ·rintro (h | h)
     ·exact .inr h
     ·left;omega
    ·rintro (h | h)
     ·right;omega
     ·exact .inl h
 ·right
  rw[if_neg (by simpa using c)]
theorem Gf {s v:Int} (hs:0≤s∧s<n) (hv:0≤v∧v≤2): ∃C:Nat,eG a s v=some (C:Int)∧C<2 ^ n:=by
 have h0:ClI n 0 (0,s):=⟨⟨by simp only;omega,hs.2⟩,0,[],rfl,Nat.two_pow_pos n,rfl,List.nodup_nil,by simp,by simp⟩
 obtain ⟨o,e,C,s',rfl,hC⟩:=cm (f:=cR a v) (ClI n) (fun o=> ∃(C:Nat) (s':Int),o= .brk ((C:Int),s')∧C<2 ^ n) n (s:=(0,s)) (fun i st hi h=>by
  rcases UK V hn hv h with h' | h'
  ·exact .inl h'
  ·obtain ⟨_,M,L,e1,hM,_⟩:=h
   obtain ⟨m,s'⟩:=st
   obtain rfl:m=(M:Int):=e1
   exact .inr ⟨_,h',(fun s' e=>by cases e),M,s',rfl,hM⟩) h0 (by unfold aC;omega)
 exact ⟨C,by unfold eG;exact af e,hC⟩
end
def cS (a:AutT) (s v:Int):Nat:=((eG a s v).getD 0).toNat
section
variable {a:AutT} {n:Nat} (V:VA a n) (hn:n≤12)
include V hn
theorem pC {s v:Int} (hs:0≤s∧s<n) (hv:0≤v∧v≤2):eG a s v=some (cS a s v:Int)∧cS a s v<2 ^ n:=by
 obtain ⟨C,e,h⟩:=Gf V hn hs hv
 unfold cS
 rw[e]
 exact ⟨rfl,by simpa using h⟩
end
def afS (a:AutT) (k:Nat) (C:Nat):Nat→Nat
 | 0=>0
 | q+1=>if C.testBit q=true∧0≤mv a (q:Int) k then afS a k C q ||| 2 ^ (mv a (q:Int) k).toNat else afS a k C q
def afL (a:AutT) (k:Nat) (l:List Int):Nat:=l.foldl (fun m t=>if 0≤mv a t k then m ||| 2 ^ (mv a t k).toNat else m) 0
theorem Ik (a:AutT) (k C:Nat): ∀q,afL a k (eE C q)=afS a k C q
 | 0=>rfl
 | q+1=>by
  rw[jA,afS]
  by_cases b:C.testBit q=true
  ·rw[if_pos b]
   unfold afL
   rw[List.foldl_append]
   have:=Ik a k C q
   unfold afL at this
   rw[this]
   simp[b]
  ·rw[if_neg b,if_neg (fun h=>b h.1)]
   exact Ik a k C q
section
variable {a:AutT} {n:Nat} (V:VA a n) (hn:n≤12)
include V
theorem Oz {k C:Nat} (hk:k<9): ∀q,q≤n→afS a k C q<2 ^ n
 | 0,_=>Nat.two_pow_pos n
 | q+1,hq=>by
  rw[afS]
  have:=Oz (C:=C) hk q (by omega)
  split
  ·rename_i c
   have:=(V.mv (s:=(q:Int)) (by omega) (by omega) hk).2
   exact vJ (by assumption) (by omega)
  ·exact this
theorem Sq {k:Nat} (hk:k<9) {l:List Int} (h: ∀x∈l,0≤x∧x<n):afL a k l<2 ^ n:=by
 unfold afL
 have key: ∀(l:List Int) (m:Nat),(∀x∈l,0≤x∧x<n)→m<2 ^ n→l.foldl (fun m t=>if 0≤mv a t k then m ||| 2 ^ (mv a t k).toNat else m) m<2 ^ n:=by
  intro l
  induction l with
  | nil=>intro m _ h;exact h
  | cons x l ih =>
   intro m hx hm
   rw[List.foldl_cons]
   refine ih _ (fun y hy=>hx y (by simp[hy])) ?_
   split
   ·have:=(V.mv (hx x (by simp)).1 (hx x (by simp)).2 hk).2
    exact vJ hm (by omega)
   ·exact hm
 exact key l 0 h (Nat.two_pow_pos n)
include hn
theorem vK {C:Nat} (hC:C<2 ^ n): ∀x∈eE C 30,0≤x∧x<(n:Int):=by
 intro x hx
 obtain ⟨i,hi,hb,rfl⟩:=rN.1 hx
 refine ⟨by omega,?_⟩
 rcases Nat.lt_or_ge i n with h | h
 ·omega
 ·rw[Nat.testBit_lt_two_pow (Nat.lt_of_lt_of_le hC (Nat.pow_le_pow_right (by decide) h))] at hb;cases hb
theorem Lj {k:Nat} (hk:k<6) {l:List Int} (hl: ∀x∈l,0≤x∧x<n) (hlen:l.length≤30):ai (lP a (k:Int) l) aC (0,0)=some (.brk ((afL a k l:Int),(l.length:Int))):=by
 have:=aD (f:=lP a (k:Int) l) (fun i=>((afL a k (l.take i):Int),(i:Int))) l.length (fun i hi=>by
  unfold lP
  simp only
  have hx:=hl _ (bH (xs:=l) (i:=(i:Int)) (by omega) (by omega))
  rw[if_pos (by simp;omega),ak (by omega) (by omega)];simp only[Option.bind_some]
  have e2:=FZ V (s:=nth l (i:Int)) (k:=k) hx.1 hx.2 (by omega)
  have e2:bc (a.1,a.2.1,a.2.2) (nth l (i:Int)) (k:Int)=_:=e2
  rw[e2,aa (by omega)];simp only[Option.bind_some]
  have et:l.take (i+1)=l.take i++ [nth l (i:Int)]:=by rw[List.take_add_one,bY hi];simp[hi]
  have ef:afL a k (l.take (i+1))=if 0≤mv a (nth l (i:Int)) k then afL a k (l.take i) ||| 2 ^ (mv a (nth l (i:Int)) k).toNat else afL a k (l.take i):=by
   rw[et];unfold afL;rw[List.foldl_append];rfl
  have hlt:=Sq V (k:=k) (by omega) (l:=l.take i) (fun x hx=>hl x (List.mem_of_mem_take hx))
  have hmv:=(V.mv (s:=nth l (i:Int)) (k:=k) hx.1 hx.2 (by omega)).2
  rw[ef]
  by_cases c:0≤mv a (nth l (i:Int)) k
  ·rw[if_pos (by simpa using c),if_pos c]
   obtain ⟨t,ht⟩: ∃t:Nat,mv a (nth l (i:Int)) k=(t:Int):=⟨_,(Int.toNat_of_nonneg c).symm⟩
   have e0:chk ((0:Int)≤mv a (nth l (i:Int)) k)=some ():=by unfold chk;rw[if_pos c]
   rw[e0,ht,wW (by omega),JH (Nat.lt_of_lt_of_le hlt (p62 (by omega))) (Nat.pow_lt_pow_right (by decide) (by omega))];rfl
  ·rw[if_neg (by simpa using c),if_neg c];rfl) (by unfold lP;simp) (mb (by omega))
 simpa [afL] using this
theorem WB {s v:Int} {k:Nat} (hs:0≤s∧s<n) (hv:0≤v∧v≤2) (hk:k<6):rj a (vR 1 s) v (k:Int)=some (afL a k (eE (cS a s v) 30):Int):=by
 obtain ⟨t,rfl⟩: ∃t:Nat,s=(t:Int):=⟨s.toNat,by omega⟩
 obtain ⟨e1,h1⟩:=pC V hn hs hv
 have hC:cS a (t:Int) v<2 ^ 30:=Nat.lt_of_lt_of_le h1 (Nat.pow_le_pow_right (by decide) (by omega))
 unfold rj
 rw[wW (by omega),rO (Nat.pow_lt_pow_right (by decide) (by omega)),Ge (by omega)];simp only[Option.bind_some]
 have h0:gM a v (k:Int) [(t:Int)] (0,0)=some (.nxt ((afL a k (eE (cS a (t:Int) v) 30):Int),1)):=by
  unfold gM
  simp only
  rw[if_pos (by simp),show az [(t:Int)] 0=some (t:Int) from rfl];simp only[Option.bind_some]
  have e1:eG (a.1,a.2.1,a.2.2) (t:Int) v=_:=e1
  rw[e1];simp only[Option.bind_some]
  rw[rO hC];simp only[Option.bind_some]
  rw[Lj V hn hk (vK V hn h1) (lV _ _)]
  rfl
 have h1': ∀m:Int,gM a v (k:Int) [(t:Int)] (m,1)=some (.brk (m,1)):=fun m=>by
  unfold gM;rw[if_neg (by simp)]
 have:=aD (f:=gM a v (k:Int) [(t:Int)]) (fun i=>if i=0 then (0,0) else ((afL a k (eE (cS a (t:Int) v) 30):Int),1)) 1 (fun i hi=>by
  obtain rfl:i=0:=by omega
  exact h0) (h1' _) (by unfold aC;omega)
 have this:ai (gM a v (k:Int) [(t:Int)]) aC (0,0)=some (.brk ((afL a k (eE (cS a (t:Int) v) 30):Int),1)):=this
 rw[this];rfl
end
end D
namespace D
open Go.RowKit
theorem iz {p:Prop} [Decidable p] (h:p):chk p=some ():=by unfold chk;rw[if_pos h]
def rm {α:Type} (N:Nat) (F:Nat→α):List α:=(List.range N).map F
section
variable {α:Type} {N:Nat} {F G:Nat→α}
theorem AL:(rm N F).length=N:=by simp[rm]
theorem mN (h: ∀z,z<N→F z=G z):rm N F=rm N G:=by
 unfold rm
 exact List.map_congr_left fun z hz=>h z (List.mem_range.1 hz)
theorem AM {c:Nat} (h:c<N):az (rm N F) (c:Int)=some (F c):=by
 rw[ah (by rw[AL];exact h)]
 simp[rm]
theorem OA {c:Nat} {v:α} :(rm N F).set c v=rm N fun z=>if z=c then v else F z:=by
 refine List.ext_getElem (by simp[rm]) fun i h1 h2=>?_
 simp only[rm,List.getElem_set,List.getElem_map,List.getElem_range]
 by_cases e:c=i
 ·subst e;simp
 ·rw[if_neg e,if_neg (fun h=>e h.symm)]
theorem um {xs:List α} [Inhabited α] {k:Nat} (h:k<xs.length):xs.take (k+1)=xs.take k++ [nth xs (k:Int)]:=by
 rw[List.take_add_one,bY h];simp[h]
end
theorem Sr {α:Type} {b n:Nat} {z:α} (h:n*b≤140737488355328):mkI b (n:Int) z=some (rm n fun _=>z):=by
 have:rm n (fun _=>z)=List.replicate n z:=by
  unfold rm;exact List.ext_getElem (by simp) fun i h1 h2=>by simp
 rw[this,rK h]
abbrev EdT:=Int×Int×Int×Int
abbrev ArT:=(Int×Bool)×Int×Int
def fwd (e:EdT):ArT:=((e.1,false),2*e.2.2.2,e.2.2.1)
def inv (e:EdT):ArT:=((e.1,true),2*e.2.2.2+1,e.2.1)
def Ss (e:EdT) (x:Int):List ArT:=(if e.2.1=x then [fwd e] else [])++(if e.2.2.1=x then [inv e] else [])
def kp (es:List EdT) (x:Nat):List ArT:=es.flatMap fun e=>Ss e x
theorem Rm (e:EdT) (x:Int):(Ss e x).length≤2:=by
 unfold Ss;rw[List.length_append];split <;> split <;> simp
theorem rP {α β:Type} {f:α→List β} {B:Nat} : ∀ {xs:List α},(∀x∈xs,(f x).length≤B)→(xs.flatMap f).length≤B*xs.length
 | [],_=>by simp
 | x::xs,h=>by
  rw[List.flatMap_cons,List.length_append,List.length_cons,Nat.mul_add]
  have:=h x (by simp)
  have:=rP (xs:=xs) fun y hy=>h y (by simp[hy])
  omega
theorem sE (es:List EdT) (x:Nat):(kp es x).length≤2*es.length:=rP fun e _=>Rm e x
theorem OB (e:EdT) (h:0≤e.2.2.2∧e.2.2.2≤2) (b:Bool):ri e b=some (if b then 2*e.2.2.2+1 else 2*e.2.2.2):=by
 unfold ri
 rw[cB (n:=2*e.2.2.2) (by omega) (by omega),cB (by omega) (by omega)]
 cases b <;> rfl
theorem WC {g:GrT} (G:GOk g):uS g=some (rm g.1.length (kp g.2)):=by
 unfold uS
 rw[Sr (by have:=G.n5;omega)];simp only[Option.bind_some]
 have:=aD (f:=np g) (fun i=>((i:Int),rm g.1.length (kp (g.2.take i)))) g.2.length (fun i hi=>by
  unfold np
  simp only
  have hm:=G.m
  obtain ⟨⟨a1,a2⟩,⟨b1,b2⟩,c1⟩:=G.edge _ (bH (xs:=g.2) (i:=(i:Int)) (by omega) (by omega))
  rw[if_pos (by simp;omega),ak (by omega) (by omega)];simp only[Option.bind_some]
  generalize he:nth g.2 (i:Int)=e at a1 a2 b1 b2 c1
  obtain ⟨id,fr,to,lb⟩:=e
  obtain ⟨p,rfl⟩: ∃p:Nat,fr=(p:Int):=⟨fr.toNat,by simp only at a1;omega⟩
  obtain ⟨q,rfl⟩: ∃q:Nat,to=(q:Int):=⟨to.toNat,by simp only at b1;omega⟩
  simp only at a1 a2 b1 b2 c1
  have hp:p<g.1.length:=by omega
  have hq:q<g.1.length:=by omega
  have r1:=OB (id,(p:Int),(q:Int),lb) c1 false
  have r2:=OB (id,(p:Int),(q:Int),lb) c1 true
  have l1:=sE (g.2.take i) p
  have l2:=sE (g.2.take i) q
  have l3:(g.2.take i).length≤12:=by rw[List.length_take];omega
  simp only[AM hp,AM hq,Option.bind_some,r1,r2,Int.toNat_natCast,OA,Bool.false_eq_true,if_false,if_true]
  rw[au (by simp;omega)];simp only[Option.bind_some,OA]
  rw[iz (by rw[AL];omega),iz trivial];simp only[Option.bind_some]
  rw[au (by split <;> simp <;> omega)];simp only[Option.bind_some]
  rw[iz (by rw[AL];omega)];simp only[Option.bind_some]
  try rw[iz rfl];simp only[Option.bind_some]
  rw[aa (by omega)]
  congr 3
  refine mN fun z hz=>?_
  rw[um hi,he]
  unfold kp
  rw[List.flatMap_append]
  simp only[List.flatMap_cons,List.flatMap_nil,List.append_nil,Ss]
  by_cases e1:z=q
  ·subst e1
   by_cases e2:z=p
   ·subst e2;simp[fwd,inv]
   ·simp[e2,fwd,inv,show¬((p:Int)=(z:Int)) from by omega]
  ·by_cases e2:z=p
   ·subst e2;simp[e1,fwd,inv,show¬((q:Int)=(z:Int)) from by omega]
   ·simp[e1,e2,show¬((p:Int)=(z:Int)) from by omega,show¬((q:Int)=(z:Int)) from by omega]) (by unfold np;simp) (mb (by have:=G.m;omega))
 have this:ai (np g) aC (0,rm g.1.length fun _=>[])=_:=this
 rw[this,List.take_length];rfl
end D
namespace D
open Go.RowKit
def behind (a:AutT) (s v k:Int):List Int:=eE (afL a k.toNat (eE (cS a s v) 30)) 30
def nbA (g:GrT) (a:AutT) (x s:Nat) (y:ArT):List Int:=(behind a s (nth g.1 x) y.2.1).map fun t=>y.2.2*(a.2.1.length:Int)+t
def nbV (g:GrT) (a:AutT) (x s:Nat):List Int:=(kp g.2 x).flatMap (nbA g a x s)
def nbC (g:GrT) (a:AutT) (c:Nat):List Int:=nbV g a (c / a.2.1.length) (c % a.2.1.length)
theorem AN {g:GrT} (G:GOk g) {x:Nat} {y:ArT} (h:y∈kp g.2 x):(0≤y.2.1∧y.2.1<6)∧0≤y.2.2∧y.2.2<g.1.length:=by
 obtain ⟨e,he,hy⟩:=List.mem_flatMap.1 h
 obtain ⟨h1,h2,h3⟩:=G.edge e he
 unfold Ss at hy
 rcases List.mem_append.1 hy with hy | hy <;> split at hy
 ·obtain rfl:y=fwd e:=by simpa using hy
  exact ⟨⟨by simp[fwd];omega,by simp[fwd];omega⟩,h2⟩
 ·cases hy
 ·obtain rfl:y=inv e:=by simpa using hy
  exact ⟨⟨by simp[inv];omega,by simp[inv];omega⟩,h1⟩
 ·cases hy
section
variable {g:GrT} {a:AutT} (G:GOk g) (V:VA a a.2.1.length) (hn:a.2.1.length≤12)
include G V hn
theorem vL {s v:Int} {k:Int} (hs:0≤s∧s<a.2.1.length) (hv:0≤v∧v≤2) (hk:0≤k∧k<6):(∀t∈behind a s v k,0≤t∧t<(a.2.1.length:Int))∧(behind a s v k).length≤30∧afL a k.toNat (eE (cS a s v) 30)<2 ^ 30:=by
 have h1:=(pC V hn hs hv).2
 have h2:=Sq V (k:=k.toNat) (by omega) (vK V hn h1)
 exact ⟨vK V hn h2,lV _ _,Nat.lt_of_lt_of_le h2 (Nat.pow_le_pow_right (by decide) (by omega))⟩
theorem Su {x s:Nat} {y:ArT} (hx:x<g.1.length) (hs:s<a.2.1.length) (hy:y∈kp g.2 x): ∀z∈nbA g a x s y,0≤z∧z<((a.2.1.length*g.1.length:Nat):Int):=by
 intro z hz
 obtain ⟨t,ht,rfl⟩:=List.mem_map.1 hz
 obtain ⟨k1,k2,k3⟩:=AN G hy
 have hv:=G.val _ (bH (xs:=g.1) (i:=(x:Int)) (by omega) (by omega))
 obtain ⟨t0,t1⟩:=(vL G V hn (s:=(s:Int)) ⟨by omega,by omega⟩ hv k1).1 t ht
 obtain ⟨q,hq⟩: ∃q:Nat,y.2.2=(q:Int):=⟨y.2.2.toNat,by omega⟩
 obtain ⟨r,rfl⟩: ∃r:Nat,t=(r:Int):=⟨t.toNat,by omega⟩
 rw[hq] at k3⊢
 have:q*a.2.1.length+r<g.1.length*a.2.1.length:=by
  have:(q+1)*a.2.1.length≤g.1.length*a.2.1.length:=Nat.mul_le_mul_right _ (by omega)
  rw[Nat.add_mul] at this;omega
 rw[Nat.mul_comm a.2.1.length]
 constructor
 ·exact_mod_cast Nat.zero_le _
 ·exact_mod_cast this
theorem WD {x s:Nat} (hx:x<g.1.length) (hs:s<a.2.1.length): ∀z∈nbV g a x s,0≤z∧z<((a.2.1.length*g.1.length:Nat):Int):=by
 intro z hz
 obtain ⟨y,hy,hz⟩:=List.mem_flatMap.1 hz
 exact Su G V hn hx hs hy z hz
theorem OC {x s:Nat} {y:ArT} (hx:x<g.1.length) (hs:s<a.2.1.length) (hy:y∈kp g.2 x):(nbA g a x s y).length≤30:=by
 unfold nbA
 rw[List.length_map]
 exact lV _ _
end
section
variable {g:GrT} {a:AutT} {F:Nat→List Int} {N:Nat}
theorem XV {x s:Nat} {o1 o2:List (List Int)} {y:ArT} {T:List Int} (hc:x*a.2.1.length+s<N) (hN:N≤60) (hF:(F (x*a.2.1.length+s)).length≤10000) (hT:T.length≤30) (hy: ∀t∈T,0≤y.2.2*(a.2.1.length:Int)+t∧y.2.2*(a.2.1.length:Int)+t<60∧0≤t∧t≤60) :
  ai (cM a ((x:Int),o1) ((s:Int),o2) y T) aC (0,rm N F)=some (.brk ((T.length:Int),rm N fun z=>if z=x*a.2.1.length+s then F z++T.map fun t=>y.2.2*(a.2.1.length:Int)+t else F z)):=by
 have ec:IntKind.i64.wrap (IntKind.i64.wrap ((x:Int)*(a.2.1.length:Int))+(s:Int))=((x*a.2.1.length+s:Nat):Int):=by
  have:((x:Int)*(a.2.1.length:Int))=((x*a.2.1.length:Nat):Int):=by simp
  rw[this,vx (by omega),cB (by omega) (by omega)];rfl
 have:=aD (f:=cM a ((x:Int),o1) ((s:Int),o2) y T) (fun j=>((j:Int),rm N fun z=>if z=x*a.2.1.length+s then F z++(T.take j).map fun t=>y.2.2*(a.2.1.length:Int)+t else F z)) T.length (fun j hj=>by
  unfold cM
  simp only
  obtain ⟨y0,y1,t0,t1⟩:=hy _ (bH (xs:=T) (i:=(j:Int)) (by omega) (by omega))
  rw[if_pos (by simp;omega),ak (by omega) (by omega)];simp only[Option.bind_some,ec,AM hc,if_true]
  have ev:IntKind.i64.wrap (IntKind.i64.wrap (y.2.2*(a.2.1.length:Int))+nth T (j:Int))=y.2.2*(a.2.1.length:Int)+nth T (j:Int):=by
   rw[cB (n:=y.2.2*(a.2.1.length:Int)) (by omega) (by omega),cB (by omega) (by omega)]
  rw[ev,au (by simp;omega)];simp only[Option.bind_some,Int.toNat_natCast,OA]
  rw[iz (by rw[AL];omega),iz trivial,aa (by omega)];simp only[Option.bind_some]
  congr 3
  refine mN fun z hz=>?_
  by_cases e:z=x*a.2.1.length+s
  ·subst e
   rw[if_pos rfl,if_pos rfl,um hj,List.map_append,List.append_assoc];rfl
  ·simp only[if_neg e]) (by unfold cM;simp) (mb (by omega))
 rw[List.take_length] at this
 rw[←this]
 congr 2
 refine mN fun z hz=>?_
 split <;> simp
end
section
variable {g:GrT} {a:AutT} (G:GOk g) (V:VA a a.2.1.length) (hn:a.2.1.length≤12)
include G V hn
theorem nN:a.2.1.length*g.1.length≤60:=by
 have:=Nat.mul_le_mul hn G.n5;omega
theorem cN {x s:Nat} (hx:x<g.1.length) (hs:s<a.2.1.length):x*a.2.1.length+s<a.2.1.length*g.1.length:=by
 have:(x+1)*a.2.1.length≤g.1.length*a.2.1.length:=Nat.mul_le_mul_right _ (by omega)
 rw[Nat.add_mul,Nat.mul_comm g.1.length] at this;omega
theorem XW {F:Nat→List Int} {x s:Nat} {o1 o2:List (List Int)} (hx:x<g.1.length) (hs:s<a.2.1.length) (hF:F (x*a.2.1.length+s)= []) :
  ai (dH g a ((x:Int),o1) (kp g.2 x) ((s:Int),o2)) aC (0,rm (a.2.1.length*g.1.length) F)=some (.brk (((kp g.2 x).length:Int),rm (a.2.1.length*g.1.length) fun z=>if z=x*a.2.1.length+s then nbV g a x s else F z)):=by
 have hl:=sE g.2 x
 have hm:=G.m
 have:=aD (f:=dH g a ((x:Int),o1) (kp g.2 x) ((s:Int),o2)) (fun j=>((j:Int),rm (a.2.1.length*g.1.length) fun z=>if z=x*a.2.1.length+s then ((kp g.2 x).take j).flatMap (nbA g a x s) else F z)) (kp g.2 x).length (fun j hj=>by
  unfold dH
  simp only
  have hy:=bH (xs:=kp g.2 x) (i:=(j:Int)) (by omega) (by omega)
  obtain ⟨k1,k2,k3⟩:=AN G hy
  have hv:=G.val _ (bH (xs:=g.1) (i:=(x:Int)) (by omega) (by omega))
  obtain ⟨q1,q2,q3⟩:=vL G V hn (s:=(s:Int)) (v:=nth g.1 (x:Int)) (k:=(nth (kp g.2 x) (j:Int)).2.1) ⟨by omega,by omega⟩ hv k1
  rw[if_pos (by simp;omega),ak (by omega) (by omega)];simp only[Option.bind_some]
  rw[iz (by omega),ak (xs:=g.1) (by omega) (by omega)];simp only[Option.bind_some]
  obtain ⟨k,hk⟩: ∃k:Nat,(nth (kp g.2 x) (j:Int)).2.1=(k:Int):=⟨_,(Int.toNat_of_nonneg k1.1).symm⟩
  have ea:=WB V hn (s:=(s:Int)) (v:=nth g.1 (x:Int)) (k:=k) ⟨by omega,by omega⟩ hv (by omega)
  have ea:rj (a.1,a.2.1,a.2.2) (vR 1 (s:Int)) (nth g.1 (x:Int)) (k:Int)=_:=ea
  rw[hk,ea];simp only[Option.bind_some]
  have ek:k=(nth (kp g.2 x) (j:Int)).2.1.toNat:=by rw[hk];rfl
  rw[ek,rO q3];simp only[Option.bind_some]
  have hb:(((kp g.2 x).take j).flatMap (nbA g a x s)).length≤30*((kp g.2 x).take j).length:=rP fun y hy=>OC G V hn hx hs (List.mem_of_mem_take hy)
  have ht:((kp g.2 x).take j).length≤24:=by rw[List.length_take];omega
  have h3:=XV (F:=fun z=>if z=x*a.2.1.length+s then ((kp g.2 x).take j).flatMap (nbA g a x s) else F z) (o1:=o1) (o2:=o2) (y:=nth (kp g.2 x) (j:Int)) (T:=behind a (s:Int) (nth g.1 (x:Int)) (nth (kp g.2 x) (j:Int)).2.1) (cN G V hn hx hs) (nN G V hn) (by simp only[if_true];omega) q2 (fun t ht=>by
   have h1:=Su G V hn hx hs hy _ (List.mem_map.2 ⟨t,ht,rfl⟩)
   have h2:=q1 t ht
   have:=nN G V hn
   omega)
  unfold behind at h3
  have h3:ai (cM a ((x:Int),o1) ((s:Int),o2) (nth (kp g.2 x) (j:Int)) (eE (afL a (nth (kp g.2 x) (j:Int)).2.1.toNat (eE (cS a (s:Int) (nth g.1 (x:Int))) 30)) 30)) aC (0,rm (a.2.1.length*g.1.length) fun z=>if z=x*a.2.1.length+s then ((kp g.2 x).take j).flatMap (nbA g a x s) else F z)=_:=h3
  rw[af h3,aa (by omega)]
  congr 3
  refine mN fun z hz=>?_
  by_cases e:z=x*a.2.1.length+s
  ·subst e
   rw[if_pos rfl,if_pos rfl,um hj,List.flatMap_append]
   simp[nbA,behind]
  ·simp only[if_neg e]) (by unfold dH;simp) (mb (by omega))
 rw[List.take_length] at this
 rw[show nbV g a x s=(kp g.2 x).flatMap (nbA g a x s) from rfl,←this]
 congr 2
 refine mN fun z hz=>?_
 split
 ·rename_i e;subst e;rw[hF];simp
 ·rfl
theorem WE {x s:Nat} (hs:s<a.2.1.length):nbC g a (x*a.2.1.length+s)=nbV g a x s:=by
 unfold nbC
 rw[Nat.mul_comm,Nat.mul_add_div (by omega),Nat.mul_add_mod,Nat.div_eq_of_lt hs,Nat.mod_eq_of_lt hs,Nat.add_zero]
theorem XX {x:Nat} {o1:List (List Int)} (hx:x<g.1.length) :
  ai (dI g a ((x:Int),o1) (kp g.2 x)) aC (0,rm (a.2.1.length*g.1.length) fun z=>if z<x*a.2.1.length then nbC g a z else [])=some (.brk ((a.2.1.length:Int),rm (a.2.1.length*g.1.length) fun z=>if z<(x+1)*a.2.1.length then nbC g a z else [])):=by
 have:=aD (f:=dI g a ((x:Int),o1) (kp g.2 x)) (fun j=>((j:Int),rm (a.2.1.length*g.1.length) fun z=>if z<x*a.2.1.length+j then nbC g a z else [])) a.2.1.length (fun j hj=>by
  unfold dI
  simp only
  rw[if_pos (by simp;omega)]
  have h2:=XW G V hn (F:=fun z=>if z<x*a.2.1.length+j then nbC g a z else []) (o1:=o1) (o2:=rm (a.2.1.length*g.1.length) fun z=>if z<x*a.2.1.length+j then nbC g a z else []) hx hj (by simp)
  rw[af h2,aa (by omega)]
  congr 3
  refine mN fun z hz=>?_
  by_cases e:z=x*a.2.1.length+j
  ·subst e
   rw[if_pos rfl,if_pos (by omega),WE G V hn hj]
  ·rw[if_neg e]
   by_cases e2:z<x*a.2.1.length+j
   ·rw[if_pos e2,if_pos (by omega)]
   ·rw[if_neg e2,if_neg (by omega)]) (by unfold dI;simp) (mb (by omega))
 rw[Nat.add_mul,Nat.one_mul]
 exact this
theorem UL:dX g a=some (rm (a.2.1.length*g.1.length) (nbC g a)):=by
 have hN:=nN G V hn
 unfold dX
 have ew:IntKind.i64.wrap ((a.2.1.length:Int)*(g.1.length:Int))=((a.2.1.length*g.1.length:Nat):Int):=by
  rw[show ((a.2.1.length:Int)*(g.1.length:Int))=((a.2.1.length*g.1.length:Nat):Int) from by simp,vx (by omega)]
 have ea:=WC G
 have ea:uS (g.1,g.2)=_:=ea
 rw[ew,Sr (by omega),ea];simp only[Option.bind_some]
 have:=aD (f:=fH g a (rm g.1.length (kp g.2))) (fun j=>((j:Int),rm (a.2.1.length*g.1.length) fun z=>if z<j*a.2.1.length then nbC g a z else [])) g.1.length (fun j hj=>by
  unfold fH
  simp only
  rw[if_pos (by rw[AL];simp;omega),AM hj];simp only[Option.bind_some]
  rw[af (XX G V hn hj),aa (by have:=G.n5;omega)]) (by unfold fH;rw[AL];simp) (mb (by have:=G.n5;omega))
 have e0:(rm (a.2.1.length*g.1.length) fun _=>([] :List Int))=rm (a.2.1.length*g.1.length) fun z=>if z<0*a.2.1.length then nbC g a z else []:=mN fun z hz=>by rw[if_neg (by omega)]
 rw[e0,show (0:Int)=((0:Nat):Int) from rfl,af this]
 congr 1
 refine mN fun z hz=>?_
 rw[if_pos (by rw[Nat.mul_comm g.1.length];exact hz)]
end
end D
namespace D
open Go.RowKit
def YO {R S T:Type} (φ:S→T):Out R S→Out R T
 | .ret r=>.ret r
 | .nxt s=>.nxt (φ s)
 | .brk s=>.brk (φ s)
theorem AO {R S T:Type} {f:S→Option (Out R S)} {f':T→Option (Out R T)} (φ:S→T) (Inv:S→Prop)
  (h: ∀s,Inv s→f' (φ s)=(f s).map (YO φ)) (hi: ∀s s',Inv s→f s=some (.nxt s')→Inv s'): ∀n s,Inv s→ai f' n (φ s)=(ai f n s).map (YO φ)
 | 0,_,_=>rfl
 | n+1,s,hs=>by
  have e:=h s hs
  unfold ai
  rw[e]
  cases hf:f s with
  | none=>rfl
  | some o =>
   cases o with
   | ret r=>rfl
   | brk s'=>rfl
   | nxt s'=>exact AO φ Inv h hi n s' (hi s s' hs hf)
section
variable {a:AutT} {n:Nat} (V:VA a n) (hn:n≤12)
include V hn
theorem Gg {s v:Int} (hs:0≤s∧s<n) (hv:0≤v∧v≤2):eF a s v=some (cS a s v:Int):=by
 have e:=(pC V hn hs hv).1
 have k:=AO (f:=cR a v) (f':=kG a v) (fun st=>(st.2,st.1)) (fun st=> -1≤st.2∧st.2<n) (by
  rintro ⟨m,s⟩ ⟨h0,h1⟩
  unfold kG cR
  simp only at h0 h1⊢
  by_cases c:0≤s
  ·simp only[decide_eq_true (show s≥0 from c),if_true,iz c,Option.bind_some]
   have ew:IntKind.i64.wrap (6+v)=(((6+v).toNat:Nat):Int):=by rw[cB (by omega) (by omega)];omega
   have e2:=FZ V (s:=s) (k:=(6+v).toNat) c h1 (by omega)
   have e2:bc (a.1,a.2.1,a.2.2) s (((6+v).toNat:Nat):Int)=_:=e2
   rw[ew,e2,V.get c h1];simp only[Option.bind_some]
   rw[V.get2 c h1 (by omega)];simp only[Option.bind_some]
   split <;> rfl
  ·simp only[decide_eq_false (show¬s≥0 from c),Bool.false_eq_true,if_false];rfl) (by
  rintro ⟨m,s⟩ ⟨m',s'⟩ ⟨h0,h1⟩ hf
  unfold cR at hf
  simp only at h0 h1 hf⊢
  by_cases c:0≤s
  ·simp only[decide_eq_true (show s≥0 from c),if_true,iz c,Option.bind_some] at hf
   have ew:IntKind.i64.wrap (6+v)=(((6+v).toNat:Nat):Int):=by rw[cB (by omega) (by omega)];omega
   have e2:=FZ V (s:=s) (k:=(6+v).toNat) c h1 (by omega)
   have e2:bc (a.1,a.2.1,a.2.2) s (((6+v).toNat:Nat):Int)=_:=e2
   rw[ew,e2] at hf;simp only[Option.bind_some] at hf
   split at hf
   ·cases hf
    exact V.mv c h1 (by omega)
   ·cases hf
  ·simp only[decide_eq_false (show¬s≥0 from c),Bool.false_eq_true,if_false] at hf;cases hf) aC (0,s) ⟨by simp only;omega,hs.2⟩
 unfold eG at e
 unfold eF
 simp only at k
 rw[k]
 cases hl:ai (cR a v) aC (0,s) with
 | none=>rw[hl] at e;cases e
 | some o =>
  rw[hl] at e
  cases o with
  | ret r=>exact e
  | brk s'=>exact e
  | nxt s'=>cases e
end
def AY (y:ArT):Int×Bool:=y.1
theorem WG {g:GrT} (G:GOk g) {x:Nat} :oU g x=some ((kp g.2 x).map AY):=by
 unfold oU
 have:=aD (f:=jW g x) (fun i=>((kp (g.2.take i) x).map AY,(i:Int))) g.2.length (fun i hi=>by
  unfold jW
  simp only
  have hm:=G.m
  have l1:=sE (g.2.take i) x
  have l3:(g.2.take i).length≤12:=by rw[List.length_take];omega
  rw[if_pos (by simp;omega),ak (by omega) (by omega)];simp only[Option.bind_some]
  rw[um hi,aa (by omega)]
  generalize nth g.2 (i:Int)=e
  have ea:kp (g.2.take i++ [e]) x=kp (g.2.take i) x++Ss e x:=by simp[kp]
  rw[ea,List.map_append]
  generalize hL:(kp (g.2.take i) x).map AY=L
  have hl:L.length≤24:=by rw[←hL,List.length_map];omega
  unfold Ss
  by_cases c1:e.2.1=(x:Int)
  ·rw[if_pos (by simpa using c1),if_pos c1,au (by simp;omega)];simp only[Option.bind_some]
   by_cases c2:e.2.2.1=(x:Int)
   ·rw[if_pos (by simpa using c2),if_pos c2,au (by simp;omega)];simp[AY,fwd,inv]
   ·rw[if_neg (by simpa using c2),if_neg c2];simp[AY,fwd,inv]
  ·rw[if_neg (by simpa using c1),if_neg c1];simp only[Option.bind_some]
   by_cases c2:e.2.2.1=(x:Int)
   ·rw[if_pos (by simpa using c2),if_pos c2,au (by simp;omega)];simp[AY,fwd,inv]
   ·rw[if_neg (by simpa using c2),if_neg c2];simp[AY,fwd,inv]) (by unfold jW;simp) (mb (by have:=G.m;omega))
 have this:ai (jW g x) aC (([] :List (Int×Bool)),0)=_:=this
 rw[this,List.take_length];rfl
theorem JI {g:GrT} (G:GOk g) {j:Nat} (hj:j<g.2.length):hY g (nth g.2 (j:Int)).1=some (j:Int):=by
 unfold hY
 have hm:=G.m
 obtain ⟨o,e,hq⟩:=cm (f:=l5 g (nth g.2 (j:Int)).1) (fun i s=>s=(i:Int)∧i≤j) (fun o=>o= .ret (j:Int)) 12 (s:=0) (by
  rintro i s hi ⟨rfl,hij⟩
  unfold l5
  rw[if_pos (by simp;omega),ak (by omega) (by omega)];simp only[Option.bind_some]
  by_cases c:i=j
  ·subst c
   exact .inr ⟨_,by rw[if_pos (by simp)],(fun s' e=>by cases e),rfl⟩
  ·have h1:=G.lt (i:=i) (j:=j) (by omega) hj
   exact .inl ⟨by omega,_,by rw[if_neg (by simp;omega),aa (by omega)],rfl,by omega⟩) ⟨rfl,by omega⟩ (by unfold aC;omega)
 subst hq
 rw[e];rfl
theorem Rn {g:GrT} (G:GOk g) {x:Nat} {y:ArT} (h:y∈kp g.2 x): ∃(j:Int) (e:EdT),hY g y.1.1=some j∧az g.2 j=some e∧fC e y.1.2=some y.2.1∧ni e y.1.2=some y.2.2:=by
 obtain ⟨e,he,hy⟩:=List.mem_flatMap.1 h
 obtain ⟨j,hj,rfl⟩:=DC he
 obtain ⟨h1,h2,h3⟩:=G.edge _ he
 refine ⟨j,nth g.2 (j:Int),?_,ak (by omega) (by omega),?_,?_⟩
 all_goals
  unfold Ss at hy
  rcases List.mem_append.1 hy with hy | hy <;> split at hy
  ·obtain rfl:=List.mem_singleton.1 hy
   simp only[fwd]
   first | exact JI G hj | (unfold fC;rw[cB (n:=2*_) (by omega) (by omega)];rfl) | (unfold ni;rfl)
  ·cases hy
  ·obtain rfl:=List.mem_singleton.1 hy
   simp only[inv]
   first | exact JI G hj | (unfold fC;rw[cB (n:=2*_) (by omega) (by omega),cB (by omega) (by omega)];rfl) | (unfold ni;rfl)
  ·cases hy
abbrev UM:=(Int×Bool)×Int×Int
def stA (g:GrT) (a:AutT) (x s:Nat) (y:ArT):List UM:=(behind a s (nth g.1 x) y.2.1).map fun t=>(y.1,y.2.2,t)
def stV (g:GrT) (a:AutT) (x s:Nat):List UM:=(kp g.2 x).flatMap (stA g a x s)
theorem WH (g:GrT) (a:AutT) (x s:Nat):(stV g a x s).map (fun p=>p.2.1*(a.2.1.length:Int)+p.2.2)=nbV g a x s:=by
 unfold stV nbV
 rw[List.map_flatMap]
 congr 1
 funext y
 unfold stA nbA
 rw[List.map_map];rfl
section
variable {g:GrT} {a:AutT} (G:GOk g) (V:VA a a.2.1.length) (hn:a.2.1.length≤12)
include G V hn
theorem UN {x s:Nat} {y:ArT} (hx:x<g.1.length) (hs:s<a.2.1.length) (hy:y∈kp g.2 x):(stA g a x s y).length≤30:=by
 unfold stA;rw[List.length_map]
 exact (vL G V hn (s:=s) ⟨by omega,by omega⟩ (G.val _ (bH (by omega) (by omega))) (AN G hy).1).2.1
theorem XY {x:Nat} {i:Nat} {e:EdT} {o:List UM} {y:ArT} {C:Nat} (hC:C<2 ^ a.2.1.length) (hy:y∈kp g.2 x) (hi:az ((kp g.2 x).map AY) (i:Int)=some (AY y)) (he:fC e y.1.2=some y.2.1) :
  ai (gA a (C:Int) ((kp g.2 x).map AY) (o,(i:Int)) e) aC (0,0)=some (.brk ((afS a y.2.1.toNat C a.2.1.length:Int),(a.2.1.length:Int))):=by
 obtain ⟨k0,k1⟩:=(AN G hy).1
 have:=aD (f:=gA a (C:Int) ((kp g.2 x).map AY) (o,(i:Int)) e) (fun q=>((afS a y.2.1.toNat C q:Int),(q:Int))) a.2.1.length (fun q hq=>by
  unfold gA
  simp only
  have he:fC (e.1,e.2.1,e.2.2.1,e.2.2.2) (AY y).2=some y.2.1:=he
  have ek:y.2.1=((y.2.1.toNat:Nat):Int):=by omega
  have em:=V.get2 (s:=(q:Int)) (k:=y.2.1.toNat) (by omega) (by omega) (by omega)
  rw[←ek] at em
  have hlt:=Oz V (k:=y.2.1.toNat) (C:=C) (by omega) q (by omega)
  have hC':C<2 ^ 62:=Nat.lt_of_lt_of_le hC (p62 (by omega))
  have hmv:=(V.mv (s:=(q:Int)) (k:=y.2.1.toNat) (by omega) (by omega) (by omega)).2
  rw[if_pos (by simp;omega),V.get (by omega) (by omega)];simp only[Option.bind_some]
  rw[hi];simp only[Option.bind_some]
  rw[he];simp only[Option.bind_some]
  rw[em];simp only[Option.bind_some]
  rw[iz (by omega),AK hC' (by omega),aa (by omega),afS];simp only[Option.bind_some]
  by_cases b:C.testBit q=true
  ·rw[if_pos b]
   by_cases c:0≤D.mv a (q:Int) y.2.1.toNat
   ·obtain ⟨t,ht⟩: ∃t:Nat,D.mv a (q:Int) y.2.1.toNat=(t:Int):=⟨_,(Int.toNat_of_nonneg c).symm⟩
    rw[if_pos (by simpa using c),if_pos ⟨b,c⟩,iz c,ht,wW (by omega),JH (Nat.lt_of_lt_of_le hlt (p62 (by omega))) (Nat.pow_lt_pow_right (by decide) (by omega))];rfl
   ·rw[if_neg (by simpa using c),if_neg (fun h=>c h.2)];rfl
  ·rw[if_neg b,if_neg (fun h=>b h.1)];rfl) (by unfold gA;simp) (mb (by omega))
 exact this
theorem XZ {x:Nat} {i:Nat} {e:EdT} {o:List UM} {y:ArT} {m:Nat} (hm:m<2 ^ a.2.1.length) (ho:o.length≤100000) (hi:az ((kp g.2 x).map AY) (i:Int)=some (AY y)) (he:ni e y.1.2=some y.2.2) {z:Int} :
  ai (gB a ((kp g.2 x).map AY) (o,(i:Int)) e ((m:Int),z)) aC (o,0)=some (.brk (o++(eE m 30).map (fun t=>(y.1,y.2.2,t)),(a.2.1.length:Int))):=by
 have:=aD (f:=gB a ((kp g.2 x).map AY) (o,(i:Int)) e ((m:Int),z)) (fun q=>(o++(eE m q).map (fun t=>(y.1,y.2.2,t)),(q:Int))) a.2.1.length (fun q hq=>by
  unfold gB
  simp only
  have he:ni (e.1,e.2.1,e.2.2.1,e.2.2.2) (AY y).2=some y.2.2:=he
  have hm':m<2 ^ 62:=Nat.lt_of_lt_of_le hm (p62 (by omega))
  have hl:=lV m q
  rw[if_pos (by simp;omega),iz (by omega),AK hm' (by omega),aa (by omega),jA];simp only[Option.bind_some]
  by_cases b:m.testBit q=true
  ·rw[if_pos b,if_pos b,hi];simp only[Option.bind_some]
   rw[he];simp only[Option.bind_some]
   rw[au (by simp;omega)];simp only[Option.bind_some,List.map_append,List.append_assoc];rfl
  ·rw[if_neg b,if_neg b];rfl) (by unfold gB;simp) (mb (by omega))
 rw[sD hm (show a.2.1.length≤30 by omega)]
 simpa [eE] using this
theorem UO {x s:Nat} (hx:x<g.1.length) (hs:s<a.2.1.length):jq g a x s=some (stV g a x s):=by
 have hv:=G.val _ (bH (xs:=g.1) (i:=(x:Int)) (by omega) (by omega))
 have ec:=Gg V hn (s:=(s:Int)) ⟨by omega,by omega⟩ hv
 have hC:=(pC V hn (s:=(s:Int)) ⟨by omega,by omega⟩ hv).2
 unfold jq
 rw[ak (by omega) (by omega)];simp only[Option.bind_some]
 have ec:eF (a.1,a.2.1,a.2.2) (s:Int) (nth g.1 (x:Int))=_:=ec
 have ef:oU (g.1,g.2) (x:Int)=_:=WG G
 rw[ec,ef];simp only[Option.bind_some]
 generalize hCC:cS a (s:Int) (nth g.1 (x:Int))=C at hC
 have l1:=sE g.2 x
 have hm:=G.m
 have:=aD (f:=gC g a (C:Int) ((kp g.2 x).map AY)) (fun i=>(((kp g.2 x).take i).flatMap (stA g a x s),(i:Int))) (kp g.2 x).length (fun i hi=>by
  unfold gC
  simp only
  have hy:=List.getElem_mem hi
  generalize hyy:(kp g.2 x)[i] =y at hy
  have hi2:az ((kp g.2 x).map AY) (i:Int)=some (AY y):=by rw[ah (by simpa using hi)];simp[hyy]
  obtain ⟨j,e,e1,e2,e3,e4⟩:=Rn G hy
  obtain ⟨k0,k1⟩:=(AN G hy).1
  rw[if_pos (by simp;omega),hi2];simp only[Option.bind_some]
  have e1:hY (g.1,g.2) (AY y).1=_:=e1
  rw[e1];simp only[Option.bind_some]
  rw[e2];simp only[Option.bind_some]
  rw[af (XY G V hn hC hy hi2 e3)]
  have hlt:=Oz V (k:=y.2.1.toNat) (C:=C) (by omega) a.2.1.length (Nat.le_refl _)
  have hol:=rP (f:=stA g a x s) (B:=30) (xs:=(kp g.2 x).take i) fun z hz=>UN G V hn hx hs (List.mem_of_mem_take hz)
  have hol2:((kp g.2 x).take i).length≤24:=by rw[List.length_take];omega
  rw[af (XZ G V hn hlt (by omega) hi2 e4),aa (by omega)]
  congr 3
  have et:(kp g.2 x).take (i+1)=(kp g.2 x).take i++ [y]:=by rw[List.take_add_one];simp[hi,hyy]
  rw[et,List.flatMap_append]
  congr 1
  simp only[List.flatMap_cons,List.flatMap_nil,List.append_nil]
  unfold stA behind
  rw[hCC,sD hC (show a.2.1.length≤30 by omega),Ik]) (by unfold gC;simp) (mb (by omega))
 rw[List.take_length] at this
 have this:ai (gC g a (C:Int) ((kp g.2 x).map AY)) aC (([] :List UM),0)=_:=this
 rw[af this];rfl
end
end D
namespace D
open Go.RowKit
abbrev BfT:=List Int×List Int
def Sv (d:Int) (s:BfT) (x:Int):BfT:=if nth s.1 x<0 then (s.1.set x.toNat d,s.2++ [x]) else s
def CA (d:Int) (s:BfT) (xs:List Int):BfT:=xs.foldl (Sv d) s
theorem Gh (d:Int) (s:BfT) (xs:List Int) (x:Int):CA d s (xs++ [x])=Sv d (CA d s xs) x:=by simp[CA]
structure BI (N:Nat) (s:BfT):Prop where
 len:s.1.length=N
 nd:s.2.Nodup
 rng: ∀x∈s.2,0≤x∧x<N
 seen: ∀x:Int,0≤x→x<N→(nth s.1 x<0↔x∉s.2)
 top: ∀x:Int,0≤x→x<N→ -1≤nth s.1 x∧nth s.1 x<s.2.length
theorem BI.le {N:Nat} {s:BfT} (h:BI N s):s.2.length≤N:=by
 have:=h.nd.length_le_of_subset (l₂:=(List.range N).map fun i:Nat=>(i:Int)) (fun x hx=>by
  obtain ⟨h0,h1⟩:=h.rng x hx
  exact List.mem_map.2 ⟨x.toNat,List.mem_range.2 (by omega),by omega⟩)
 simpa using this
theorem BI.one {N:Nat} {s:BfT} (h:BI N s) {d x:Int} (hx:0≤x∧x<N) (hd:0≤d∧d≤s.2.length):BI N (Sv d s x)∧s.2 <+:(Sv d s x).2∧ ∀y,0≤y→0≤nth s.1 y→nth (Sv d s x).1 y=nth s.1 y:=by
 unfold Sv
 split
 ·rename_i hn
  have hnot:=(h.seen x hx.1 hx.2).1 hn
  refine ⟨⟨by simp[h.len],?_,?_,?_,?_⟩,List.prefix_append _ _,?_⟩
  ·exact List.nodup_append.2 ⟨h.nd,by simp,by rintro a ha b hb rfl;simp at hb;exact hnot (hb ▸ ha)⟩
  ·intro y hy
   rcases List.mem_append.1 hy with hy | hy
   ·exact h.rng y hy
   ·obtain rfl:y=x:=by simpa using hy
    exact hx
  ·intro y h0 h1
   by_cases e:x=y
   ·subst e
    rw[ot hx.1 (by rw[h.len];exact hx.2)]
    simp;omega
   ·rw[sB hx.1 h0 e,h.seen y h0 h1]
    simp;omega
  ·intro y h0 h1
   by_cases e:x=y
   ·subst e
    rw[ot hx.1 (by rw[h.len];exact hx.2)]
    simp;omega
   ·rw[sB hx.1 h0 e]
    have:=h.top y h0 h1
    simp;omega
  ·intro y h0 h1
   refine sB hx.1 h0 ?_
   rintro rfl
   omega
 ·exact ⟨h,List.prefix_refl _,fun y _ _=>rfl⟩
theorem BI.all {N:Nat} {d:Int} : ∀ {xs:List Int} {s:BfT},BI N s→(∀x∈xs,0≤x∧x<N)→(0≤d∧d≤s.2.length)→BI N (CA d s xs)∧s.2 <+:(CA d s xs).2∧ ∀y,0≤y→0≤nth s.1 y→nth (CA d s xs).1 y=nth s.1 y
 | [],s,h,_,_=>⟨h,List.prefix_refl _,fun _ _ _=>rfl⟩
 | x::xs,s,h,hx,hd=>by
  obtain ⟨h1,h2,h3⟩:=h.one (hx x (by simp)) hd
  have hl:=h2.length_le
  obtain ⟨k1,k2,k3⟩:=BI.all (xs:=xs) h1 (fun y hy=>hx y (by simp[hy])) ⟨hd.1,by omega⟩
  refine ⟨k1,h2.trans k2,fun y h0 hy=>?_⟩
  have e:=h3 y h0 hy
  exact (k3 y h0 (by rw[e];exact hy)).trans e
def bsS (nx:Int→List Int) (N:Nat) (v:Int):Nat→BfT
 | 0=>((List.replicate N (-1)).set v.toNat 0,[v])
 | i+1=>match (bsS nx N v i).2[i]? with
  | some x=>CA (nth (bsS nx N v i).1 x+1) (bsS nx N v i) (nx x)
  | none=>bsS nx N v i
section
variable {nx:Int→List Int} {N:Nat} {v:Int} (hv:0≤v∧v<N) (hn: ∀x:Int,0≤x→x<N→ ∀y∈nx x,0≤y∧y<N)
include hv
theorem UP {x:Int} (h0:0≤x) (h1:x<N):nth (List.replicate N (-1:Int)) x= -1:=by
 have:x.toNat<N:=by omega
 simp[nth,List.getD_eq_getElem?_getD,List.getElem?_replicate,this]
theorem BI.zero:BI N (bsS nx N v 0):=by
 refine ⟨by simp[bsS],by simp[bsS],fun x hx=>?_,fun x h0 h1=>?_,fun x h0 h1=>?_⟩
 ·obtain rfl:x=v:=by simpa [bsS] using hx
  exact hv
 all_goals
  unfold bsS
  by_cases e:v=x
  ·subst e
   rw[ot hv.1 (by simpa using hv.2)]
   simp
  ·rw[sB hv.1 h0 e,UP hv h0 h1]
   first | omega | (simp;omega) | simp
include hn
theorem DV {i:Nat} (h:BI N (bsS nx N v i)):BI N (bsS nx N v (i+1))∧(bsS nx N v i).2 <+:(bsS nx N v (i+1)).2:=by
 rw[bsS]
 split
 ·rename_i x hx
  have hm:=List.mem_of_getElem? hx
  obtain ⟨x0,x1⟩:=h.rng x hm
  have hp: ¬nth (bsS nx N v i).1 x<0:=fun c=>(h.seen x x0 x1).1 c hm
  have ht:=h.top x x0 x1
  obtain ⟨k1,k2,_⟩:=h.all (xs:=nx x) (d:=nth (bsS nx N v i).1 x+1) (hn x x0 x1) ⟨by omega,by omega⟩
  exact ⟨k1,k2⟩
 ·exact ⟨h,List.prefix_refl _⟩
theorem AP: ∀i,BI N (bsS nx N v i)
 | 0=>BI.zero hv
 | i+1=>(DV hv hn (AP i)).1
theorem OD: ∃K,K≤N∧K=(bsS nx N v K).2.length∧ ∀i,i<K→i<(bsS nx N v i).2.length:=by
 have key: ∀m i,i+m=N→(∀j,j<i→j<(bsS nx N v j).2.length)→ ∃K,K≤N∧K=(bsS nx N v K).2.length∧ ∀i,i<K→i<(bsS nx N v i).2.length:=by
  have hge: ∀i,(∀j,j<i→j<(bsS nx N v j).2.length)→i≤(bsS nx N v i).2.length:=by
   intro i hj
   cases i with
   | zero=>omega
   | succ i =>
    have:=hj i (by omega)
    have hp:=(DV hv hn (AP hv hn i)).2.length_le
    omega
  intro m
  induction m with
  | zero =>
   intro i hi hj
   have h1:=(AP hv hn i).le
   have h2:=hge i hj
   exact ⟨i,by omega,by omega,hj⟩
  | succ m ih =>
   intro i hi hj
   by_cases h:i<(bsS nx N v i).2.length
   ·exact ih (i+1) (by omega) fun j hj'=>by
     by_cases e:j=i
     ·subst e;exact h
     ·exact hj j (by omega)
   ·have h2:=hge i hj
    exact ⟨i,by omega,by omega,hj⟩
 exact key N 0 (by omega) (by omega)
end
end D
namespace D
open Go.RowKit
theorem UQ:(List.range 61).all (fun N=>decide (bF [-1] (N:Int)=some (List.replicate N (-1))))=true:=by kernel_rfl
theorem X0 {N:Nat} (h:N≤60):bF [-1] (N:Int)=some (List.replicate N (-1)):=
 of_decide_eq_true (List.all_eq_true.1 UQ N (List.mem_range.2 (by omega)))
theorem Ro {α:Type} {xs:List α} {i:Nat} {x:α} (h:i≤xs.length):(xs++ [x]).drop i=xs.drop i++ [x]:=List.drop_append_of_le_length h
theorem CB {α:Type} {xs:List α} {i:Nat} {x:α} (h:xs[i]? =some x):az (xs.drop i) 0=some x:=by
 unfold az
 rw[if_pos (by decide)]
 simpa using h
section
variable {nx:Int→List Int} {N:Nat} {v:Int} (hN:N≤60) (hv:0≤v∧v<N) (hn: ∀x:Int,0≤x→x<N→ ∀y∈nx x,0≤y∧y<N) (hl: ∀x,(nx x).length≤100000)
include hN hv hn hl
theorem UR {i:Nat} {x:Int} (hx:(bsS nx N v i).2[i]? =some x) (j:Nat) :
  BI N (CA (nth (bsS nx N v i).1 x+1) (bsS nx N v i) ((nx x).take j))∧(CA (nth (bsS nx N v i).1 x+1) (bsS nx N v i) ((nx x).take j)).2[i]? =some x∧nth (CA (nth (bsS nx N v i).1 x+1) (bsS nx N v i) ((nx x).take j)).1 x=nth (bsS nx N v i).1 x∧(0≤x∧x<N)∧(0≤nth (bsS nx N v i).1 x∧nth (bsS nx N v i).1 x<60)∧i<(CA (nth (bsS nx N v i).1 x+1) (bsS nx N v i) ((nx x).take j)).2.length:=by
 have h:=AP hv hn i
 have hm:=List.mem_of_getElem? hx
 obtain ⟨x0,x1⟩:=h.rng x hm
 have hp: ¬nth (bsS nx N v i).1 x<0:=fun c=>(h.seen x x0 x1).1 c hm
 have ht:=h.top x x0 x1
 have hle:=h.le
 obtain ⟨k1,k2,k3⟩:=h.all (xs:=(nx x).take j) (d:=nth (bsS nx N v i).1 x+1) (fun y hy=>hn x x0 x1 y (List.mem_of_mem_take hy)) ⟨by omega,by omega⟩
 obtain ⟨t,ht'⟩:=k2
 have hi:=(List.getElem?_eq_some_iff.1 hx).1
 have e:(CA (nth (bsS nx N v i).1 x+1) (bsS nx N v i) ((nx x).take j)).2[i]? =some x:=by
  rw[←ht',List.getElem?_append_left hi,hx]
 exact ⟨k1,e,k3 x x0 (by omega),⟨x0,x1⟩,⟨by omega,by omega⟩,(List.getElem?_eq_some_iff.1 e).1⟩
theorem X1 {i:Nat} {x:Int} (hx:(bsS nx N v i).2[i]? =some x) :
  ai (j5 (nx x)) aC ((bsS nx N v i).2.drop i,0,(bsS nx N v i).1)=some (.brk ((bsS nx N v (i+1)).2.drop i,((nx x).length:Int),(bsS nx N v (i+1)).1)):=by
 have:=aD (f:=j5 (nx x)) (fun j=>((CA (nth (bsS nx N v i).1 x+1) (bsS nx N v i) ((nx x).take j)).2.drop i,(j:Int),(CA (nth (bsS nx N v i).1 x+1) (bsS nx N v i) ((nx x).take j)).1)) (nx x).length (fun j hj=>by
  have hlx:=hl x
  obtain ⟨k1,k2,k3,⟨x0,x1⟩,k4,k5⟩:=UR hN hv hn hl hx j
  have hy:=hn x x0 x1 _ (bH (xs:=nx x) (i:=(j:Int)) (by omega) (by omega))
  unfold j5
  simp only
  rw[um hj,Gh]
  generalize CA (nth (bsS nx N v i).1 x+1) (bsS nx N v i) ((nx x).take j)=s at k1 k2 k3 k5
  have hle:=k1.le
  have hlen:=k1.len
  rw[if_pos (by simp;omega),ak (by omega) (by omega)];simp only[Option.bind_some]
  rw[ak (xs:=s.1) hy.1 (by omega)];simp only[Option.bind_some]
  rw[CB k2];simp only[Option.bind_some]
  rw[ak (xs:=s.1) x0 (by omega)];simp only[Option.bind_some]
  rw[au (by simp;omega),aa (by omega),k3,cB (by omega) (by omega)]
  unfold Sv
  by_cases c:nth s.1 (nth (nx x) (j:Int))<0
  ·rw[if_pos (by simpa using c),if_pos c,Ro (by omega)];rfl
  ·rw[if_neg (by simpa using c),if_neg c];rfl) (by unfold j5;simp) (mb (by have:=hl x;omega))
 rw[List.take_length] at this
 have e:bsS nx N v (i+1)=CA (nth (bsS nx N v i).1 x+1) (bsS nx N v i) (nx x):=by rw[bsS,hx]
 rw[e]
 exact this
theorem Rp {K:Nat} (hK:K≤N) (hE:K=(bsS nx N v K).2.length) (hR: ∀i,i<K→i<(bsS nx N v i).2.length):sv (rm N fun z=>nx (z:Int)) [v] =some (bsS nx N v K).1:=by
 unfold sv
 rw[AL,X0 hN];simp only[Option.bind_some]
 have e0:ai (j4 [v]) aC (([] :List Int),0,List.replicate N (-1))=some (.brk ([v],1,(bsS nx N v 0).1)):=by
  have:=aD (f:=j4 [v]) (fun j=>if j=0 then (([] :List Int),(0:Int),List.replicate N (-1:Int)) else ([v],1,(bsS nx N v 0).1)) 1 (fun j hj=>by
   obtain rfl:j=0:=by omega
   unfold j4
   simp only[if_true]
   rw[if_pos (by simp),show az [v] 0=some v from rfl];simp only[Option.bind_some]
   rw[ak (xs:=List.replicate N (-1)) hv.1 (by simpa using hv.2)];simp only[Option.bind_some]
   rw[au (by simp)];rfl) (by unfold j4;simp) (by unfold aC;omega)
  exact this
 rw[af e0]
 have:=aD (f:=j6 (rm N fun z=>nx (z:Int))) (fun i=>((bsS nx N v i).2.drop i,(bsS nx N v i).1)) K (fun i hi=>by
  have hi2:=hR i hi
  obtain ⟨x,hx⟩: ∃x,(bsS nx N v i).2[i]? =some x:=⟨_,List.getElem?_eq_getElem hi2⟩
  obtain ⟨k1,k2,k3,⟨x0,x1⟩,k4,k5⟩:=UR hN hv hn hl hx 0
  unfold j6
  simp only
  rw[if_pos (by simp;omega),CB hx];simp only[Option.bind_some]
  obtain ⟨z,rfl⟩: ∃z:Nat,x=(z:Int):=⟨_,(Int.toNat_of_nonneg x0).symm⟩
  rw[AM (by omega)];simp only[Option.bind_some]
  rw[af (X1 hN hv hn hl hx)]
  have hp:=(DV hv hn (AP hv hn i)).2.length_le
  rw[iz (by simp;omega)];simp only[Option.bind_some]
  rw[List.drop_drop]) (by
  unfold j6
  rw[if_neg (by simp;omega)]) (mb (by omega))
 have this:ai (j6 (rm N fun z=>nx (z:Int))) aC ([v],(bsS nx N v 0).1)=_:=this
 rw[af this]
end
end D
namespace D
open Go.RowKit
theorem DW {n:Nat} {r:List Int} :(∀t∈r,-1≤t∧t≤(n:Int) - 1)↔ ∀t∈r,-1≤t∧t<(n:Int):=forall_congr' fun t=>forall_congr' fun _=>and_congr Iff.rfl (by omega)
theorem WI (a:AutT) (h1:a.2.1.length≤9223372036854775807) (h2:a.2.2.length≤9223372036854775807): ∃b,nh a=some b∧(b=true↔VA a a.2.1.length):=by
 unfold nh
 rw[OY];simp only[Option.bind_some,nE h1]
 by_cases c1:0≤a.1∧a.1≤(a.2.1.length:Int) - 1
 case neg=>exact ⟨false,by rw[if_neg (by simpa using c1)],by simp;exact fun h=>c1 ⟨h.start.1,by have:=h.start.2;omega⟩⟩
 rw[if_pos (by simpa using c1)]
 by_cases c2:a.2.2.length=a.2.1.length
 case neg=>exact ⟨false,by rw[if_pos (by simp;omega)],by simp;exact fun h=>c2 h.nlen⟩
 rw[if_neg (by simp;omega)]
 have inner: ∀i:Nat,i<a.2.2.length→(nth a.2.2 i).length=9→(ai (fU a i) aC 0=some (.brk 9)∧ ∀t∈nth a.2.2 (i:Int),-1≤t∧t≤(a.2.1.length:Int) - 1)∨(ai (fU a i) aC 0=some (.ret false)∧ ¬ ∀t∈nth a.2.2 (i:Int),-1≤t∧t≤(a.2.1.length:Int) - 1):=by
  intro i hi hr
  have:=scan (f:=fU a i) (nth a.2.2 (i:Int)) (fun t=> -1≤t∧t≤(a.2.1.length:Int) - 1) false (by omega) (fun j hj=>by
   unfold fU
   rw[if_pos (by simp;omega),ak (by omega) (by omega)];simp only[Option.bind_some]
   rw[ak (by omega) (by omega)];simp only[Option.bind_some,nE h1]
   rw[OY];simp only[Option.bind_some,aa (show j<9223372036854775807 by omega)]
   by_cases c: -1≤nth (nth a.2.2 (i:Int)) (j:Int)∧nth (nth a.2.2 (i:Int)) (j:Int)≤(a.2.1.length:Int) - 1
   ·rw[if_pos (by simpa using c),if_pos c]
   ·rw[if_neg (by simpa using c),if_neg c]) (by unfold fU;rw[if_neg (by simp[hr])])
  rwa [hr] at this
 have outer:=scan (f:=lj a) a.2.2 (fun r=>r.length=9∧ ∀t∈r,-1≤t∧t≤(a.2.1.length:Int) - 1) false h2 (fun i hi=>by
  unfold lj
  rw[if_pos (by simp;omega),ak (by omega) (by omega)];simp only[Option.bind_some]
  by_cases c:(nth a.2.2 (i:Int)).length=9
  ·rw[if_neg (by simp;omega)]
   rcases inner i hi c with ⟨e,k⟩ | ⟨e,k⟩
   ·rw[af e,if_pos ⟨c,k⟩,aa (show i<9223372036854775807 by omega)]
   ·rw[aT e,if_neg (fun h=>k h.2)]
  ·rw[if_pos (by simp;omega),if_neg (fun h=>c h.1)]) (by unfold lj;rw[if_neg (by simp;omega)])
 rcases outer with ⟨e,k⟩ | ⟨e,k⟩
 ·exact ⟨true,by rw[af e],by simp;exact ⟨rfl,⟨c1.1,by omega⟩,c2,fun r hr=>(k r hr).1,fun r hr=>DW.1 (k r hr).2⟩⟩
 ·exact ⟨false,by rw[aT e],by simp;exact fun h=>k fun r hr=>⟨h.row r hr,DW.2 (h.ent r hr)⟩⟩
theorem US (a:AutT) (h1:a.2.1.length≤9223372036854775807) (h2:a.2.2.length≤9223372036854775807): ∃b,cy a=some b∧(b=true↔a.2.1.length≤12∧VA a a.2.1.length):=by
 unfold cy
 by_cases c:a.2.1.length≤12
 ·rw[if_pos (by simp;omega)]
  obtain ⟨b,e,hb⟩:=WI a h1 h2
  exact ⟨b,by show (nh a).bind _=_;rw[e];rfl,by rw[hb];simp[c]⟩
 ·exact ⟨false,by rw[if_neg (by simp;omega)],by simp;exact fun h=>absurd h c⟩
theorem UT (a:AutT) (h1:a.2.1.length≤9223372036854775807) (h2:a.2.2.length≤9223372036854775807) (h3: ∀r∈a.2.2,r.length≤9223372036854775807): ∃b,bQ a=some b∧(b=true↔a.2.1.length≤12∧VA a a.2.1.length):=by
 unfold bQ
 rw[Ea];simp only[Option.bind_some,nE h1]
 by_cases c0:1≤(a.2.1.length:Int)∧(a.2.1.length:Int)≤12
 case neg=>exact ⟨false,by rw[if_neg (by simpa using c0)],by simp;exact fun h h'=>c0 ⟨by have:=h'.start;omega,by omega⟩⟩
 rw[if_pos (by simpa using c0),Ea];simp only[Option.bind_some]
 by_cases c1:0≤a.1∧a.1≤(a.2.1.length:Int) - 1
 case neg=>exact ⟨false,by rw[if_neg (by simpa using c1)],by simp;exact fun _ h=>c1 ⟨h.start.1,by have:=h.start.2;omega⟩⟩
 rw[if_pos (by simpa using c1)]
 by_cases c2:a.2.2.length=a.2.1.length
 case neg=>exact ⟨false,by rw[if_pos (by simp;omega)],by simp;exact fun _ h=>c2 h.nlen⟩
 rw[if_neg (by simp;omega)]
 have inner: ∀x:List Int,x.length≤9223372036854775807→(ai (bK a x) aC 0=some (.brk (x.length:Int))∧ ∀t∈x,-1≤t∧t≤(a.2.1.length:Int) - 1)∨(ai (bK a x) aC 0=some (.ret false)∧ ¬ ∀t∈x,-1≤t∧t≤(a.2.1.length:Int) - 1):=by
  intro x hx
  refine scan (f:=bK a x) x (fun t=> -1≤t∧t≤(a.2.1.length:Int) - 1) false hx (fun j hj=>?_) (by unfold bK;rw[if_neg (by simp)])
  unfold bK
  rw[if_pos (by simp;omega),ak (by omega) (by omega)];simp only[Option.bind_some,nE h1]
  rw[Ea];simp only[Option.bind_some,aa (show j<9223372036854775807 by omega)]
  by_cases c: -1≤nth x (j:Int)∧nth x (j:Int)≤(a.2.1.length:Int) - 1
  ·rw[if_pos (by simpa using c),if_pos c]
  ·rw[if_neg (by simpa using c),if_neg c]
 have outer:=scan (f:=du a) a.2.2 (fun r=>(∀t∈r,-1≤t∧t≤(a.2.1.length:Int) - 1)∧r.length=9) false h2 (fun i hi=>by
  unfold du
  rw[if_pos (by simp;omega),ak (by omega) (by omega)];simp only[Option.bind_some]
  rcases inner (nth a.2.2 (i:Int)) (h3 _ (bH (by omega) (by omega))) with ⟨e,k⟩ | ⟨e,k⟩
  ·rw[af e]
   by_cases c:(nth a.2.2 (i:Int)).length=9
   ·rw[if_neg (by simp;omega),if_pos ⟨k,c⟩,aa (show i<9223372036854775807 by omega)]
   ·rw[if_pos (by simp;omega),if_neg (fun h=>c h.2)]
  ·rw[aT e,if_neg (fun h=>k h.1)]) (by unfold du;rw[if_neg (by simp)])
 rcases outer with ⟨e,k⟩ | ⟨e,k⟩
 ·exact ⟨true,by rw[af e],by simp;exact ⟨by omega,rfl,⟨c1.1,by omega⟩,c2,fun r hr=>(k r hr).2,fun r hr=>DW.1 (k r hr).1⟩⟩
 ·exact ⟨false,by rw[aT e],by simp;exact fun _ h=>k fun r hr=>⟨DW.2 (h.ent r hr),h.row r hr⟩⟩
end D
end Go.Proofs.YtakjhbbbjbebdaaGreat
