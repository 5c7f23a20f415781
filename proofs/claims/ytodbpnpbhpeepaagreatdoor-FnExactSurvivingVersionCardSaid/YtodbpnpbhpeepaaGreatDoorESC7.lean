/- FnExactSurvivingVersion: for every input the law returns true and changes nothing that was there. Part 8 of 9. -/
import Derived.Test.YtodbpnpbhpeepaaGreatDoorESC6
set_option linter.unusedVariables false
set_option linter.unusedSimpArgs false
set_option linter.unnecessarySimpa false
set_option linter.unusedSectionVars false
set_option maxRecDepth 1000000
namespace Go.Proofs.YtodbpnpbhpeepaaGreatDoor
open Go.IntKind (i64)
namespace D
open Go.RowKit
theorem vQ (g:GrT):cV g=bG g:=by
 have h0:nl g=dZ g:=rfl
 have h1:jC g=c8 g:=by
  funext s
  unfold jC c8
  split
  ·cases hx:aT g.2 s with
   | none=>rfl
   | some x=>rfl
  ·rfl
 unfold cV bG
 rw[h0,h1];rfl
def Yi (g:GrT) (a:AutT):Prop:=GOk g/\a.2.1.length<=12/\VA a a.2.1.length
section
variable {g:GrT} {a:AutT} (H:Yi g a)
include H
end
section
variable {g:GrT} {a:AutT} (H:Yi g a)
include H
end
section
variable {g:GrT} {a:AutT} (H:Yi g a) {x:Int} (hx:0<=x/\x<g.1.length)
include H hx
end
end D
namespace D
open Go.RowKit
abbrev Tok:=Int×Int×Int×Int
def ar (t:Tok):Int:=
 if t.1=1\/t.1=2 then (if t.2.1=0/\t.2.2.1=0/\t.2.2.2=0 then 0 else -1)
 else if t.1=3 then (if (0<=t.2.1/\t.2.1<=8)/\t.2.2.1=0/\t.2.2.2=0 then 0 else -1)
 else if t.1=4\/t.1=5 then (if t.2.1=0/\t.2.2.1=0/\t.2.2.2=0 then 2 else -1)
 else if t.1=6 then (if t.2.1=0/\t.2.2.1=0/\t.2.2.2=0 then 1 else -1)
 else if t.1=7 then (if t.2.1=0/\(0<=t.2.2.1/\t.2.2.1<=t.2.2.2)/\(1<=t.2.2.2/\t.2.2.2<=3) then 1 else -1)
 else -1
theorem Q8 (x:Int):lV x=some (decide (0<=x/\x<=8)):=by unfold lV;rw[La];rfl
theorem Q9 (x:Int):jH x=some (decide (0<=x/\x<=8)):=by unfold jH;rw[Gc];rfl
theorem Y7 (t:Tok):nr t=some (ar t):=by
 obtain ⟨k,l,lo,hi⟩:=t
 unfold nr ar
 simp only[Q8,La,aa]
 by_cases h1:k=1
 ·subst h1;simp;grind
 by_cases h2:k=2
 ·subst h2;simp;grind
 by_cases h3:k=3
 ·subst h3;simp;grind
 by_cases h4:k=4
 ·subst h4;simp;grind
 by_cases h5:k=5
 ·subst h5;simp;grind
 by_cases h6:k=6
 ·subst h6;simp;grind
 by_cases h7:k=7
 ·subst h7;simp;grind
 simp[h1,h2,h3,h4,h5,h6,h7]
theorem WJ (t:Tok):pR t=some (decide (0<=ar t)):=by
 obtain ⟨k,l,lo,hi⟩:=t
 unfold pR ar
 simp only[Q9,Gc,aa]
 by_cases h1:k=1
 ·subst h1;simp;grind
 by_cases h2:k=2
 ·subst h2;simp;grind
 by_cases h3:k=3
 ·subst h3;simp only[]
  by_cases a:0<=l/\l<=8 <;> by_cases b:lo=0 <;> by_cases c:hi=0 <;> simp[a,b,c]
 by_cases h4:k=4
 ·subst h4;simp;grind
 by_cases h5:k=5
 ·subst h5;simp;grind
 by_cases h6:k=6
 ·subst h6;simp;grind
 by_cases h7:k=7
 ·subst h7;simp only[]
  by_cases a:l=0 <;> by_cases b:0<=lo/\lo<=hi <;> by_cases c:1<=hi/\hi<=3 <;> simp[a,b,c]
 simp[h1,h2,h3,h4,h5,h6,h7]
theorem vR (t:Tok): -1<=ar t/\ar t<=2:=by
 unfold ar
 grind
theorem nV {t:Tok} (h:0<=ar t):(ar t=2/\(t.1=4\/t.1=5))\/(ar t=1/\(t.1=6\/t.1=7))\/(ar t=0/\(t.1=1\/t.1=2\/t.1=3)):=by
 unfold ar at h⊢
 grind
theorem AU {t:Tok} (h:0<=ar t) (k:t.1=7):(0<=t.2.2.1/\t.2.2.1<=t.2.2.2)/\(1<=t.2.2.2/\t.2.2.2<=3):=by
 unfold ar at h
 grind
mutual
def flat:Tr Tok->List Tok
 | .nil=>[]
 | .node t ks=>jF ks++ [t]
def jF:List (Tr Tok)->List Tok
 | [] =>[]
 | k::ks=>flat k++jF ks
end
inductive WT:Tr Tok->Prop
 | node {t:Tok} {ks:List (Tr Tok)} :ar t=(ks.length:Int)->(∀k,k∈ks->WT k)->WT (.node t ks)
theorem pF: ∀(a b:List (Tr Tok)),jF (a++b)=jF a++jF b
 | [],b=>rfl
 | k::a,b=>by rw[List.cons_append,jF,jF,pF a b,ai]
theorem l6 (x:Tr Tok):jF [x] =flat x:=by rw[jF,jF,List.append_nil]
theorem Ok (x y:Tr Tok):jF [x,y] =flat x++flat y:=by rw[jF,l6]
theorem WT.cases {x:Tr Tok} (h:WT x):(∃t,x= .node t [] /\ar t=0)\/(∃t a,x= .node t [a] /\ar t=1/\WT a)\/ ∃t a b,x= .node t [a,b] /\ar t=2/\WT a/\WT b:=by
 cases h with
 | @node t ks h1 h2 =>
  have:=(vR t).2
  match ks,h1,h2 with
  | [],h1,h2=>exact .inl ⟨t,rfl,h1⟩
  | [a],h1,h2=>exact .inr (.inl ⟨t,a,rfl,h1,h2 a (by simp)⟩)
  | [a,b],h1,h2=>exact .inr (.inr ⟨t,a,b,rfl,h1,h2 a (by simp),h2 b (by simp)⟩)
  | _::_::_::_,h1,h2=>simp at h1;omega
theorem WT.ind {p:Tr Tok->Prop} (h0: ∀t,ar t=0->p (.node t [])) (h1: ∀t a,ar t=1->WT a->p a->p (.node t [a])) (h2: ∀t a b,ar t=2->WT a->WT b->p a->p b->p (.node t [a,b])) {x:Tr Tok} (h:WT x):p x:=by
 induction h with
 | @node t ks e k ih =>
  have:=(vR t).2
  match ks,e,k,ih with
  | [],e,k,ih=>exact h0 t e
  | [a],e,k,ih=>exact h1 t a e (k a (by simp)) (ih a (by simp))
  | [a,b],e,k,ih=>exact h2 t a b e (k a (by simp)) (k b (by simp)) (ih a (by simp)) (ih b (by simp))
  | _::_::_::_,e,_,_=>simp at e;omega
theorem BJ (t:Tok):flat (.node t [])= [t]:=by rw[flat,jF];rfl
theorem DS (t:Tok) (a:Tr Tok):flat (.node t [a])=flat a++ [t]:=by rw[flat,l6]
theorem uH (t:Tok) (a b:Tr Tok):flat (.node t [a,b])=(flat a++flat b)++ [t]:=by rw[flat,Ok]
theorem WT.pos {x:Tr Tok} (h:WT x):1<=(flat x).length:=by
 cases h with
 | node h1 h2=>rw[flat];simp
def stp (s:List (Tr Tok)) (t:Tok):Option (List (Tr Tok)):=if ar t<0\/(s.length:Int)<ar t then none else some (s.take (s.length - (ar t).toNat)++ [.node t (s.drop (s.length - (ar t).toNat))])
def run:List (Tr Tok)->List Tok->Option (List (Tr Tok))
 | s,[] =>some s
 | s,t::l=>(stp s t).bind fun s'=>run s' l
theorem DT: ∀(a:List Tok) {b:List Tok} {s:List (Tr Tok)},run s (a++b)=(run s a).bind fun s'=>run s' b
 | [],b,s=>rfl
 | t::a,b,s=>by
  rw[List.cons_append,run,run]
  cases stp s t with
  | none=>rfl
  | some s'=>exact DT a
theorem vS {a:List Tok} {t:Tok} {s:List (Tr Tok)} :run s (a++ [t])=(run s a).bind fun s'=>stp s' t:=by
 rw[DT]
 congr 1
 funext s'
 rw[run]
 cases stp s' t <;> rfl
theorem SA: ∀ {l:List Tok} {s s':List (Tr Tok)},run s l=some s'->(∀k,k∈s->WT k)->(∀k,k∈s'->WT k)/\jF s'=jF s++l
 | [],s,s',h,hs=>by
  obtain rfl:=ae h
  exact ⟨hs,by simp⟩
 | t::l,s,s',h,hs=>by
  rw[run] at h
  unfold stp at h
  by_cases c:ar t<0\/(s.length:Int)<ar t
  ·rw[if_pos c] at h;cases h
  ·rw[if_neg c] at h
   have hlen:(s.drop (s.length - (ar t).toNat)).length=(ar t).toNat:=by rw[aR];omega
   obtain ⟨k1,k2⟩:=SA (show run _ l=some s' from h) fun k hk=>by
    rcases aD hk with hk | hk
    ·exact hs k (List.mem_of_mem_take hk)
    ·obtain rfl:=aq hk
     exact .node (by rw[hlen];omega) fun k hk=>hs k (List.mem_of_mem_drop hk)
   refine ⟨k1,?_⟩
   rw[k2,pF,l6,flat,<-ai,<-pF,List.take_append_drop]
   simp
theorem Ra {x:Tr Tok} (h:WT x): ∀s,run s (flat x)=some (s++ [x]):=by
 refine WT.ind (p:=fun x=> ∀s,run s (flat x)=some (s++ [x])) ?_ ?_ ?_ h
 ·intro t e s
  rw[BJ,run,stp,if_neg (by omega),e]
  simp[run]
 ·intro t a e _ ia s
  rw[DS,vS,ia]
  show stp (s++ [a]) t=_
  rw[stp,if_neg (by simp;omega),e]
  simp
 ·intro t a b e _ _ ia ib s
  rw[uH,vS,DT,ia]
  show ((run (s++ [a]) (flat b)).bind fun s'=>stp s' t)=_
  rw[ib]
  show stp (s++ [a] ++ [b]) t=_
  rw[stp,if_neg (by simp;omega),e]
  have:(s++ [a] ++ [b]).length - (2:Int).toNat=s.length:=by simp
  rw[this]
  simp
def isX (e:List Tok):Bool:=match run [] e with
 | some [_] =>true
 | _=>false
theorem Ol {e:List Tok} (h:isX e=true): ∃x,run [] e=some [x] /\WT x/\flat x=e:=by
 unfold isX at h
 split at h
 ·rename_i x hx
  obtain ⟨k1,k2⟩:=SA hx (fun k hk=>by cases hk)
  refine ⟨x,hx,k1 x (by simp),?_⟩
  rw[l6] at k2
  rw[k2];rfl
 ·cases h
theorem Om {l:List Tok} : ∀ {s s':List (Tr Tok)},run s l=some s'->s'.length<=s.length+l.length:=by
 induction l with
 | nil=>intro s s' h;obtain rfl:=ae h;simp
 | cons t l ih =>
  intro s s' h
  rw[run] at h
  obtain ⟨s1,h1,h2⟩:=Option.bind_eq_some_iff.1 h
  have h3:=ih h2
  unfold stp at h1
  split at h1
  ·cases h1
  ·obtain rfl:=ae h1
   simp only[aw,aA,al,aC] at h3⊢
   omega
theorem AW {e:List Tok} {i:Nat} (h:i<e.length):e.take (i+1)=e.take i++ [nth e (i:Int)]:=by
 rw[List.take_succ_eq_append_getElem h,bN h]
theorem yM {e:List Tok} {i:Nat} (h:i<e.length) {st:List (Tr Tok)} (h1:run [] (e.take i)=some st) (h2:stp st (nth e (i:Int))=none):run [] e=none:=by
 have:run [] (e.take (i+1))=none:=by rw[AW h,vS,h1];exact h2
 rw[<-List.take_append_drop (i+1) e,DT,this];rfl
theorem Rb {e:List Tok} (he:e.length<=1048576):sH e=some (isX e):=by
 obtain ⟨o,eo,hq⟩:=cK (f:=pU e) (fun i s=> ∃st,s=((st.length:Int),(i:Int))/\run [] (e.take i)=some st) (fun o=>(o= .ret false/\run [] e=none)\/ ∃st,o= .brk ((st.length:Int),(e.length:Int))/\run [] e=some st) e.length (s:=(0,0)) (by
  rintro i s hi ⟨st,rfl,hst⟩
  have hl:=Om hst
  simp only[aC,aA] at hl
  unfold pU
  simp only[dQ]
  by_cases c:i<e.length
  ·rw[if_pos (by simp;omega),aK (by omega) (by omega)];simp only[aa]
   rw[Y7];simp only[aa]
   have hr:=vR (nth e (i:Int))
   by_cases c1:ar (nth e (i:Int))<0
   ·refine .inr ⟨_,by rw[if_pos (by simpa using c1)],(fun s' e=>by cases e),.inl ⟨rfl,yM c hst ?_⟩⟩
    rw[stp,if_pos (.inl c1)]
   ·rw[if_neg (by simpa using c1)]
    by_cases c2:ar (nth e (i:Int))>(st.length:Int)
    ·refine .inr ⟨_,by rw[if_pos (by simpa using c2)],(fun s' e=>by cases e),.inl ⟨rfl,yM c hst ?_⟩⟩
     rw[stp,if_pos (.inr c2)]
    ·rw[if_neg (by simpa using c2)]
     refine .inl ⟨c,_,rfl,st.take (st.length - (ar (nth e (i:Int))).toNat)++ [.node (nth e (i:Int)) (st.drop (st.length - (ar (nth e (i:Int))).toNat))],?_,?_⟩
     ·rw[fe (n:=(st.length:Int) - ar (nth e (i:Int))) (by omega) (by omega),fe (by omega) (by omega),ah (by omega)]
      congr 1
      simp only[aw,aA,al,aC]
      omega
     ·rw[AW c,vS,hst]
      show stp st _=_
      rw[stp,if_neg (by omega)]
  ·obtain rfl:i=e.length:=by omega
   rw[List.take_of_length_le (by omega)] at hst
   exact .inr ⟨_,by rw[if_neg (by simp)],(fun s' e=>by cases e),.inr ⟨st,rfl,hst⟩⟩) ⟨[],rfl,rfl⟩ (uP (by omega))
 unfold sH
 rcases hq with ⟨rfl,h⟩ | ⟨st,rfl,h⟩
 ·rw[cg eo];unfold isX;rw[h]
 ·rw[aG eo];unfold isX;rw[h]
  match st with
  | [] =>rfl
  | [_] =>rfl
  | _::_::_=>simp;omega
theorem Yj {t:Tok} (h:0<=ar t):(Option.bind ((if t.1==4 then (some (t.1==4)) else (some (t.1==5)):Option Bool)) (fun s3=>if s3 then (some 2) else (Option.bind ((if t.1==6 then (some (t.1==6)) else (some (t.1==7)):Option Bool)) (fun s4=>if s4 then (some 1) else (some 0)))):Option Int)=some (ar t):=by
 rcases nV h with ⟨e,k | k⟩ | ⟨e,k | k⟩ | ⟨e,k | k | k⟩ <;> rw[e] <;> simp[k]
theorem U3 (t:Tok): ∃n:Int,(Option.bind ((if t.1==4 then (some (t.1==4)) else (some (t.1==5)):Option Bool)) (fun s3=>if s3 then (some 2) else (Option.bind ((if t.1==6 then (some (t.1==6)) else (some (t.1==7)):Option Bool)) (fun s4=>if s4 then (some 1) else (some 0)))):Option Int)=some n:=by
 by_cases h4:t.1=4
 ·exact ⟨2,by simp[h4]⟩
 by_cases h5:t.1=5
 ·exact ⟨2,by simp[h5]⟩
 by_cases h6:t.1=6
 ·exact ⟨1,by simp[h6]⟩
 by_cases h7:t.1=7
 ·exact ⟨1,by simp[h7]⟩
 exact ⟨0,by simp[h4,h5,h6,h7]⟩
def yo (e:List Tok):Tr Tok:=match run [] e with
 | some [x] =>x
 | _=>.nil
theorem DU {e:List Tok} (he:e.length<=1048576):mQ e=some (yo e):=by
 obtain ⟨o,eo,hq⟩:=cK (f:=pS e) (fun i s=> ∃st,s=(st,(i:Int))/\run [] (e.take i)=some st) (fun o=>(o= .ret Tr.nil/\run [] e=none)\/ ∃st,o= .brk (st,(e.length:Int))/\run [] e=some st) e.length (s:=([],0)) (by
  rintro i s hi ⟨st,rfl,hst⟩
  have hl:=Om hst
  simp only[aC,aA] at hl
  unfold pS
  simp only[dQ]
  by_cases c:i<e.length
  ·rw[if_pos (by simp;omega),aK (by omega) (by omega)];simp only[aa]
   have hr:=vR (nth e (i:Int))
   by_cases c1:ar (nth e (i:Int))<0
   ·obtain ⟨n,hn⟩:=U3 (nth e (i:Int))
    rw[hn];simp only[aa]
    rw[WJ];simp only[aa]
    refine .inr ⟨_,by rw[if_neg (by simp;omega)],(fun s' e=>by cases e),.inl ⟨rfl,yM c hst ?_⟩⟩
    rw[stp,if_pos (.inl c1)]
   ·rw[Yj (by omega)];simp only[aa]
    rw[WJ];simp only[aa]
    rw[if_pos (by simp;omega),fe (n:=(st.length:Int) - ar (nth e (i:Int))) (by omega) (by omega)]
    by_cases c2:ar (nth e (i:Int))>(st.length:Int)
    ·refine .inr ⟨_,by rw[if_pos (by simp;omega)],(fun s' e=>by cases e),.inl ⟨rfl,yM c hst ?_⟩⟩
     rw[stp,if_pos (.inr c2)]
    ·rw[if_neg (by simp;omega),show∀p:Prop,∀ [Decidable p],p->chk p=some () from fun p _ hp=>by unfold chk;rw[if_pos hp]]
     ·simp only[aa]
      have e1:((st.length:Int) - ar (nth e (i:Int))).toNat=st.length - (ar (nth e (i:Int))).toNat:=by omega
      rw[e1,aI (by simp;omega)];simp only[aa]
      rw[aI (by simp;omega)];simp only[aa,List.nil_append,ah (show i<9223372036854775807 by omega)]
      refine .inl ⟨c,_,rfl,_,rfl,?_⟩
      rw[AW c,vS,hst]
      show stp st _=_
      rw[stp,if_neg (by omega)]
     ·omega
  ·obtain rfl:i=e.length:=by omega
   rw[List.take_of_length_le (by omega)] at hst
   exact .inr ⟨_,by rw[if_neg (by simp)],(fun s' e=>by cases e),.inr ⟨st,rfl,hst⟩⟩) ⟨[],rfl,rfl⟩ (uP (by omega))
 unfold mQ
 rcases hq with ⟨rfl,h⟩ | ⟨st,rfl,h⟩
 ·rw[cg eo];unfold yo;rw[h]
 ·rw[aG eo];unfold yo;rw[h]
  match st with
  | [] =>rfl
  | [x] =>rfl
  | _::_::_ =>
   simp only
   rw[if_pos (by simp;omega)]
theorem w8 {x:Tr Tok} (h:WT x):yo (flat x)=x:=by unfold yo;rw[Ra h];rfl
theorem Rc {e:List Tok} (he:e.length<=1048576):sF e=some (isX e):=by
 unfold sF
 rw[DU he];simp only[aa]
 congr 1
 by_cases h:isX e=true
 ·rw[h]
  obtain ⟨x,h1,h2,h3⟩:=Ol h
  have:yo e=x:=by unfold yo;rw[h1]
  rw[this]
  cases h2 with
  | node _ _=>rfl
 ·have:yo e= .nil:=by
   unfold yo
   unfold isX at h
   split
   ·rename_i x hx;rw[hx] at h;exact absurd rfl h
   ·rfl
  rw[this,Bool.eq_false_iff.2 h];rfl
theorem HJ {e:List Tok} (he:e.length<=1048576):kh e=some (decide (e.length<=24)&&isX e):=by
 unfold kh
 rw[Rb he]
 by_cases c:e.length<=24
 ·rw[if_pos (by simp;omega)];simp[c]
 ·rw[if_neg (by simp;omega)];simp[c]
theorem HK {e:List Tok} (he:e.length<=1048576):j9 e=some (decide (e.length<=24)&&isX e):=by
 unfold j9
 rw[Rc he]
 by_cases c:e.length<=24
 ·rw[if_pos (by simp;omega)];simp[c]
 ·rw[if_neg (by simp;omega)];simp[c]
theorem chk_of {p:Prop} [Decidable p] (h:p):chk p=some ():=by unfold chk;rw[if_pos h]
theorem U4 {A:List Tok} {x:Tr Tok} (hx:WT x) (hl:(A++flat x).length<=1000000):hZ (A++flat x)=some (A.length:Int):=by
 obtain ⟨s',e,ks,q1,q2,q3⟩: ∃s',ay (lu (A++flat x)) aW (1,((A++flat x).length:Int))=some (.brk s')/\ ∃ks:List (Tr Tok),ks= [] /\s'.2=(A.length:Int)/\True:=by
  obtain ⟨o,eo,hq⟩:=cK (f:=lu (A++flat x)) (fun i s=> ∃ks:List (Tr Tok),(∀k,k∈ks->WT k)/\s=((ks.length:Int),(((A++jF ks).length:Nat):Int))/\i+(jF ks).length=(flat x).length/\(A++flat x).take (A++jF ks).length=A++jF ks) (fun o=> ∃s',o= .brk s'/\s'.2=(A.length:Int)) (flat x).length (s:=(1,((A++flat x).length:Int))) (by
   rintro i s hi ⟨ks,hw,rfl,hlen,htk⟩
   unfold lu
   simp only[dQ]
   rcases List.eq_nil_or_concat ks with rfl | ⟨ks',y,rfl⟩
   ·refine .inr ⟨_,by rw[if_neg (by simp)],(fun s' e=>by cases e),_,rfl,?_⟩
    simp[jF]
   ·have hy:=hw y (by simp)
    cases hy with
    | @node t cs h1 h2 =>
     have hfl:jF (ks'++ [.node t cs])=jF (ks'++cs)++ [t]:=by rw[pF,l6,flat,pF,ai]
     rw[List.concat_eq_append,hfl] at hlen htk⊢
     simp only[aw,al,aC] at hlen htk hl⊢
     rw[if_pos (by simp <;> omega)]
     have hpos:i64.wrap (((A.length+((jF (ks'++cs)).length+1):Nat):Int) - 1)=((A.length+(jF (ks'++cs)).length:Nat):Int):=by
      rw[fe (by omega) (by omega)];omega
     have hget:nth (A++flat x) ((A.length+(jF (ks'++cs)).length:Nat):Int)=t:=by
      have hlt:A.length+(jF (ks'++cs)).length<(A++flat x).length:=by rw[aw];omega
      have e1:=congrArg (fun l:List Tok=>l[A.length+(jF (ks'++cs)).length]?) htk
      rw[List.getElem?_take_of_lt (by omega),List.getElem?_eq_getElem hlt,<-ai,List.getElem?_append_right (by rw[aw];omega),aw] at e1
      rw[bN hlt]
      simpa using e1
     rw[hpos,aK (by omega) (by simp only[aw];omega),hget];simp only[aa]
     rw[Y7,h1];simp only[aa]
     have hcl:(cs.length:Int)<=2:=by rw[<-h1];exact (vR t).2
     have hkl:ks'.length<=(jF (ks'++cs)).length+1000000:=by
      have: ∀l:List (Tr Tok),(∀k,k∈l->WT k)->l.length<=(jF l).length:=by
       intro l
       induction l with
       | nil=>intro _;simp
       | cons k l ih =>
        intro h
        have h1:=(h k (by simp)).pos
        have h2:=ih fun k hk=>h k (by simp[hk])
        rw[jF];simp only[al,aw];omega
      have:=this ks' fun k hk=>hw k (by simp[hk])
      rw[pF,aw];omega
     refine .inl ⟨by omega,_,rfl,ks'++cs,fun k hk=>?_,?_,by omega,?_⟩
     ·rcases aD hk with hk | hk
      ·exact hw k (by simp[hk])
      ·exact h2 k hk
     ·rw[fe (n:=((ks'.length+1:Nat):Int) - 1) (by omega) (by omega),fe (by omega) (by omega)]
      congr 1
      (simp only[aw]) <;> omega
     ·have e1:=congrArg (List.take (A++jF (ks'++cs)).length) htk
      rw[List.take_take,Nat.min_eq_left (by rw[aw];omega),<-ai,List.take_left] at e1
      rw[aw] at e1
      exact e1) ⟨[x],fun k hk=>by (obtain rfl:=aq hk;exact hx),by rw[l6];rfl,by rw[l6];omega,by rw[l6,List.take_length]⟩ (uP (by rw[aw] at hl;omega))
  obtain ⟨s',rfl,h2⟩:=hq
  exact ⟨s',eo,[],rfl,h2,trivial⟩
 unfold hZ
 rw[aG e,q2]
end D
namespace D
open Go.RowKit
instance trInh {α:Type} :Inhabited (Tr α):=⟨.nil⟩
def szX:Tr Tok->Int
 | .nil=>0
 | .node t ks=>min (szL t 1 ks) 100000
where szL (t:Tok) (acc:Int):List (Tr Tok)->Int
 | [] =>acc
 | k::ks=>szL t (acc+(if t.1=7 then (szX k+3)*t.2.2.2 else szX k)) ks
theorem e8 {x:Tr Tok} (h:WT x):1<=szX x/\szX x<=100000:=by
 refine WT.ind (p:=fun x=>1<=szX x/\szX x<=100000) ?_ ?_ ?_ h
 ·intro t _
  show 1<=min (1:Int) 100000/\min (1:Int) 100000<=100000
  omega
 ·intro t a e _ ih
  show 1<=min ((1:Int)+(if t.1=7 then (szX a+3)*t.2.2.2 else szX a)) 100000/\min ((1:Int)+(if t.1=7 then (szX a+3)*t.2.2.2 else szX a)) 100000<=100000
  split
  ·rename_i k
   have hr:=AU (show 0<=ar t by omega) k
   have:0<=(szX a+3)*t.2.2.2:=Int.mul_nonneg (by omega) (by omega)
   omega
  ·omega
 ·intro t a b e _ _ iha ihb
  have k:t.1≠7:=by
   rcases nV (show 0<=ar t by omega) with ⟨_,k⟩ | ⟨k,_⟩ | ⟨k,_⟩ <;> omega
  show 1<=min ((1:Int)+(if t.1=7 then (szX a+3)*t.2.2.2 else szX a)+(if t.1=7 then (szX b+3)*t.2.2.2 else szX b)) 100000/\min ((1:Int)+(if t.1=7 then (szX a+3)*t.2.2.2 else szX a)+(if t.1=7 then (szX b+3)*t.2.2.2 else szX b)) 100000<=100000
  rw[if_neg k,if_neg k]
  omega
theorem FW {a h:Int} (h1:1<=a/\a<=100000) (h2:1<=h/\h<=3):i64.wrap ((i64.wrap (a+3))*h)=(a+3)*h:=by
 rw[fe (n:=a+3) (by omega) (by omega)]
 have k1:0<=(a+3)*h:=Int.mul_nonneg (by omega) (by omega)
 have k2:(a+3)*h<=100003*3:=Int.mul_le_mul (by omega) (by omega) (by omega) (by omega)
 exact fe (by omega) (by omega)
theorem On {a h:Int} (h1:1<=a/\a<=100000) (h2:1<=h/\h<=3):0<=(a+3)*h/\(a+3)*h<=300009:=by
 have k1:0<=(a+3)*h:=Int.mul_nonneg (by omega) (by omega)
 have k2:(a+3)*h<=100003*3:=Int.mul_le_mul (by omega) (by omega) (by omega) (by omega)
 omega
theorem pG {t:Tok} {ks:List (Tr Tok)} :Tr.get (.node t ks)=some (t,ks):=rfl
theorem w9 {f:Tr Tok->Option Int} {t:Tok} {ks:List (Tr Tok)} {i:Nat} {acc:Int} (hi:i<ks.length) (hf:f (nth ks (i:Int))=some (szX (nth ks (i:Int)))) (hw:WT (nth ks (i:Int))) (ht:0<=ar t) (ha:0<=acc/\acc<=1000000) (hik:i<=1000000) :
  bI f (.node t ks) (t,ks) (acc,(i:Int))=some (.nxt (acc+(if t.1=7 then (szX (nth ks (i:Int))+3)*t.2.2.2 else szX (nth ks (i:Int))),((i+1:Nat):Int))):=by
 unfold bI
 simp only[pG]
 have hr:=e8 hw
 rw[if_pos (by simp <;> omega),aK (by omega) (by omega)];simp only[aa]
 by_cases k:t.1=7
 ·have h7:=AU ht k
  have hm:=On hr h7.2
  rw[if_pos (by simpa using k),if_pos k,hf];simp only[aa]
  rw[FW hr h7.2,fe (by omega) (by omega),ah (by omega)]
 ·rw[if_neg (by simpa using k),if_neg k,hf];simp only[aa]
  rw[fe (by omega) (by omega),ah (by omega)]
theorem yN {α:Type} [Inhabited α] {a:α} {l:List α} :nth (a::l) ((0:Nat):Int)=a:=rfl
theorem Oo {α:Type} [Inhabited α] {a b:α} {l:List α} :nth (a::b::l) ((1:Nat):Int)=b:=rfl
theorem U5 {x:Tr Tok} (h:WT x): ∀n,(flat x).length<=n->bS n x=some (szX x):=by
 refine WT.ind (p:=fun x=> ∀n,(flat x).length<=n->bS n x=some (szX x)) ?_ ?_ ?_ h
 ·intro t e n hn
  rw[BJ] at hn
  match n,hn with
  | n+1,_ =>
   rw[bS];simp only[pG,aa]
   have hL:ay (bI (bS n) (.node t []) (t,[])) aW (1,0)=some (.brk (1,0)):=br (f:=bI (bS n) (.node t []) (t,[])) (fun i=>(1,(i:Int))) 0 (fun i hi=>by omega) (by unfold bI;simp) (by unfold aW;omega)
   rw[aG hL]
   all_goals rfl
 ·intro t a e wa ih n hn
  rw[DS,aw] at hn
  match n,hn with
  | n+1,hn =>
   have hr:=e8 wa
   rw[bS];simp only[pG,aa]
   have hL:ay (bI (bS n) (.node t [a]) (t,[a])) aW (1,0)=some (.brk (szX.szL t 1 [a],1)):=br (f:=bI (bS n) (.node t [a]) (t,[a])) (fun i=>(szX.szL t 1 ([a].take i),(i:Int))) 1 (fun i hi=>by
    obtain rfl:i=0:=by omega
    exact w9 (acc:=1) (i:=0) (by simp) (ih n (by simp at hn;omega)) wa (by omega) (by omega) (by omega)) (by unfold bI;simp) (by unfold aW;omega)
   rw[aG hL]
   all_goals rfl
 ·intro t a b e wa wb iha ihb n hn
  rw[uH,aw,aw] at hn
  match n,hn with
  | n+1,hn =>
   have hra:=e8 wa
   have hrb:=e8 wb
   have k:t.1≠7:=by
    rcases nV (show 0<=ar t by omega) with ⟨_,k⟩ | ⟨k,_⟩ | ⟨k,_⟩ <;> omega
   rw[bS];simp only[pG,aa]
   have hL:ay (bI (bS n) (.node t [a,b]) (t,[a,b])) aW (1,0)=some (.brk (szX.szL t 1 [a,b],2)):=br (f:=bI (bS n) (.node t [a,b]) (t,[a,b])) (fun i=>(szX.szL t 1 ([a,b].take i),(i:Int))) 2 (fun i hi=>by
    have:i=0\/i=1:=by omega
    rcases this with rfl | rfl
    ·exact w9 (acc:=1) (i:=0) (by simp) (iha n (by simp at hn;omega)) wa (by omega) (by omega) (by omega)
    ·exact w9 (acc:=1+(if t.1=7 then (szX a+3)*t.2.2.2 else szX a)) (i:=1) (by simp) (ihb n (by simp at hn;omega)) wb (by omega) (by rw[if_neg k];omega) (by omega)) (by unfold bI;simp) (by unfold aW;omega)
   rw[aG hL]
   all_goals rfl
theorem mO {A:List Tok} {t:Tok} (h:A.length<=1000000):aT (A++ [t]) (i64.wrap (((A++ [t]).length:Int) - 1))=some t/\i64.wrap (((A++ [t]).length:Int) - 1)=(A.length:Int):=by
 have e:i64.wrap (((A++ [t]).length:Int) - 1)=(A.length:Int):=by
  rw[fe (by simp only[aw,al,aC];omega) (by simp only[aw,al,aC];omega)]
  simp only[aw,al,aC];omega
 refine ⟨?_,e⟩
 rw[e,aK (by omega) (by simp only[aw,al,aC];omega),bN (by simp)]
 simp
theorem Y8 {t:Tok} (h:ar t=2):(if t.1==4 then (some (t.1==4)) else (some (t.1==5)):Option Bool)=some true:=by
 rcases nV (show 0<=ar t by omega) with ⟨_,k | k⟩ | ⟨e,_⟩ | ⟨e,_⟩
 ·simp[k]
 ·simp[k]
 ·omega
 ·omega
theorem Rd {t:Tok} (h:ar t=1\/ar t=0):(if t.1==4 then (some (t.1==4)) else (some (t.1==5)):Option Bool)=some false:=by
 rcases nV (show 0<=ar t by omega) with ⟨e,k⟩ | ⟨e,k | k⟩ | ⟨e,k | k | k⟩
 ·omega
 all_goals simp[k]
theorem WK {t:Tok} (h:ar t=0):(t.1==6)=false/\(t.1==7)=false:=by
 rcases nV (show 0<=ar t by omega) with ⟨e,k⟩ | ⟨e,k | k⟩ | ⟨e,k | k | k⟩
 ·omega
 ·omega
 ·omega
 all_goals simp[k]
theorem Re {t:Tok} (h:ar t=1):((t.1==6)=true/\t.1=6)\/((t.1==6)=false/\(t.1==7)=true/\t.1=7):=by
 rcases nV (show 0<=ar t by omega) with ⟨e,k⟩ | ⟨e,k | k⟩ | ⟨e,k | k | k⟩
 ·omega
 ·left;simp[k]
 ·right;simp[k]
 all_goals omega
theorem AX {a b:Tr Tok} {t:Tok} (wb:WT b) (hl:((flat a++flat b)++ [t]).length<=1000000) :
  (((flat a++flat b)++ [t]).take ((((flat a++flat b).length:Nat):Int)).toNat)=flat a++flat b /\
  hZ (flat a++flat b)=some (((flat a).length:Nat):Int) /\
  (((flat a++flat b)++ [t]).take ((((flat a).length:Nat):Int)).toNat)=flat a /\
  (flat a++flat b).drop ((((flat a).length:Nat):Int)).toNat=flat b:=by
 refine ⟨?_,U4 wb (by simp only[aw,al,aC] at hl⊢;omega),?_,?_⟩
 ·rw[Int.toNat_natCast,List.take_left]
 ·rw[Int.toNat_natCast,ai,List.take_left]
 ·rw[Int.toNat_natCast,List.drop_left]
theorem WL {x:Tr Tok} (h:WT x): ∀n,(flat x).length<=n->(flat x).length<=1000000->eD n (flat x)=some (szX x):=by
 refine WT.ind (p:=fun x=> ∀n,(flat x).length<=n->(flat x).length<=1000000->eD n (flat x)=some (szX x)) ?_ ?_ ?_ h
 ·intro t e n hn hl
  rw[BJ] at hn hl⊢
  match n,hn with
  | n+1,_ =>
   have hk:=WK e
   rw[eD]
   have:=(mO (A:=[]) (t:=t) (by simp)).1
   rw[List.nil_append] at this
   rw[this];simp only[aa]
   rw[Rd (.inr e)];simp only[aa,hk.1,hk.2,Bool.false_eq_true,if_false]
   rfl
 ·intro t a e wa ih n hn hl
  rw[DS] at hn hl⊢
  simp only[aw,al,aC] at hn hl
  match n,hn with
  | n+1,hn =>
   have hr:=e8 wa
   rw[eD]
   obtain ⟨l1,l2⟩:=mO (A:=flat a) (t:=t) (by omega)
   rw[l1];simp only[aa]
   rw[Rd (.inl e)];simp only[aa,Bool.false_eq_true,if_false]
   rw[l2,Int.toNat_natCast,List.take_left,chk_of (by simp only[aw,al,aC];omega)];simp only[aa]
   rw[ih n (by omega) (by omega)];simp only[aa]
   rcases Re e with ⟨k1,k2⟩ | ⟨k1,k2,k3⟩
   ·rw[if_pos k1,fe (by omega) (by omega)]
    show some (min 100000 (szX a+1))=some (min ((1:Int)+(if t.1=7 then (szX a+3)*t.2.2.2 else szX a)) 100000)
    rw[if_neg (by omega)]
    congr 1;omega
   ·have h7:=AU (show 0<=ar t by omega) k3
    have hm:=On hr h7.2
    rw[if_neg (by simp[k1]),if_pos k2,FW hr h7.2,fe (by omega) (by omega)]
    show some (min 100000 ((szX a+3)*t.2.2.2+1))=some (min ((1:Int)+(if t.1=7 then (szX a+3)*t.2.2.2 else szX a)) 100000)
    rw[if_pos k3]
    congr 1;omega
 ·intro t a b e wa wb iha ihb n hn hl
  rw[uH] at hn hl⊢
  obtain ⟨p1,p2,p3,p4⟩:=AX (a:=a) (t:=t) wb hl
  simp only[aw,al,aC] at hn hl
  match n,hn with
  | n+1,hn =>
   have hra:=e8 wa
   have hrb:=e8 wb
   have k:t.1≠7:=by
    rcases nV (show 0<=ar t by omega) with ⟨_,k⟩ | ⟨k,_⟩ | ⟨k,_⟩ <;> omega
   rw[eD]
   obtain ⟨l1,l2⟩:=mO (A:=flat a++flat b) (t:=t) (by rw[aw];omega)
   rw[l1];simp only[aa]
   rw[Y8 e];simp only[aa,if_true]
   rw[l2,p1,p2,chk_of (by simp only[aw,al,aC];omega)];simp only[aa]
   rw[chk_of (by simp only[aw,al,aC];omega),p3,p4];simp only[aa]
   rw[iha n (by omega) (by omega),chk_of (by simp only[aw,al,aC];omega)];simp only[aa]
   rw[ihb n (by have:=wa.pos;omega) (by omega)];simp only[aa]
   rw[fe (n:=szX a+szX b) (by omega) (by omega),fe (by omega) (by omega)]
   show some (min 100000 (szX a+szX b+1))=some (min ((1:Int)+(if t.1=7 then (szX a+3)*t.2.2.2 else szX a)+(if t.1=7 then (szX b+3)*t.2.2.2 else szX b)) 100000)
   rw[if_neg k,if_neg k]
   congr 1;omega
def Rf:Tr Tok:=.node (2,0,0,0) []
def HL (x:Tr Tok):Nat->Int->Tr Tok
 | 0,_=>Rf
 | h+1,low=>if 0<low then .node (4,0,0,0) [x,HL x h (max 0 (low - 1))] else .node (5,0,0,0) [.node (4,0,0,0) [x,HL x h (max 0 (low - 1))],Rf]
mutual
def qZ:Tr Tok->Tr Tok
 | .nil=>.nil
 | .node t ks=>if t.1=7 then HL ((OY ks).headD .nil) t.2.2.2.toNat t.2.2.1 else .node t (OY ks)
def OY:List (Tr Tok)->List (Tr Tok)
 | [] =>[]
 | k::ks=>qZ k::OY ks
end
theorem ar4:ar (4,0,0,0)=2:=by decide
theorem ar5:ar (5,0,0,0)=2:=by decide
theorem ar2:ar (2,0,0,0)=0:=by decide
theorem Oq:WT Rf:=.node ar2 fun k hk=>by cases hk
theorem vT:flat Rf= [(2,0,0,0)]:=BJ _
theorem WT.two {t:Tok} {a b:Tr Tok} (h:ar t=2) (ha:WT a) (hb:WT b):WT (.node t [a,b]):=.node h fun k hk=>by
 rcases az hk with rfl | hk
 ·exact ha
 ·obtain rfl:=aq hk
  exact hb
theorem WT.one {t:Tok} {a:Tr Tok} (h:ar t=1) (ha:WT a):WT (.node t [a]):=.node h fun k hk=>by
 obtain rfl:=aq hk
 exact ha
theorem HM {x:Tr Tok} (hx:WT x): ∀(h:Nat) (low:Int),WT (HL x h low)
 | 0,_=>Oq
 | h+1,low=>by
  rw[HL]
  split
  ·exact .two ar4 hx (HM hx h _)
  ·exact .two ar5 (.two ar4 hx (HM hx h _)) Oq
theorem DV (x:Tr Tok): ∀(h:Nat) (low:Int),(flat (HL x h low)).length<=((flat x).length+3)*h+1
 | 0,_=>by rw[HL,vT];simp
 | h+1,low=>by
  have ih:=DV x h (max 0 (low - 1))
  rw[HL]
  split
  ·rw[uH];simp only[aw,al,aC]
   rw[Nat.mul_succ];omega
  ·rw[uH,uH,vT];simp only[aw,al,aC]
   rw[Nat.mul_succ];omega
theorem XE {t:Tok} {a:Tr Tok} :qZ (.node t [a])=if t.1=7 then HL (qZ a) t.2.2.2.toNat t.2.2.1 else .node t [qZ a]:=by rw[qZ,OY,OY];rfl
theorem exp2 {t:Tok} {a b:Tr Tok} (h:t.1≠7):qZ (.node t [a,b])= .node t [qZ a,qZ b]:=by rw[qZ,if_neg h,OY,OY,OY]
theorem XF {t:Tok} (h:t.1≠7):qZ (.node t [])= .node t []:=by rw[qZ,if_neg h,OY]
theorem no7 {t:Tok} (h:ar t=2\/ar t=0):t.1≠7:=by
 rcases nV (show 0<=ar t by omega) with ⟨_,k⟩ | ⟨k,_⟩ | ⟨_,k⟩ <;> omega
theorem SB {x:Tr Tok} (h:WT x):WT (qZ x):=by
 refine WT.ind (p:=fun x=>WT (qZ x)) ?_ ?_ ?_ h
 ·intro t e
  rw[XF (no7 (.inr e))]
  exact .node e fun k hk=>by cases hk
 ·intro t a e _ ih
  rw[XE]
  split
  ·exact HM ih _ _
  ·exact .one e ih
 ·intro t a b e _ _ iha ihb
  rw[exp2 (no7 (.inl e))]
  exact .two e iha ihb
theorem DW {x:Tr Tok} (h:WT x):szX x<100000->((flat (qZ x)).length:Int)<=szX x:=by
 refine WT.ind (p:=fun x=>szX x<100000->((flat (qZ x)).length:Int)<=szX x) ?_ ?_ ?_ h
 ·intro t e _
  rw[XF (no7 (.inr e)),BJ]
  show (1:Int)<=min 1 100000
  omega
 ·intro t a e wa ih hs
  have hr:=e8 wa
  have hs':min ((1:Int)+(if t.1=7 then (szX a+3)*t.2.2.2 else szX a)) 100000<100000:=hs
  show _<=min ((1:Int)+(if t.1=7 then (szX a+3)*t.2.2.2 else szX a)) 100000
  rw[XE]
  by_cases k:t.1=7
  ·rw[if_pos k] at hs'⊢
   rw[if_pos k]
   have h7:=AU (show 0<=ar t by omega) k
   have hge:szX a+3<=(szX a+3)*t.2.2.2:=by
    have:=Int.mul_le_mul_of_nonneg_left (c:=szX a+3) h7.2.1 (by omega)
    omega
   have h1:=ih (by omega)
   have h2:=DV (qZ a) t.2.2.2.toNat t.2.2.1
   have h3:(((flat (qZ a)).length+3)*t.2.2.2.toNat:Int)<=(szX a+3)*t.2.2.2:=by
    rw[Int.toNat_of_nonneg (by omega)]
    exact Int.mul_le_mul_of_nonneg_right (by omega) (by omega)
   have h4:((flat (HL (qZ a) t.2.2.2.toNat t.2.2.1)).length:Int)<=(((flat (qZ a)).length+3)*t.2.2.2.toNat:Int)+1:=by exact_mod_cast h2
   omega
  ·rw[if_neg k] at hs'⊢
   rw[if_neg k,DS]
   have h1:=ih (by omega)
   simp only[aw,al,aC]
   omega
 ·intro t a b e wa wb iha ihb hs
  have hra:=e8 wa
  have hrb:=e8 wb
  have k:=no7 (.inl e)
  have hs':min ((1:Int)+(if t.1=7 then (szX a+3)*t.2.2.2 else szX a)+(if t.1=7 then (szX b+3)*t.2.2.2 else szX b)) 100000<100000:=hs
  show _<=min ((1:Int)+(if t.1=7 then (szX a+3)*t.2.2.2 else szX a)+(if t.1=7 then (szX b+3)*t.2.2.2 else szX b)) 100000
  rw[if_neg k,if_neg k] at hs'⊢
  rw[exp2 k,uH]
  have h1:=iha (by omega)
  have h2:=ihb (by omega)
  simp only[aw,al,aC]
  omega
theorem Cw {x:Tr Tok} : ∀(h n:Nat) (low:Int),h<n->h<=3->0<=low->low<=3->jI n x low (h:Int)=some (HL x h low)
 | 0,n+1,low,_,_,_,_=>by
  rw[jI,if_pos (by rfl)];rfl
 | h+1,n+1,low,h1,h2,h3,h4=>by
  rw[jI,if_neg (by simp;omega),fe (n:=low - 1) (by omega) (by omega),fe (n:=((h+1:Nat):Int) - 1) (by omega) (by omega)]
  rw[show ((h+1:Nat):Int) - 1=(h:Int) from by omega,Cw h n (max 0 (low - 1)) (by omega) (by omega) (by omega) (by omega)];simp only[aa]
  rw[HL]
  by_cases c:0<low
  ·rw[if_pos (by simpa using c),if_pos c]
  ·rw[if_neg (by simpa using c),if_neg c];rfl
theorem Jo {a b:List Tok} {t:Tok} (h:a.length+b.length<=1000000):kP a b t=some ((a++b)++ [t]):=by
 unfold kP gG
 rw[aI (by simp only[aw,al,aC];omega)];simp only[aa,List.nil_append]
 rw[aI (by omega)];simp only[aa]
 rw[aI (by simp only[aw,al,aC];omega)];rfl
theorem Ot {x:Tr Tok} : ∀(h n:Nat) (low:Int),h<n->h<=3->0<=low->low<=3->(flat x).length<=100000->jK n (flat x) low (h:Int)=some (flat (HL x h low))
 | 0,n+1,low,_,_,_,_,_=>by
  rw[jK,if_pos (by rfl),HL,vT];rfl
 | h+1,n+1,low,h1,h2,h3,h4,h5=>by
  rw[jK,if_neg (by simp;omega),fe (n:=low - 1) (by omega) (by omega),fe (n:=((h+1:Nat):Int) - 1) (by omega) (by omega)]
  rw[show ((h+1:Nat):Int) - 1=(h:Int) from by omega,Ot h n (max 0 (low - 1)) (by omega) (by omega) (by omega) (by omega) h5];simp only[aa]
  have hl:=DV x h (max 0 (low - 1))
  have hl3:((flat x).length+3)*h<=100003*3:=Nat.mul_le_mul (by omega) (by omega)
  rw[Jo (by omega),HL];simp only[aa]
  by_cases c:0<low
  ·rw[if_pos (by simpa using c),if_pos c,uH]
  ·rw[if_neg (by simpa using c),if_neg c,uH,uH,vT]
   show (o9 2).bind _=_
   unfold o9;simp only[aa]
   rw[Jo (by simp only[aw,al,aC];omega)];rfl
theorem vU:1000000000000<=gr:=by rw[Pd];unfold aW;omega
theorem Rg {x:Tr Tok} (h:WT x): ∀n,(flat x).length<=n->bC n x=some (qZ x):=by
 have hF:=vU
 refine WT.ind (p:=fun x=> ∀n,(flat x).length<=n->bC n x=some (qZ x)) ?_ ?_ ?_ h
 ·intro t e n hn
  rw[BJ] at hn
  have k:=no7 (.inr e)
  match n,hn with
  | n+1,_ =>
   rw[bC];simp only[pG,aa]
   rw[if_neg (by simpa using k),XF k]
   have hL:ay (bq (bC n) (t,[])) aW (0,t.1,t.2.1,t.2.2.1,t.2.2.2,[])=some (.brk (0,t.1,t.2.1,t.2.2.1,t.2.2.2,[])):=br (f:=bq (bC n) (t,[])) (fun i=>((i:Int),t.1,t.2.1,t.2.2.1,t.2.2.2,OY (([] :List (Tr Tok)).take i))) 0 (fun i hi=>by omega) (by unfold bq;simp) (by unfold aW;omega)
   rw[aG hL]
   all_goals rfl
 ·intro t a e wa ih n hn
  rw[DS,aw] at hn
  match n,hn with
  | n+1,hn =>
   have ia:=ih n (by simp at hn;omega)
   rw[bC,XE];simp only[pG,aa]
   rcases Re e with ⟨k1,k2⟩ | ⟨k1,k2,k3⟩
   ·rw[if_neg (by simp;omega),if_neg (by omega)]
    have hL:ay (bq (bC n) (t,[a])) aW (0,t.1,t.2.1,t.2.2.1,t.2.2.2,[])=some (.brk (1,t.1,t.2.1,t.2.2.1,t.2.2.2,[qZ a])):=br (f:=bq (bC n) (t,[a])) (fun i=>((i:Int),t.1,t.2.1,t.2.2.1,t.2.2.2,[qZ a].take i)) 1 (fun i hi=>by
     obtain rfl:i=0:=by omega
     unfold bq
     simp only
     rw[if_pos (by simp),aK (by omega) (by simp),yN];simp only[aa]
     rw[ia];simp only[aa]
     rw[aI (by simp)];rfl) (by unfold bq;simp) (by unfold aW;omega)
    rw[aG hL]
    all_goals rfl
   ·have h7:=AU (show 0<=ar t by omega) k3
    rw[if_pos k2,if_pos k3,show aT [a] 0=some a from rfl];simp only[aa]
    rw[ia];simp only[aa]
    have:=Cw (x:=qZ a) t.2.2.2.toNat gr t.2.2.1 (by omega) (by omega) (by omega) (by omega)
    rw[Int.toNat_of_nonneg (by omega)] at this
    rw[this];rfl
 ·intro t a b e wa wb iha ihb n hn
  rw[uH,aw,aw] at hn
  have k:=no7 (.inl e)
  match n,hn with
  | n+1,hn =>
   have ia:=iha n (by simp at hn;omega)
   have ib:=ihb n (by simp at hn;omega)
   rw[bC,exp2 k];simp only[pG,aa]
   rw[if_neg (by simpa using k)]
   have hL:ay (bq (bC n) (t,[a,b])) aW (0,t.1,t.2.1,t.2.2.1,t.2.2.2,[])=some (.brk (2,t.1,t.2.1,t.2.2.1,t.2.2.2,[qZ a,qZ b])):=br (f:=bq (bC n) (t,[a,b])) (fun i=>((i:Int),t.1,t.2.1,t.2.2.1,t.2.2.2,[qZ a,qZ b].take i)) 2 (fun i hi=>by
    have:i=0\/i=1:=by omega
    rcases this with rfl | rfl
    ·unfold bq
     simp only
     rw[if_pos (by simp),aK (by omega) (by simp),yN];simp only[aa]
     rw[ia];simp only[aa]
     rw[aI (by simp)];rfl
    ·unfold bq
     simp only
     rw[if_pos (by simp),aK (by omega) (by simp),Oo];simp only[aa]
     rw[ib];simp only[aa]
     rw[aI (by simp)];rfl) (by unfold bq;simp) (by unfold aW;omega)
   rw[aG hL]
   all_goals rfl
theorem Ou {x:Tr Tok} (h:WT x): ∀n out,(flat x).length<=n->out.length+(flat x).length<=1000000->bz n x out=some (out++flat x):=by
 refine WT.ind (p:=fun x=> ∀n out,(flat x).length<=n->out.length+(flat x).length<=1000000->bz n x out=some (out++flat x)) ?_ ?_ ?_ h
 ·intro t e n out hn hl
  rw[BJ] at hn hl⊢
  simp only[al,aC] at hl
  match n,hn with
  | n+1,_ =>
   rw[bz];simp only[pG,aa]
   have hL:ay (bf (bz n) (t,[])) aW (0,out)=some (.brk (0,out)):=br (f:=bf (bz n) (t,[])) (fun i=>((i:Int),out)) 0 (fun i hi=>by omega) (by unfold bf;simp) (by unfold aW;omega)
   rw[aG hL]
   simp only
   rw[aI (by simp;omega)];rfl
 ·intro t a e wa ih n out hn hl
  rw[DS] at hn hl⊢
  simp only[aw,al,aC] at hn hl
  match n,hn with
  | n+1,hn =>
   rw[bz];simp only[pG,aa]
   have hL:ay (bf (bz n) (t,[a])) aW (0,out)=some (.brk (1,out++flat a)):=br (f:=bf (bz n) (t,[a])) (fun i=>((i:Int),if i=0 then out else out++flat a)) 1 (fun i hi=>by
    obtain rfl:i=0:=by omega
    unfold bf
    simp only
    rw[if_pos (by simp),aK (by omega) (by simp),yN];simp only[aa,if_true]
    rw[ih n _ (by omega) (by omega)];rfl) (by unfold bf;simp) (by unfold aW;omega)
   rw[aG hL]
   simp only
   rw[aI (by simp;omega)];simp
 ·intro t a b e wa wb iha ihb n out hn hl
  rw[uH] at hn hl⊢
  simp only[aw,al,aC] at hn hl
  match n,hn with
  | n+1,hn =>
   rw[bz];simp only[pG,aa]
   have hL:ay (bf (bz n) (t,[a,b])) aW (0,out)=some (.brk (2,(out++flat a)++flat b)):=br (f:=bf (bz n) (t,[a,b])) (fun i=>((i:Int),if i=0 then out else if i=1 then out++flat a else (out++flat a)++flat b)) 2 (fun i hi=>by
    have:i=0\/i=1:=by omega
    rcases this with rfl | rfl
    ·unfold bf
     simp only
     rw[if_pos (by simp),aK (by omega) (by simp),yN];simp only[aa,if_true]
     rw[iha n _ (by omega) (by omega)];rfl
    ·unfold bf
     simp only
     rw[if_pos (by simp),aK (by omega) (by simp),Oo];simp only[aa,if_true]
     rw[ihb n _ (by omega) (by simp;omega)];rfl) (by unfold bf;simp) (by unfold aW;omega)
   rw[aG hL]
   simp only
   rw[aI (by simp;omega)];simp
theorem Rh {x:Tr Tok} (h:WT x): ∀n,(flat x).length<=n->(flat x).length<=1000000->szX x<=50000->cS n (flat x)=some (flat (qZ x)):=by
 have hF:=vU
 refine WT.ind (p:=fun x=> ∀n,(flat x).length<=n->(flat x).length<=1000000->szX x<=50000->cS n (flat x)=some (flat (qZ x))) ?_ ?_ ?_ h
 ·intro t e n hn hl hs
  rw[BJ] at hn hl⊢
  match n,hn with
  | n+1,_ =>
   have hk:=WK e
   rw[cS]
   have:=(mO (A:=[]) (t:=t) (by simp)).1
   rw[List.nil_append] at this
   rw[this];simp only[aa]
   rw[Rd (.inr e)];simp only[aa,hk.1,hk.2,Bool.false_eq_true,if_false]
   rw[XF (no7 (.inr e)),BJ]
 ·intro t a e wa ih n hn hl hs
  have hs':min ((1:Int)+(if t.1=7 then (szX a+3)*t.2.2.2 else szX a)) 100000<=50000:=hs
  rw[DS] at hn hl⊢
  simp only[aw,al,aC] at hn hl
  match n,hn with
  | n+1,hn =>
   have hr:=e8 wa
   have hsa:szX a<=50000:=by
    by_cases k:t.1=7
    ·rw[if_pos k] at hs'
     have h7:=AU (show 0<=ar t by omega) k
     have hge:szX a+3<=(szX a+3)*t.2.2.2:=by
      have:=Int.mul_le_mul_of_nonneg_left (c:=szX a+3) h7.2.1 (by omega)
      omega
     omega
    ·rw[if_neg k] at hs';omega
   have hla:=DW wa (by omega)
   rw[cS]
   obtain ⟨l1,l2⟩:=mO (A:=flat a) (t:=t) (by omega)
   rw[l1];simp only[aa]
   rw[Rd (.inl e)];simp only[aa,Bool.false_eq_true,if_false]
   rw[l2,Int.toNat_natCast,List.take_left,chk_of (by simp only[aw,al,aC];omega)];simp only[aa]
   rw[ih n (by omega) (by omega) hsa,XE];simp only[aa]
   rcases Re e with ⟨k1,k2⟩ | ⟨k1,k2,k3⟩
   ·rw[if_pos k1,if_neg (by omega),Jo (by simp;omega),DS];simp
   ·have h7:=AU (show 0<=ar t by omega) k3
    rw[if_neg (by simp[k1]),if_pos k2,if_pos k3]
    have:=Ot (x:=qZ a) t.2.2.2.toNat gr t.2.2.1 (by omega) (by omega) (by omega) (by omega) (by omega)
    rw[Int.toNat_of_nonneg (by omega)] at this
    rw[this];rfl
 ·intro t a b e wa wb iha ihb n hn hl hs
  have k:=no7 (.inl e)
  have hs':min ((1:Int)+(if t.1=7 then (szX a+3)*t.2.2.2 else szX a)+(if t.1=7 then (szX b+3)*t.2.2.2 else szX b)) 100000<=50000:=hs
  rw[if_neg k,if_neg k] at hs'
  rw[uH] at hn hl⊢
  obtain ⟨p1,p2,p3,p4⟩:=AX (a:=a) (t:=t) wb hl
  simp only[aw,al,aC] at hn hl
  match n,hn with
  | n+1,hn =>
   have hra:=e8 wa
   have hrb:=e8 wb
   have hla:=DW wa (by omega)
   have hlb:=DW wb (by omega)
   rw[cS]
   obtain ⟨l1,l2⟩:=mO (A:=flat a++flat b) (t:=t) (by rw[aw];omega)
   rw[l1];simp only[aa]
   rw[Y8 e];simp only[aa,if_true]
   rw[l2,p1,p2,chk_of (by simp only[aw,al,aC];omega)];simp only[aa]
   rw[chk_of (by simp only[aw,al,aC];omega),p3,p4];simp only[aa]
   rw[iha n (by omega) (by omega) (by omega),chk_of (by simp only[aw,al,aC];omega)];simp only[aa]
   rw[ihb n (by have:=wa.pos;omega) (by omega) (by omega)];simp only[aa]
   rw[Jo (by omega),exp2 k,uH];rfl
def KO (e:List Tok):List Tok×Bool:=
 if decide (e.length<=24)&&isX e then (if 5000<szX (yo e) then ([],false) else (if 400<(flat (qZ (yo e))).length then ([],false) else (flat (qZ (yo e)),true))) else ([],false)
theorem HO {e:List Tok} (he:e.length<=1048576):lx e=some (KO e)/\ln e=some (KO e):=by
 have hF:=vU
 unfold lx ln KO
 rw[HJ he,HK he];simp only[aa]
 by_cases c:(decide (e.length<=24)&&isX e)=true
 ·rw[if_pos c,if_pos c,if_pos c,DU he];simp only[aa]
  rw[ak] at c
  obtain ⟨x,h1,hw,rfl⟩:=Ol c.2
  have h24:(flat x).length<=24:=by simpa using c.1
  have hr:=e8 hw
  rw[w8 hw,WL hw gr (by omega) (by omega),U5 hw gr (by omega)];simp only[aa]
  by_cases c2:5000<szX x
  ·have c2':decide (szX x>5000)=true:=by simpa using c2
   simp only[gt_iff_lt,c2,decide_true,if_true,and_self]
  ·have c2':decide (szX x>5000)=false:=by simpa using c2
   simp only[gt_iff_lt,c2,decide_false,if_false,Bool.false_eq_true]
   have hl:=DW hw (by omega)
   rw[Rh hw gr (by omega) (by omega) (by omega),Rg hw gr (by omega)];simp only[aa]
   unfold pT
   rw[Ou (SB hw) gr [] (by omega) (by simp;omega)];simp only[aa,List.nil_append]
   by_cases c3:400<(flat (qZ x)).length
   ·have c3':decide (((flat (qZ x)).length:Int)>400)=true:=decide_eq_true (by omega)
    simp only[c3',c3,decide_true,if_true,and_self]
   ·have c3':decide (((flat (qZ x)).length:Int)>400)=false:=decide_eq_false (by omega)
    simp only[c3',c3,decide_false,if_false,Bool.false_eq_true,and_self]
 ·rw[if_neg c,if_neg c,if_neg c];exact ⟨rfl,rfl⟩
theorem U6 {e:List Tok} (h:(KO e).2=true): ∃y,WT y/\(KO e).1=flat y/\(flat y).length<=400:=by
 unfold KO at h⊢
 split at h
 ·rename_i c
  rw[if_pos c]
  rw[ak] at c
  obtain ⟨x,h1,hw,rfl⟩:=Ol c.2
  rw[w8 hw] at h⊢
  split at h
  ·cases h
  ·rename_i c2
   rw[if_neg c2]
   split at h
   ·cases h
   ·rename_i c3
    rw[if_neg c3]
    exact ⟨_,SB hw,rfl,by omega⟩
 ·cases h
end D
namespace D
open Go.RowKit
def Ov (out:List Bool) (t:Int):Bool:=decide (t≥0)&&nth out t
def hit (out:List Bool) (row:List Int):Bool:=row.any (Ov out)
def xR (a:AutT) (out:List Bool) (s:Nat):List Bool:=if hit out (nth a.2.2 s) then out.set s true else out
def jR (a:AutT) (out:List Bool):Nat->List Bool
 | 0=>out
 | s+1=>xR a (jR a out s) s
def cnt (out:List Bool):Nat:=out.count true
theorem WM (out:List Bool):cnt out<=out.length:=List.count_le_length
theorem Jp {out:List Bool} {s:Nat} (h:s<out.length) (k:out[s] =true):out.set s true=out:=by
 refine List.ext_getElem (by simp) fun i h1 h2=>?_
 rw[List.getElem_set]
 split
 ·rename_i e;subst e;exact k.symm
 ·rfl
theorem U7 {out:List Bool} {s:Nat} (h:s<out.length) (k:out[s] =false):cnt (out.set s true)=cnt out+1:=by
 unfold cnt
 rw[List.count_set h];simp[k]
section
variable {a:AutT} {n:Nat}
theorem DX (a:AutT) (out:List Bool) (s:Nat):(xR a out s).length=out.length:=by unfold xR;split <;> simp
theorem kG (a:AutT) (out:List Bool): ∀s,(jR a out s).length=out.length
 | 0=>rfl
 | s+1=>by rw[jR,DX,kG a out s]
theorem xS {out:List Bool} {s:Nat} (h:s<out.length):(xR a out s=out/\ ¬(hit out (nth a.2.2 s)=true/\nth out s=false))\/(cnt (xR a out s)=cnt out+1/\hit out (nth a.2.2 s)=true/\nth out s=false):=by
 unfold xR
 rw[bN h]
 cases hh:hit out (nth a.2.2 s) with
 | false=>exact .inl ⟨by simp,by simp⟩
 | true =>
  cases hk:out[s] with
  | true=>exact .inl ⟨by simp[Jp h hk],by simp⟩
  | false=>exact .inr ⟨by simp[U7 h hk],rfl,rfl⟩
theorem xa {out:List Bool} : ∀s,s<=out.length->(jR a out s=out/\cnt (jR a out s)=cnt out)\/cnt out<cnt (jR a out s)
 | 0,_=>.inl ⟨rfl,rfl⟩
 | s+1,hs=>by
  have hl:s<(jR a out s).length:=by rw[kG];omega
  have ih:=xa (out:=out) s (by omega)
  rw[jR]
  rcases xS (a:=a) hl with ⟨e,-⟩ | ⟨e,-,-⟩
  ·rw[e];exact ih
  ·rcases ih with ⟨-,h2⟩ | h
   ·exact .inr (by omega)
   ·exact .inr (by omega)
def it (a:AutT):Nat->List Bool
 | 0=>a.2.1
 | j+1=>jR a (it a j) a.2.1.length
theorem pH (a:AutT): ∀j,(it a j).length=a.2.1.length
 | 0=>rfl
 | j+1=>by rw[it,kG,pH a j]
theorem SC (a:AutT) (j:Nat):cnt (it a j)<=a.2.1.length:=by rw[<-pH a j];exact WM _
theorem HP (a:AutT) (j:Nat):(it a (j+1)=it a j)\/cnt (it a j)<cnt (it a (j+1)):=by
 rcases xa (a:=a) (out:=it a j) a.2.1.length (by rw[pH];exact aE _) with h | h
 ·exact .inl h.1
 ·exact .inr h
theorem SD {j k:Nat} (h:it a (j+1)=it a j) (hk:j<=k):it a k=it a j:=by
 induction hk with
 | refl=>rfl
 | step _ ih=>rw[it,ih];exact h
theorem Ow {j k:Nat} (h:it a (j+1)=it a j) (h':it a (k+1)=it a k):it a j=it a k:=by
 rcases Nat.le_total j k with e | e
 ·exact (SD h e).symm
 ·exact SD h' e
theorem U8 (a : AutT) : it a (a.2.1.length + 1) = it a a.2.1.length := by
  have key : ∀ j, it a (j + 1) = it a j \/ j + 1 <= cnt (it a (j + 1)) := by
    intro j
    induction j with
    | zero => rcases HP a 0 with h | h
              · exact .inl h
              · exact .inr (by omega)
    | succ j ih =>
      rcases HP a (j + 1) with h | h
      · exact .inl h
      · rcases ih with h' | h'
        · left; rw [it, h']; exact h'
        · exact .inr (by omega)
  rcases key a.2.1.length with h | h
  · exact h
  · have := SC a (a.2.1.length + 1); omega
def live (a:AutT):List Bool:=it a a.2.1.length
theorem uI (a:AutT):(live a).length=a.2.1.length:=pH a _
theorem Jq {α:Type} [Inhabited α] {row:List α} {p:α->Bool} {k:Nat} (h:k<row.length):(row.take (k+1)).any p=((row.take k).any p || p (nth row (k:Int))):=by
 rw[List.take_succ_eq_append_getElem h,List.any_append,bN h];simp
section
variable (V:VA a n) (hn:n<=1000000)
include V hn
theorem Ox {out:List Bool} {s:Nat} (hs:s<n) (hl:out.length=n):ay (jb a (out,(s:Int))) aW (out,0)=some (.brk (xR a out s,9)):=by
 have hr:=V.rowAt (s:=s) (by omega) (by omega)
 have hls:s<out.length:=by omega
 have:=br (f:=jb a (out,(s:Int))) (fun k=>(if ((nth a.2.2 (s:Int)).take k).any (Ov out) then out.set s true else out,(k:Int))) 9 (fun k hk=>by
  unfold jb
  simp only
  rw[if_pos (by simp;omega),V.get (by omega) (by omega)];simp only[aa]
  rw[V.get2 (by omega) (by omega) hk];simp only[aa]
  rw[Jq (by omega),show nth (nth a.2.2 (s:Int)) (k:Int)=mv a s k from rfl]
  simp only[ah (show k<9223372036854775807 by omega)]
  by_cases c:mv a s k≥0
  ·have hset:(out.set s true).length=n:=by simp[hl]
   have hm:=(V.mv (s:=s) (k:=k) (by omega) (by omega) hk).2
   rw[if_pos (by simpa using c)]
   by_cases q:((nth a.2.2 (s:Int)).take k).any (Ov out)=true
   ·simp only[q,if_true,Bool.true_or]
    rw[aK c (by rw[hset];exact hm),aK (by omega) (by rw[hset];omega)];simp only[aa,Int.toNat_natCast]
    split <;> simp
   ·simp only[q,Bool.false_eq_true,if_false,Bool.false_or,Ov]
    rw[aK c (by rw[hl];exact hm),aK (by omega) (by rw[hl];omega)];simp only[aa,Int.toNat_natCast]
    cases hc:nth out (mv a s k) <;> simp[hc,c]
  ·rw[if_neg (by simpa using c)]
   simp[Ov,c]) (by unfold jb;simp) (by unfold aW;omega)
 have e9:(nth a.2.2 (s:Int)).take 9=nth a.2.2 (s:Int):=List.take_of_length_le (by omega)
 rw[e9] at this
 exact this
theorem FX {out:List Bool} (hl:out.length=n):ay (jc a) aW (out,0)=some (.brk (jR a out n,(n:Int))):=by
 have hlen:=V.len
 refine br (f:=jc a) (fun s=>(jR a out s,(s:Int))) n (fun s hs=>?_) ?_ (uP (by omega))
 ·unfold jc
  simp only
  rw[if_pos (by simp;omega),aG (Ox V hn hs (by rw[kG];exact hl)),ah (by omega)]
  rfl
 ·unfold jc
  simp only
  rw[if_neg (by simp;omega)]
theorem SE:kQ a=some (live a):=by
 have hlen:=V.len
 unfold kQ
 rw[aI (by simp;omega)];simp only[aa,List.nil_append]
 have:=br (f:=lA a) (fun j=>(it a j,(j:Int))) n (fun j hj=>by
  unfold lA
  simp only
  rw[if_pos (by simp;omega),aG (FX V hn (by rw[pH];exact hlen)),ah (by omega),it,hlen]) (by
  unfold lA
  simp only
  rw[if_neg (by simp;omega)]) (uP (by omega))
 exact (aG this).trans (by simp[live,hlen])
theorem Oy {out:List Bool} {g:Bool} {s:Nat} (hs:s<n) (hl:out.length=n):ay (dm (g,(s:Int),out) (nth a.2.2 (s:Int))) aW (g,0,out)=some (.brk (g || (hit out (nth a.2.2 (s:Int)) && !nth out (s:Int)),9,xR a out s)):=by
 have hr:=V.rowAt (s:=s) (by omega) (by omega)
 have hls:s<out.length:=by omega
 have:=br (f:=dm (g,(s:Int),out) (nth a.2.2 (s:Int))) (fun k=>(g || (((nth a.2.2 (s:Int)).take k).any (Ov out) && !nth out (s:Int)),(k:Int),if ((nth a.2.2 (s:Int)).take k).any (Ov out) then out.set s true else out)) 9 (fun k hk=>by
  unfold dm
  simp only
  rw[if_pos (by simp[hr];omega),V.get2 (by omega) (by omega) hk];simp only[aa]
  rw[Jq (by omega),show nth (nth a.2.2 (s:Int)) (k:Int)=mv a s k from rfl]
  simp only[ah (show k<9223372036854775807 by omega)]
  by_cases c:mv a s k≥0
  ·have hset:(out.set s true).length=n:=by simp[hl]
   have hm:=(V.mv (s:=s) (k:=k) (by omega) (by omega) hk).2
   rw[if_pos (by simpa using c)]
   by_cases q:((nth a.2.2 (s:Int)).take k).any (Ov out)=true
   ·simp only[q,if_true,Bool.true_or]
    have hself:nth (out.set s true) (s:Int)=true:=by
     have:=FO (xs:=out) (i:=(s:Int)) (x:=true) (by omega) (by omega)
     simpa using this
    rw[aK c (by rw[hset];exact hm),aK (by omega) (by rw[hset];omega)];simp only[aa,Int.toNat_natCast,hself,if_true]
    split <;> simp
   ·simp only[q,Bool.false_eq_true,if_false,Bool.false_or,Ov,Bool.false_and,Bool.or_false]
    rw[aK c (by rw[hl];exact hm),aK (by omega) (by rw[hl];omega)];simp only[aa,Int.toNat_natCast]
    cases hc:nth out (mv a s k) with
    | false=>simp[c]
    | true =>
     cases hd:nth out (s:Int) with
     | false=>simp[c]
     | true =>
      rw[bN hls] at hd
      simp[c,Jp hls hd]
  ·rw[if_neg (by simpa using c)]
   simp[Ov,c]) (by unfold dm;simp[hr]) (by unfold aW;omega)
 have e9:(nth a.2.2 (s:Int)).take 9=nth a.2.2 (s:Int):=List.take_of_length_le (by omega)
 rw[e9] at this
 have e0:(g || (((nth a.2.2 (s:Int)).take 0).any (Ov out) && !nth out (s:Int)))=g:=by simp
 rw[e0] at this
 exact this
theorem FY {out:List Bool} (hl:out.length=n): ∃g,ay (dn a) aW (false,0,out)=some (.brk (g,(n:Int),jR a out n))/\(g=true↔cnt out<cnt (jR a out n)):=by
 have hlen:=V.len
 have hnl:=V.nlen
 obtain ⟨s',e,⟨g,rfl,hg⟩⟩:=nR (f:=dn a) (fun s st=> ∃g,st=(g,(s:Int),jR a out s)/\(g=true↔cnt out<cnt (jR a out s))) n (by
  rintro s st hs ⟨g,rfl,hg⟩
  have hpl:(jR a out s).length=n:=by rw[kG];exact hl
  unfold dn
  simp only
  rw[if_pos (by simp;omega),V.get (by omega) (by omega)];simp only[aa]
  rw[aG (Oy V hn hs hpl),ah (by omega)]
  refine ⟨_,rfl,_,rfl,?_⟩
  rw[Bool.or_eq_true,ak,Bool.not_eq_true',hg,jR]
  have hc:=xa (a:=a) (out:=out) s (by omega)
  rcases xS (a:=a) (out:=jR a out s) (s:=s) (by omega) with ⟨e,k⟩ | ⟨e,k⟩
  ·rw[e];exact ⟨fun h=>h.elim id fun h=>absurd h k,.inl⟩
  ·rw[e]
   exact ⟨fun _=>by rcases hc with ⟨-,h⟩ | h <;> omega,fun _=>.inr k⟩) (by
  rintro s ⟨g,rfl,hg⟩
  unfold dn
  simp only
  rw[if_neg (by simp;omega)]) ⟨false,rfl,by simp[jR]⟩ (uP (by omega))
 exact ⟨g,e,hg⟩
theorem WN:eR a=some (live a):=by
 have hlen:=V.len
 unfold eR
 rw[aI (by simp;omega)];simp only[aa,List.nil_append]
 obtain ⟨o,e,i,rfl,hi⟩:=cK (f:=gX a) (fun i s=> ∃b,s=(b,it a i)/\(b=true->i<=cnt (it a i))/\(b=false->it a (i+1)=it a i)) (fun o=> ∃i,o= .brk (false,it a i)/\it a (i+1)=it a i) (n+1) (s:=(true,a.2.1)) (by
  rintro i s hi ⟨b,rfl,h1,h2⟩
  unfold gX
  simp only
  cases b with
  | false=>exact .inr ⟨_,by rw[if_neg (by simp)],(fun s' e=>by cases e),i,rfl,h2 rfl⟩
  | true =>
   have hc:=SC a i
   have h1:=h1 rfl
   obtain ⟨g,e,hg⟩:=FY V hn (out:=it a i) (by rw[pH];exact hlen)
   have ee:jR a (it a i) n=it a (i+1):=by rw[it,hlen]
   rw[ee] at e hg
   refine .inl ⟨by omega,(g,it a (i+1)),by rw[if_pos rfl,aG e],g,rfl,fun h=>?_,fun h=>?_⟩
   ·have:=hg.1 h;omega
   ·have hs:it a (i+1)=it a i:=by
     rcases HP a i with h' | h'
     ·exact h'
     ·rw[<-hg,h] at h';cases h'
    rw[it,hs];exact hs) ⟨true,rfl,fun _=>Nat.zero_le _,fun h=>by cases h⟩ (uP (by omega))
 rw[aG e]
 have:=Ow hi (U8 a)
 simp[live,this]
end
end
end D
namespace D
open Go.RowKit
def nothing:AutT:=(0,[false],[[-1,-1,-1,-1,-1,-1,-1,-1,-1]])
theorem Oz:oO=some nothing:=by kernel_rfl
theorem OA:ud=some nothing:=by kernel_rfl
theorem OB {n:Nat} (h:n<=1000000):iOk (n:Int)=true:=by
 have h1:i64.min= -9223372036854775808:=by decide
 have h2:i64.max=9223372036854775807:=by decide
 simp only[iOk,Lit.wf,h1,h2,ak,decide_eq_true_eq]
 omega
theorem take_one {α:Type} [Inhabited α] {xs:List α} {k:Nat} (h:k<xs.length):xs.take (k+1)=xs.take k++ [nth xs (k:Int)]:=by
 rw[List.take_succ_eq_append_getElem h,bN h]
theorem jS {α:Type} [Inhabited α] {xs ys:List α} (h:xs <+:ys) {i:Int} (h0:0<=i) (h1:i<xs.length):nth ys i=nth xs i:=by
 obtain ⟨t,rfl⟩:=h
 exact iz h0 h1
structure NumOk {κ:Type} [DecidableEq κ] (nx:κ->List (Option κ)) (first:κ) (G:κ->Prop) (B:Nat):Prop where
 g0:G first
 gn: ∀x,G x-> ∀y,some y∈nx x->G y
 len: ∀x,G x->(nx x).length=9
 bound: ∀l:List κ,l.Nodup->(∀x∈l,G x)->l.length<=B
section
variable {κ:Type} [DecidableEq κ] [Inhabited κ] {nx:κ->List (Option κ)} {first:κ} {G:κ->Prop} {B:Nat}
theorem NumOk.le (H:NumOk nx first G B) (i:Nat):(bfS nx first i).length<=B:=H.bound _ (nT i) (kF H.g0 H.gn i)
theorem NumOk.at (H:NumOk nx first G B) {i:Nat} (h:i<(bfS nx first i).length):G (nth (bfS nx first i) (i:Int)):=kF H.g0 H.gn i _ (iy (by omega) (by omega))
theorem kH {i:Nat} (h:i<(bfS nx first i).length):bfS nx first (i+1)=nbS (bfS nx first i) (nx (nth (bfS nx first i) (i:Int))):=by rw[DI h,bN h]
theorem vV {i:Nat} (h:i<(bfS nx first i).length):bfR nx first (i+1)=bfR nx first i++ [nbR (bfS nx first i) (nx (nth (bfS nx first i) (i:Int)))]:=by rw[vN h,bN h]
theorem yO {β:Type} {acc:κ->β} {i:Nat} (h:i<(bfS nx first i).length):((bfS nx first (i+1)).take (i+1)).map acc=((bfS nx first i).take i).map acc++ [acc (nth (bfS nx first i) (i:Int))]:=by
 have hp:=bQ (nx:=nx) (first:=first) i
 have hl:=hp.length_le
 have e:(bfS nx first (i+1)).take i=(bfS nx first i).take i:=by
  obtain ⟨t,ht⟩:=hp
  rw[<-ht,List.take_append_of_le_length (by omega)]
 rw[take_one (by omega),aM,e,jS hp (by omega) (by omega)];rfl
def MapOf (M:List (κ×Int)) (l:List κ):Prop:=M.length=l.length/\ ∀x,M.lookup x=if x∈l then some (l.idxOf x:Int) else none
theorem MapOf.one (x:κ):MapOf [(x,0)] [x]:=by
 refine ⟨rfl,fun y=>?_⟩
 rw[List.lookup_cons]
 by_cases e:y=x
 ·subst e;simp
 ·simp only[show (y==x)=false from by simp[e]];simp[e]
theorem MapOf.put {M:List (κ×Int)} {l:List κ} (h:MapOf M l) {x:κ} (hx:x∉l):MapOf ((x,(l.length:Int))::M) (l++ [x]):=by
 refine ⟨by simp[h.1],fun y=>?_⟩
 rw[List.lookup_cons]
 by_cases e:y=x
 ·subst e
  simp[List.idxOf_append,hx]
 ·simp only[show (y==x)=false from by simp[e],h.2 y,List.mem_append,List.mem_singleton,e,or_false]
  by_cases k:y∈l
  ·simp[k,List.idxOf_append]
  ·simp[k]
end
section
variable {nx:Int->List (Option Int)} {first:Int} {G:Int->Prop} {B:Nat}
theorem FZ {p3:Int->Int->Option (Int×Bool)} {l:List Int} {M:List (Int×Int)} {os:List (Option Int)} {acs:List Bool} {rws:List (List Int)} {i:Nat}
  (hi:i<l.length) (hos:os.length=9) (hM:MapOf M l) (hok: ∀y,some y∈os->iOk y=true) (hB: ∀k,(nbS l (os.take k)).length<=1000000)
  (hp: ∀(k:Nat) (hk:k<9),∃j,p3 (nth l (i:Int)) (k:Int)=some (match nth os (k:Int) with | some y=>(y,true) | none=>(j,false))) :
  ∃M',ay (ep p3 (l,M,(i:Int),0,acs,rws)) aW (l,M,[],0)=some (.brk (nbS l os,M',nbR l os,9))/\MapOf M' (nbS l os):=by
 obtain ⟨s',e,M',rfl,hM'⟩:=nR (f:=ep p3 (l,M,(i:Int),0,acs,rws)) (fun k s=> ∃M',s=(nbS l (os.take k),M',nbR l (os.take k),(k:Int))/\MapOf M' (nbS l (os.take k))) 9 (by
  rintro k s hk ⟨M1,rfl,hM1⟩
  have hpre:=k9 l (os.take k)
  have hlen:=hpre.length_le
  have hBk:=hB k
  obtain ⟨j,hj⟩:=hp k hk
  have hrl:(nbR l (os.take k)).length<=9:=by rw[eP,aA];omega
  unfold ep
  simp only
  rw[if_pos (by simp;omega),aK (by omega) (by omega)];simp only[aa]
  rw[jS hpre (by omega) (by omega),hj,take_one (by omega),vM,sS]
  simp only[aa,ah (show k<9223372036854775807 by omega)]
  cases ho:nth os (k:Int) with
  | none =>
   simp only[Bool.false_eq_true,if_false]
   rw[aI (by simp;omega)]
   exact ⟨_,rfl,M1,rfl,hM1⟩
  | some y =>
   have hy:iOk y=true:=hok y (ho ▸ iy (by omega) (by omega))
   simp only[if_true]
   rw[show chk (iOk y=true)=some () from by unfold chk;rw[if_pos hy]];simp only[aa]
   rw[show lkM M1 y=_ from hM1.2 y]
   by_cases c:y∈nbS l (os.take k)
   ·simp only[c,if_true,Option.isSome_some,Option.getD_some,aa]
    rw[aI (by simp;omega)]
    exact ⟨_,rfl,M1,by rw[mo c];rfl,by rw[mo c];exact hM1⟩
   ·have hput:Lr M1 iOk iOk y ((nbS l (os.take k)).length:Int)=some ((y,((nbS l (os.take k)).length:Int))::M1):=by
     unfold Lr
     rw[if_pos ⟨by have:=hM1.1;omega,hy,OB hBk⟩]
    simp only[c,if_false,Option.isSome_none,Bool.false_eq_true,hput,aa]
    rw[aI (by simp;omega)];simp only[aa]
    rw[aI (by simp;omega)]
    refine ⟨_,rfl,(y,((nbS l (os.take k)).length:Int))::M1,?_,?_⟩
    ·rw[ld c];simp only[nbI,pE c]
    ·rw[ld c];exact hM1.put c) (by
  rintro s ⟨M1,rfl,hM1⟩
  unfold ep
  simp) (s:=(l,M,[],0)) ⟨M,rfl,hM⟩ (by unfold aW;omega)
 rw[List.take_of_length_le (by omega)] at e hM'
 exact ⟨M',e,hM'⟩
theorem WO {most:Int} {p2:Int->Option Bool} {p3:Int->Int->Option (Int×Bool)} {acc:Int->Bool} (H:NumOk nx first G B) (hB:B<=1000000) (hmost:(B:Int)<=most) (hok: ∀x,G x->iOk x=true)
  (h2: ∀x,G x->p2 x=some (acc x)) (h3: ∀x (k:Nat),G x->k<9-> ∃j,p3 x (k:Int)=some (match nth (nx x) (k:Int) with | some y=>(y,true) | none=>(j,false))) :
  ∃N,bfE nx first N/\eL first most p2 p3=some ((0,(bfS nx first N).map acc,bfR nx first N),true):=by
 obtain ⟨N,hNB,hN⟩:=Sj (nx:=nx) (first:=first) (H.le)
 refine ⟨N,hN,?_⟩
 unfold eL
 rw[show Lr ([] :List (Int×Int)) iOk iOk first 0=some [(first,0)] from by unfold Lr;rw[if_pos ⟨by simp,hok _ H.g0,by decide⟩]];simp only[aa]
 obtain ⟨s',e,M',rfl,hM'⟩:=nR (f:=bX most p2 p3) (fun i s=> ∃M,s=(bfS nx first i,M,(i:Int),0,((bfS nx first i).take i).map acc,bfR nx first i)/\MapOf M (bfS nx first i)) N (by
  rintro i s hi ⟨M,rfl,hM⟩
  have hlt:=hN.2 i hi
  have hG:=H.at hlt
  have hle:=H.le i
  have hle':=H.le (i+1)
  obtain ⟨M',e,hM'⟩:=FZ (p3:=p3) (l:=bfS nx first i) (M:=M) (os:=nx (nth (bfS nx first i) (i:Int))) (acs:=((bfS nx first i).take i).map acc) (rws:=bfR nx first i) hlt (H.len _ hG) hM (fun y hy=>hok y (H.gn _ hG y hy))
   (fun k=>by
    have:(nbS (bfS nx first i) ((nx (nth (bfS nx first i) (i:Int))).take k)).length<=B:=H.bound _ (sg (nT i)) fun x hx=>by
     rcases w5.1 hx with hx | hx
     ·exact kF H.g0 H.gn i x hx
     ·exact H.gn _ hG x (List.mem_of_mem_take hx)
    omega) (fun k hk=>h3 _ k hG hk)
  unfold bX
  simp only
  rw[if_pos (by simp;omega),aG e,<-kH hlt]
  rw[<-kH hlt] at hM'
  have hl2:=(bQ (nx:=nx) (first:=first) i).length_le
  simp only
  rw[if_neg (by simp;omega),aK (by omega) (by omega)];simp only[aa]
  rw[jS (bQ i) (by omega) (by omega),h2 _ hG];simp only[aa]
  have hr:(bfR nx first i).length=i:=jQ fun j hj=>hN.2 j (by omega)
  rw[aI (by simp;omega)];simp only[aa]
  rw[aI (by simp;omega)];simp only[aa,ah (show i<9223372036854775807 by omega)]
  exact ⟨_,rfl,M',by rw[yO hlt,vV hlt],hM'⟩) (by
  rintro s ⟨M,rfl,hM⟩
  unfold bX
  simp only
  rw[if_neg (by have:=hN.1;simp;omega)]) (s:=([first],[(first,0)],0,0,[],[])) ⟨_,rfl,MapOf.one first⟩ (uP (by omega))
 rw[aG e]
 simp only
 rw[List.take_of_length_le (by have:=hN.1;omega)]
end
theorem SF {l:List Int} {x:Int} (h:l.length<=9223372036854775807):nw l x=some (if x∈l then (l.idxOf x:Int) else -1):=by
 unfold nw
 obtain ⟨o,e,hq⟩:=cK (f:=oN l x) (fun i s=>s=(i:Int)/\x∉l.take i) (fun o=>(x∈l/\o= .ret (l.idxOf x:Int))\/(x∉l/\ ∃s,o= .brk s)) l.length (s:=0) (by
  rintro i s hi ⟨rfl,hx⟩
  unfold oN
  by_cases hl:i<l.length
  ·rw[if_pos (by simp;omega),aK (by omega) (by omega)];simp only[aa]
   by_cases c:nth l (i:Int)=x
   ·refine .inr ⟨_,by rw[if_pos (by simpa using c)],(fun s' e=>by cases e),.inl ?_⟩
    have e:l=l.take i++(x::l.drop (i+1)):=by
     rw[<-c,bN hl,<-List.drop_eq_getElem_cons hl,List.take_append_drop]
    refine ⟨by rw[e];simp,?_⟩
    congr 1
    conv=>rhs;rw[e,List.idxOf_append,if_neg hx,List.idxOf_cons_self]
    simp[aA];first | done | omega
   ·refine .inl ⟨hl,_,by rw[if_neg (by simpa using c)],by rw[ah (by omega)],?_⟩
    rw[take_one hl,List.mem_append,List.mem_singleton]
    rintro (h | h)
    ·exact hx h
    ·exact c h.symm
  ·refine .inr ⟨_,by rw[if_neg (by simp;omega)],(fun s' e=>by cases e),.inr ⟨?_,_,rfl⟩⟩
   rwa [List.take_of_length_le (by omega)] at hx) ⟨rfl,by simp⟩ (uP h)
 rcases hq with ⟨hx,rfl⟩ | ⟨hx,s,rfl⟩
 ·rw[cg e,if_pos hx]
 ·rw[aG e,if_neg hx]
section
variable {a:AutT} {n:Nat} {c:List Int} {lv:List Bool} {nx:Int->List (Option Int)} {G:Int->Prop} {B:Nat} {acc:Int->Bool}
def good (n:Nat) (lv:List Bool) (r:Int):Prop:=0<=r/\r<n/\nth lv r=true
def uJ (a:AutT) (c:List Int) (lv:List Bool) (r:Int):List (Option Int):=(List.range 9).map fun k=>if mv a r k≥0/\nth lv (mv a r k)=true then some (nth c (mv a r k)) else none
theorem Jr {r:Int} {k:Nat} (hk:k<9):nth (uJ a c lv r) (k:Int)=if mv a r k≥0/\nth lv (mv a r k)=true then some (nth c (mv a r k)) else none:=by
 have:k<(uJ a c lv r).length:=by simp[uJ];omega
 rw[bN this];simp[uJ]
def RepsOf (n:Nat) (lv:List Bool) (c:List Int) (rs l:List Int):Prop:=rs.length=l.length/\ ∀j:Nat,j<l.length->good n lv (nth rs j)/\nth c (nth rs j)=nth l (j:Int)
theorem RepsOf.snoc {rs l:List Int} (h:RepsOf n lv c rs l) {t:Int} (ht:good n lv t):RepsOf n lv c (rs++ [t]) (l++ [nth c t]):=by
 refine ⟨by simp[h.1],fun j hj=>?_⟩
 by_cases e:j<l.length
 ·rw[iz (by omega) (by have:=h.1;omega),iz (by omega) (by omega)];exact h.2 j e
 ·have e:j=l.length:=by simp at hj;omega
  subst e
  have h1:nth (rs++ [t]) (l.length:Int)=t:=by rw[bN (by simp[h.1])];simp[<-h.1]
  have h2:nth (l++ [nth c t]) (l.length:Int)=nth c t:=by rw[bN (by simp)];simp
  rw[h1,h2];exact ⟨ht,rfl⟩
theorem OC (V:VA a n) (hn:n<=1000000) (hc:c.length=n) (hlv:lv.length=n) {l rs:List Int} {acs:List Bool} {rws:List (List Int)} {i:Nat} (hi:i<l.length) (hR:RepsOf n lv c rs l) {os:List (Option Int)} (hos:os.length=9)
  (ho: ∀r,good n lv r->nth c r=nth l (i:Int)->uJ a c lv r=os) (hB: ∀k,(nbS l (os.take k)).length<=1000000) :
  ∃rs',ay (gy a c lv (l,rs,(i:Int),0,acs,rws)) aW (l,rs,[],0)=some (.brk (nbS l os,rs',nbR l os,9))/\RepsOf n lv c rs' (nbS l os):=by
 obtain ⟨s',e,rs',rfl,hR'⟩:=nR (f:=gy a c lv (l,rs,(i:Int),0,acs,rws)) (fun k s=> ∃rs',s=(nbS l (os.take k),rs',nbR l (os.take k),(k:Int))/\RepsOf n lv c rs' (nbS l (os.take k))) 9 (by
  rintro k s hk ⟨r1,rfl,hR1⟩
  have hpre:=k9 l (os.take k)
  have hlen:=hpre.length_le
  have hBk:=hB k
  have hrl:(nbR l (os.take k)).length<=9:=by rw[eP,aA];omega
  have hr1:=hR1.1
  obtain ⟨⟨g0,g1,g2⟩,gc⟩:=hR1.2 i (by omega)
  rw[jS hpre (by omega) (by omega)] at gc
  have hsu:=ho _ ⟨g0,g1,g2⟩ gc
  have hok:nth os (k:Int)=if mv a (nth r1 (i:Int)) k≥0/\nth lv (mv a (nth r1 (i:Int)) k)=true then some (nth c (mv a (nth r1 (i:Int)) k)) else none:=by
   rw[<-hsu];exact Jr hk
  have hmv:=V.mv (s:=nth r1 (i:Int)) (k:=k) g0 g1 hk
  unfold gy
  simp only
  rw[if_pos (by simp;omega),aK (xs:=r1) (by omega) (by omega)];simp only[aa]
  rw[V.get g0 g1];simp only[aa]
  rw[V.get2 g0 g1 hk,take_one (by omega),vM,sS]
  simp only[aa,ah (show k<9223372036854775807 by omega)]
  by_cases c1:mv a (nth r1 (i:Int)) k≥0
  ·rw[if_pos (by simpa using c1),aK (xs:=lv) c1 (by omega)];simp only[aa]
   by_cases c2:nth lv (mv a (nth r1 (i:Int)) k)=true
   ·rw[if_pos ⟨c1,c2⟩] at hok
    rw[if_pos c2,aK (xs:=c) c1 (by omega),hok];simp only[aa]
    rw[SF (by omega)];simp only[aa]
    by_cases c3:nth c (mv a (nth r1 (i:Int)) k)∈nbS l (os.take k)
    ·rw[if_pos c3,if_neg (by simp)];simp only[aa]
     rw[aI (by simp;omega)]
     exact ⟨_,rfl,r1,by rw[mo c3];rfl,by rw[mo c3];exact hR1⟩
    ·rw[if_neg c3,if_pos (by decide)]
     rw[aI (by simp;omega)];simp only[aa]
     rw[aI (by simp;omega)];simp only[aa]
     rw[aI (by simp;omega)];simp only[aa]
     refine ⟨_,rfl,r1++ [mv a (nth r1 (i:Int)) k],?_,?_⟩
     ·rw[ld c3];simp only[nbI,pE c3]
     ·rw[ld c3];exact hR1.snoc ⟨c1,hmv.2,c2⟩
   ·rw[if_neg (fun h=>c2 h.2)] at hok
    rw[if_neg c2,hok];simp only[aa]
    rw[aI (by simp;omega)]
    exact ⟨_,rfl,r1,rfl,hR1⟩
  ·rw[if_neg (fun h=>c1 h.1)] at hok
   rw[if_neg (by simpa using c1),hok];simp only[aa]
   rw[aI (by simp;omega)]
   exact ⟨_,rfl,r1,rfl,hR1⟩) (by
  rintro s ⟨r1,rfl,hR1⟩
  unfold gy
  simp) (s:=(l,rs,[],0)) ⟨rs,rfl,hR⟩ (by unfold aW;omega)
 rw[List.take_of_length_le (by omega)] at e hR'
 exact ⟨rs',e,hR'⟩
theorem WQ (V:VA a n) (hn:n<=1000000) (hc:c.length=n) (hlv:lv.length=n) (hs:nth lv a.1=true) (H:NumOk nx (nth c a.1) G B) (hB:B<=1000000)
  (hnx: ∀r,good n lv r->nx (nth c r)=uJ a c lv r) (hacc: ∀r,good n lv r->acc (nth c r)=nth a.2.1 r) :
  ∃N,bfE nx (nth c a.1) N/\iH a c lv=some (0,(bfS nx (nth c a.1) N).map acc,bfR nx (nth c a.1) N):=by
 obtain ⟨N,hNB,hN⟩:=Sj (nx:=nx) (first:=nth c a.1) (H.le)
 refine ⟨N,hN,?_⟩
 have hst:=V.start
 have hlen:=V.len
 unfold iH
 rw[aK hst.1 (by omega)];simp only[aa]
 rw[if_pos hs,aK hst.1 (by omega)];simp only[aa]
 obtain ⟨s',e,rs,rfl,hR⟩:=nR (f:=jm a c lv) (fun i s=> ∃rs,s=(bfS nx (nth c a.1) i,rs,(i:Int),0,((bfS nx (nth c a.1) i).take i).map acc,bfR nx (nth c a.1) i)/\RepsOf n lv c rs (bfS nx (nth c a.1) i)) N (by
  rintro i s hi ⟨rs,rfl,hR⟩
  have hlt:=hN.2 i hi
  have hG:=H.at hlt
  have hle:=H.le i
  have hle':=H.le (i+1)
  obtain ⟨rs',e,hR'⟩:=OC (acs:=((bfS nx (nth c a.1) i).take i).map acc) (rws:=bfR nx (nth c a.1) i) V hn hc hlv hlt hR (os:=nx (nth (bfS nx (nth c a.1) i) (i:Int))) (H.len _ hG) (fun r hr e=>by rw[<-hnx r hr,e]) (fun k=>by
    have:(nbS (bfS nx (nth c a.1) i) ((nx (nth (bfS nx (nth c a.1) i) (i:Int))).take k)).length<=B:=H.bound _ (sg (nT i)) fun x hx=>by
     rcases w5.1 hx with hx | hx
     ·exact kF H.g0 H.gn i x hx
     ·exact H.gn _ hG x (List.mem_of_mem_take hx)
    omega)
  unfold jm
  simp only
  rw[if_pos (by simp;omega),aG e]
  rw[<-kH hlt] at hR'
  have hl2:=(bQ (nx:=nx) (first:=nth c a.1) i).length_le
  have hr1:=hR'.1
  obtain ⟨⟨g0,g1,g2⟩,gc⟩:=hR'.2 i (by omega)
  rw[jS (bQ i) (by omega) (by omega)] at gc
  rw[aK (xs:=rs') (by omega) (by omega)];simp only[aa]
  rw[V.acc g0 g1,<-hacc _ ⟨g0,g1,g2⟩,gc];simp only[aa]
  have hr:(bfR nx (nth c a.1) i).length=i:=jQ fun j hj=>hN.2 j (by omega)
  rw[aI (by simp;omega)];simp only[aa]
  rw[aI (by simp;omega)];simp only[aa,ah (show i<9223372036854775807 by omega)]
  exact ⟨_,rfl,rs',by rw[<-kH hlt,yO hlt,vV hlt],hR'⟩) (by
  rintro s ⟨rs,rfl,hR⟩
  unfold jm
  simp only
  rw[if_neg (by have:=hN.1;simp;omega)]) (s:=([nth c a.1],[a.1],0,0,[],[])) ⟨[a.1],rfl,rfl,fun j hj=>by
   obtain rfl:j=0:=by simpa [bfS] using hj
   exact ⟨⟨hst.1,hst.2,hs⟩,rfl⟩⟩ (uP (by omega))
 rw[aG e]
 simp only
 rw[List.take_of_length_le (by have:=hN.1;omega)]
theorem HQ (V:VA a n) (hlv:lv.length=n) (hs:nth lv a.1=false):iH a c lv=some nothing:=by
 have hst:=V.start
 unfold iH
 rw[aK hst.1 (by omega)];simp only[aa]
 rw[hs,Oz];rfl
end
end D
namespace D
open Go.RowKit
abbrev Ge:=(List Int)×Int×Int×(List Int)×Bool
abbrev Ri (x:Int) (j:Nat):Bool:=(yS (th x (j:Int)) 1)==1
def Rj (F:List Int) (set m0:Int):Nat->Int
 | 0=>m0
 | i+1=>if Ri set (i+1) then orI (Rj F set m0 i) (nth F (i:Int)) else Rj F set m0 i
def pick (L:List Int) (m letter:Int):Nat->Int
 | 0=>0
 | i+1=>if nth L (i:Int)=letter/\Ri m i=true then orI (pick L m letter i) (H6 1 ((i+1:Nat):Int)) else pick L m letter i
def aft (p:Ge) (set letter:Int):Int:=pick p.1 (Rj p.2.2.2.1 set (if (yS set 1)==1 then p.2.1 else 0) p.2.2.2.1.length) letter p.1.length
def vW (p:Ge) (set:Int):Bool:=if (yS set 1)==1 then (if p.2.2.2.2 then true else (yS (th set 1) p.2.2.1) !=0) else (yS (th set 1) p.2.2.1) !=0
theorem sn (i:Nat):chk (0<=(i:Int))=some ():=by unfold chk;rw[if_pos (by omega)]
theorem U9 {p:Ge} {set letter:Int} (hl:p.2.2.2.1.length=p.1.length) (hb:p.1.length<=1000000):om p set letter=some (aft p set letter):=by
 have h0: ∀m0,ay (ic p set) aW (m0,0)=some (.brk (Rj p.2.2.2.1 set m0 p.1.length,(p.1.length:Int))):=fun m0 =>
  br (f:=ic p set) (fun i=>(Rj p.2.2.2.1 set m0 i,(i:Int))) p.1.length (fun i hi=>by
   unfold ic
   simp only
   rw[if_pos (by simp;omega),ah (by omega),sn];simp only[aa]
   rw[Rj]
   by_cases c:Ri set (i+1)=true
   ·rw[if_pos c,if_pos c,aK (by omega) (by omega)];rfl
   ·rw[if_neg c,if_neg c];rfl) (by unfold ic;simp) (uP (by omega))
 have h1: ∀s7:Int×Int,ay (ig p letter s7) aW (0,0)=some (.brk (pick p.1 s7.1 letter p.1.length,(p.1.length:Int))):=fun s7 =>
  br (f:=ig p letter s7) (fun i=>(pick p.1 s7.1 letter i,(i:Int))) p.1.length (fun i hi=>by
   unfold ig
   simp only
   rw[if_pos (by simp;omega),ah (by omega),sn,sn];simp only[aa]
   rw[pick]
   by_cases c:Ri s7.1 i=true
   ·rw[if_pos c,aK (by omega) (by omega)];simp only[aa]
    by_cases d:nth p.1 (i:Int)=letter
    ·rw[if_pos (by simpa using d),if_pos ⟨d,c⟩];rfl
    ·rw[if_neg (by simpa using d),if_neg (fun h=>d h.1)];rfl
   ·rw[if_neg c,if_neg (fun h=>c h.2)];rfl) (by unfold ig;simp) (uP (by omega))
 unfold om aft
 rw[hl]
 by_cases c:((yS set 1)==1)=true
 ·rw[if_pos c,if_pos c];simp only[aa]
  rw[aG (h0 _),aG (h1 _)]
 ·rw[if_neg c,if_neg c];simp only[aa]
  rw[aG (h0 _),aG (h1 _)]
theorem Va {p:Ge} {set letter:Int} (hl:p.2.2.2.1.length=p.1.length) (hb:p.1.length<=1000000):fZ p set letter=some (aft p set letter):=by
 have h0: ∀m0,ay (cZ p set) aW (m0,0)=some (.brk (Rj p.2.2.2.1 set m0 p.2.2.2.1.length,(p.2.2.2.1.length:Int))):=fun m0 =>
  br (f:=cZ p set) (fun i=>(Rj p.2.2.2.1 set m0 i,(i:Int))) p.2.2.2.1.length (fun i hi=>by
   unfold cZ
   simp only
   rw[if_pos (by simp;omega),aK (by omega) (by omega)];simp only[aa]
   rw[ah (by omega),sn];simp only[aa]
   rw[Rj]
   by_cases c:Ri set (i+1)=true
   ·rw[if_pos c,if_pos c];rfl
   ·rw[if_neg c,if_neg c];rfl) (by unfold cZ;simp) (uP (by omega))
 have h1: ∀s7:Int×Int,ay (c7 p letter s7) aW (0,0)=some (.brk (pick p.1 s7.1 letter p.1.length,(p.1.length:Int))):=fun s7 =>
  br (f:=c7 p letter s7) (fun i=>(pick p.1 s7.1 letter i,(i:Int))) p.1.length (fun i hi=>by
   unfold c7
   simp only
   rw[if_pos (by simp;omega),aK (by omega) (by omega)];simp only[aa]
   rw[ah (by omega),sn,sn];simp only[aa]
   rw[pick]
   by_cases d:nth p.1 (i:Int)=letter
   ·rw[if_pos (by simpa using d)]
    by_cases c:Ri s7.1 i=true
    ·rw[if_pos c,if_pos ⟨d,c⟩];rfl
    ·rw[if_neg c,if_neg (fun h=>c h.2)];rfl
   ·rw[if_neg (by simpa using d),if_neg (fun h=>d h.1)];rfl) (by unfold c7;simp) (uP (by omega))
 unfold fZ aft
 by_cases c:((yS set 1)==1)=true
 ·rw[if_pos c,if_pos c];simp only[aa]
  rw[aG (h0 _),aG (h1 _)]
 ·rw[if_neg c,if_neg c];simp only[aa]
  rw[aG (h0 _),aG (h1 _)]
theorem WR (p:Ge) (x:Int):lz p x=some (vW p x):=by
 unfold lz vW
 split <;> (try split) <;> rfl
theorem WS (p:Ge) (x:Int):dk p x=some (vW p x):=by
 unfold dk vW
 split <;> (try split) <;> rfl
theorem KP (x:Int): -9223372036854775808<=i64.wrap x/\i64.wrap x<=9223372036854775807:=by
 simp only[IntKind.wrap,IntKind.bits,IntKind.signed,Bool.true_and]
 split <;> rename_i h <;> simp at h <;> omega
theorem Vc (x:Int):iOk (i64.wrap x)=true:=by
 have h1:i64.min= -9223372036854775808:=by decide
 have h2:i64.max=9223372036854775807:=by decide
 have h3:=KP x
 simp only[iOk,Lit.wf,h1,h2,ak,decide_eq_true_eq]
 omega
theorem WU (m n:Int):iOk (orI m n)=true:=Vc _
theorem OD (L:List Int) (m letter:Int): ∀i,iOk (pick L m letter i)=true
 | 0=>by unfold pick;decide
 | i+1=>by
  rw[pick]
  split
  ·exact WU _ _
  ·exact OD L m letter i
def nxS (p:Ge) (x:Int):List (Option Int):=(List.range 9).map fun k:Nat=>if aft p x (k:Int)=0 then none else some (aft p x (k:Int))
theorem SG {p:Ge} {x:Int} {k:Nat} (hk:k<9):nth (nxS p x) (k:Int)=if aft p x k=0 then none else some (aft p x k):=by
 have:k<(nxS p x).length:=by simp[nxS];omega
 rw[bN this];simp[nxS]
theorem DY (p:Ge) (x:Int):(nxS p x).length=9:=by simp[nxS]
theorem WV {p:Ge} {x y:Int} (h:some y∈nxS p x):iOk y=true:=by
 obtain ⟨k,hk,e⟩:=List.mem_map.1 h
 split at e
 ·cases e
 ·obtain rfl:=ae e
  exact OD _ _ _ _
theorem OE {κ:Type} [DecidableEq κ] : ∀(l:List κ) (os:List (Option κ)),(nbS l os).length<=l.length+os.length
 | l,[] =>by simp[nbS]
 | l,o::os=>by
  have h:=OE (nbL l o) os
  have h2:(nbL l o).length<=l.length+1:=by
   cases o with
   | none=>simp[nbL]
   | some x=>unfold nbL;simp only;split <;> simp
  show (nbS (nbL l o) os).length<=_
  simp only[al];omega
section
variable {κ:Type} [DecidableEq κ] (nx:κ->List (Option κ)) (first:κ) (acc:κ->Bool) (most:Nat)
def goM:Nat->Nat->AutT×Bool
 | 0,i=>((0,[],[]),false)
 | f+1,i=>if i<(bfS nx first i).length then (if (bfS nx first (i+1)).length>most then ((0,[],[]),false) else goM f (i+1)) else ((0,((bfS nx first i).take i).map acc,bfR nx first i),true)
end
section
variable {κ:Type} [DecidableEq κ] {nx:κ->List (Option κ)} {first:κ} {acc:κ->Bool} {most:Nat}
theorem DZ {i:Nat} (h: ∀j,j<i->j<(bfS nx first j).length):i<=(bfS nx first i).length:=by
 cases i with
 | zero=>omega
 | succ i =>
  have h1:=h i (by omega)
  have h2:=(bQ (nx:=nx) (first:=first) i).length_le
  omega
theorem Js {S:Type} {f:S->Option (Out (AutT×Bool) S)} (hm:most<=1000000) (h1:1<=most) (st:Nat->S->Prop)
  (hs: ∀i s,st i s->(∀j,j<i->j<(bfS nx first j).length)->(bfS nx first i).length<=most->i<(bfS nx first i).length->((bfS nx first (i+1)).length>most->f s=some (.ret ((0,[],[]),false)))/\((bfS nx first (i+1)).length<=most-> ∃s',f s=some (.nxt s')/\st (i+1) s'))
  (he: ∀i s,st i s-> ¬i<(bfS nx first i).length->f s=some (.brk s)) {s:S} (h0:st 0 s) :
  (ay f aW s=some (.ret ((0,[],[]),false))/\goM nx first acc most (most+2) 0=((0,[],[]),false)) \/
  ∃N s',ay f aW s=some (.brk s')/\st N s'/\bfE nx first N/\N<=most/\goM nx first acc most (most+2) 0=((0,(bfS nx first N).map acc,bfR nx first N),true):=by
 obtain ⟨o,e,hq⟩:=cK (f:=f) (fun i s=>st i s/\(∀j,j<i->j<(bfS nx first j).length)/\(bfS nx first i).length<=most/\goM nx first acc most (most+2) 0=goM nx first acc most (most+2 - i) i)
  (fun o=>(o= .ret ((0,[],[]),false)/\goM nx first acc most (most+2) 0=((0,[],[]),false))\/ ∃N s',o= .brk s'/\st N s'/\bfE nx first N/\N<=most/\goM nx first acc most (most+2) 0=((0,(bfS nx first N).map acc,bfR nx first N),true)) most (s:=s) (by
  rintro i s hi ⟨k1,k2,k3,k4⟩
  have hle:=DZ k2
  rw[show most+2 - i=(most+1 - i)+1 from by omega] at k4
  have k5:goM nx first acc most (most+1 - i+1) i=if i<(bfS nx first i).length then (if (bfS nx first (i+1)).length>most then ((0,[],[]),false) else goM nx first acc most (most+1 - i) (i+1)) else ((0,((bfS nx first i).take i).map acc,bfR nx first i),true):=rfl
  rw[k5] at k4
  by_cases c:i<(bfS nx first i).length
  ·rw[if_pos c] at k4
   obtain ⟨q1,q2⟩:=hs i s k1 k2 k3 c
   by_cases d:(bfS nx first (i+1)).length>most
   ·rw[if_pos d] at k4
    exact .inr ⟨_,q1 d,(fun s' e=>by cases e),.inl ⟨rfl,k4⟩⟩
   ·rw[if_neg d] at k4
    obtain ⟨s',e,hs'⟩:=q2 (by omega)
    exact .inl ⟨by omega,s',e,hs',fun j hj=>(by
     by_cases ej:j=i
     ·subst ej;exact c
     ·exact k2 j (by omega)),by omega,by rw[k4];congr 1;omega⟩
  ·rw[if_neg c] at k4
   refine .inr ⟨_,he i s k1 c,(fun s' e=>by cases e),.inr ⟨i,s,rfl,k1,⟨by omega,k2⟩,hi,?_⟩⟩
   rw[k4,List.take_of_length_le (by omega)]) ⟨h0,fun j hj=>by omega,by simp[bfS];omega,rfl⟩ (uP (by omega))
 rcases hq with ⟨rfl,h⟩ | ⟨N,s',rfl,h⟩
 ·exact .inl ⟨e,h⟩
 ·exact .inr ⟨N,s',e,h⟩
end
section
variable {p:Ge} {most:Nat} (hl:p.2.2.2.1.length=p.1.length) (hb:p.1.length<=1000000) (hm:most<=900000) (h1:1<=most)
include hl hb hm h1
theorem Yk:gW p most=some (goM (nxS p) 1 (vW p) most (most+2) 0):=by
 have hp3: ∀(l:List Int) (i k:Nat),k<9-> ∃j,(fun a0 a1=>da a0 a1 (p.1,p.2.1,p.2.2.1,p.2.2.2.1,p.2.2.2.2)) (nth l (i:Int)) (k:Int)=some (match nth (nxS p (nth l (i:Int))) (k:Int) with | some y=>(y,true) | none=>(j,false)):=by
  intro l i k hk
  refine ⟨0,?_⟩
  show da _ _ p=_
  unfold da
  simp only[dQ]
  rw[Va hl hb,SG hk];simp only[aa]
  by_cases c:aft p (nth l (i:Int)) k=0
  ·rw[if_pos c];simp[c]
  ·rw[if_neg c];simp[c]
 unfold gW eL
 rw[show Lr ([] :List (Int×Int)) iOk iOk 1 0=some [(1,0)] from by unfold Lr;rw[if_pos ⟨by simp,by decide,by decide⟩]];simp only[aa]
 rcases Js (nx:=nxS p) (first:=1) (acc:=vW p) (most:=most) (f:=bX most (fun a0=>dk (p.1,p.2.1,p.2.2.1,p.2.2.2.1,p.2.2.2.2) a0) (fun a0 a1=>da a0 a1 (p.1,p.2.1,p.2.2.1,p.2.2.2.1,p.2.2.2.2)))
  (by omega) h1 (fun i s=> ∃M,s=(bfS (nxS p) 1 i,M,(i:Int),0,((bfS (nxS p) 1 i).take i).map (vW p),bfR (nxS p) 1 i)/\MapOf M (bfS (nxS p) 1 i)) (by
   rintro i s ⟨M,rfl,hM⟩ hj hle hlt
   have hil:=DZ hj
   obtain ⟨M',e,hM'⟩:=FZ (p3:=fun a0 a1=>da a0 a1 (p.1,p.2.1,p.2.2.1,p.2.2.2.1,p.2.2.2.2)) (l:=bfS (nxS p) 1 i) (M:=M) (os:=nxS p (nth (bfS (nxS p) 1 i) (i:Int))) (acs:=((bfS (nxS p) 1 i).take i).map (vW p)) (rws:=bfR (nxS p) 1 i) hlt (DY _ _) hM (fun y hy=>WV hy)
    (fun k=>by
     have:=OE (bfS (nxS p) 1 i) ((nxS p (nth (bfS (nxS p) 1 i) (i:Int))).take k)
     have h9:=DY p (nth (bfS (nxS p) 1 i) (i:Int))
     rw[aA] at this
     omega) (fun k hk=>hp3 _ i k hk)
   rw[<-kH hlt] at hM'
   have hl2:=(bQ (nx:=nxS p) (first:=1) i).length_le
   constructor
   ·intro hgt
    unfold bX
    simp only
    rw[if_pos (by simp;omega),aG e,<-kH hlt]
    simp only
    rw[if_pos (by simp;omega)]
   ·intro hle2
    unfold bX
    simp only
    rw[if_pos (by simp;omega),aG e,<-kH hlt]
    simp only
    rw[if_neg (by simp;omega),aK (by omega) (by omega)];simp only[aa]
    rw[jS (bQ i) (by omega) (by omega)]
    simp only[dQ]
    rw[WS];simp only[aa]
    have hr:(bfR (nxS p) 1 i).length=i:=jQ hj
    rw[aI (by simp;omega)];simp only[aa]
    rw[aI (by simp;omega)];simp only[aa,ah (show i<9223372036854775807 by omega)]
    exact ⟨_,rfl,M',by rw[yO hlt,vV hlt],hM'⟩) (by
   rintro i s ⟨M,rfl,hM⟩ hn
   unfold bX
   simp only
   rw[if_neg (by simp;omega)]) (s:=([1],[(1,0)],0,0,[],[])) ⟨_,rfl,MapOf.one 1⟩ with ⟨e,hg⟩ | ⟨N,s',e,⟨M,rfl,hM⟩,hN,hNm,hg⟩
 ·rw[cg e,hg];rfl
 ·rw[aG e,hg];simp only[aa]
  rw[List.take_of_length_le (by have:=hN.1;omega)]
theorem Rk {l:List Int} {acs:List Bool} {rws:List (List Int)} {i:Nat} (hi:i<l.length) (hle:l.length<=most) :
  ay (fD p (l,(i:Int),0,acs,rws)) aW (l,[],0)=some (.brk (nbS l (nxS p (nth l (i:Int))),nbR l (nxS p (nth l (i:Int))),9)):=by
 have h9:=DY p (nth l (i:Int))
 have:=br (f:=fD p (l,(i:Int),0,acs,rws)) (fun k=>(nbS l ((nxS p (nth l (i:Int))).take k),nbR l ((nxS p (nth l (i:Int))).take k),(k:Int))) 9 (fun k hk=>by
  have hpre:=k9 l ((nxS p (nth l (i:Int))).take k)
  have hlen:=hpre.length_le
  have hB:=OE l ((nxS p (nth l (i:Int))).take k)
  rw[aA] at hB
  have hrl:(nbR l ((nxS p (nth l (i:Int))).take k)).length<=9:=by rw[eP,aA];omega
  unfold fD
  simp only[dQ]
  rw[if_pos (by simp;omega),aK (by omega) (by omega)];simp only[aa]
  rw[jS hpre (by omega) (by omega),U9 hl hb];simp only[aa]
  rw[take_one (by omega),vM,sS,SG hk]
  simp only[ah (show k<9223372036854775807 by omega)]
  by_cases c:aft p (nth l (i:Int)) k=0
  ·rw[if_pos c,if_neg (by simp[c])];simp only[aa]
   rw[aI (by simp;omega)];rfl
  ·rw[if_neg c,if_pos (by simpa using c),SF (by omega)];simp only[aa]
   by_cases d:aft p (nth l (i:Int)) k∈nbS l ((nxS p (nth l (i:Int))).take k)
   ·rw[if_pos d,if_neg (by simp),mo d];simp only[aa]
    rw[aI (by simp;omega)];rfl
   ·rw[if_neg d,if_pos (by decide),aI (by simp;omega),ld d];simp only[aa]
    rw[aI (by simp;omega)];simp only[nbI,pE d,aa]) (by
  unfold fD
  simp) (by unfold aW;omega)
 have e9:(nxS p (nth l (i:Int))).take 9=nxS p (nth l (i:Int)):=List.take_of_length_le (by omega)
 rw[e9] at this
 exact this
theorem Yl:ja p most=some (goM (nxS p) 1 (vW p) most (most+2) 0):=by
 unfold ja
 rcases Js (nx:=nxS p) (first:=1) (acc:=vW p) (most:=most) (f:=fE p most)
  (by omega) h1 (fun i s=>s=(bfS (nxS p) 1 i,(i:Int),0,((bfS (nxS p) 1 i).take i).map (vW p),bfR (nxS p) 1 i)) (by
   rintro i s rfl hj hle hlt
   have hil:=DZ hj
   have e:=Rk hl hb hm h1 (acs:=((bfS (nxS p) 1 i).take i).map (vW p)) (rws:=bfR (nxS p) 1 i) hlt hle
   have hl2:=(bQ (nx:=nxS p) (first:=1) i).length_le
   constructor
   ·intro hgt
    unfold fE
    simp only
    rw[if_pos (by simp;omega),aG e,<-kH hlt]
    simp only
    rw[if_pos (by simp;omega)]
   ·intro hle2
    unfold fE
    simp only
    rw[if_pos (by simp;omega),aG e,<-kH hlt]
    simp only
    rw[if_neg (by simp;omega),aK (by omega) (by omega)];simp only[aa]
    rw[jS (bQ i) (by omega) (by omega)]
    simp only[dQ]
    rw[WR];simp only[aa]
    have hr:(bfR (nxS p) 1 i).length=i:=jQ hj
    rw[aI (by simp;omega)];simp only[aa]
    rw[aI (by simp;omega)];simp only[aa,ah (show i<9223372036854775807 by omega)]
    exact ⟨_,rfl,by rw[yO hlt,vV hlt]⟩) (by
   rintro i s rfl hn
   unfold fE
   simp only
   rw[if_neg (by simp;omega)]) (s:=([1],0,0,[],[])) rfl with ⟨e,hg⟩ | ⟨N,s',e,rfl,hN,hNm,hg⟩
 ·rw[cg e,hg]
 ·rw[aG e,hg];simp only
  rw[List.take_of_length_le (by have:=hN.1;omega)]
end
end D
namespace D
open Go.RowKit
theorem Rl (m n:Int):orI m n=orI n m:=by unfold orI;rw[BitVec.or_comm]
def lk (F:List Int) (from_ to_:Int):Nat->List Int
 | 0=>F
 | i+1=>if Ri from_ i then (lk F from_ to_ i).set i (orI (nth (lk F from_ to_ i) (i:Int)) to_) else lk F from_ to_ i
theorem AY (F:List Int) (f t:Int): ∀i,(lk F f t i).length=F.length
 | 0=>rfl
 | i+1=>by
  rw[lk]
  split
  ·rw[List.length_set,AY]
  ·exact AY F f t i
theorem SH {p:Ge} {f t:Int} (hl:p.2.2.2.1.length<=1000000):nt p f t=some (p.1,p.2.1,p.2.2.1,lk p.2.2.2.1 f t p.2.2.2.1.length,p.2.2.2.2):=by
 have hL:ay (iZ f t) aW (0,p.2.2.2.1)=some (.brk ((p.2.2.2.1.length:Int),lk p.2.2.2.1 f t p.2.2.2.1.length)):=br (f:=iZ f t) (fun i=>((i:Int),lk p.2.2.2.1 f t i)) p.2.2.2.1.length (fun i hi=>by
  have hk:=AY p.2.2.2.1 f t i
  unfold iZ
  simp only
  rw[if_pos (by simp;omega),sn];simp only[aa]
  rw[lk,ah (by omega)]
  by_cases c:Ri f i=true
  ·rw[if_pos c,if_pos c,aK (by omega) (by omega)];simp only[aa,Int.toNat_natCast]
  ·rw[if_neg c,if_neg c];rfl) (by unfold iZ;simp[AY]) (uP (by omega))
 unfold nt
 rw[aG hL]
theorem Jt {p:Ge} {f t:Int} (hl:p.2.2.2.1.length<=1000000):dG p f t=some (p.1,p.2.1,p.2.2.1,lk p.2.2.2.1 f t p.2.2.2.1.length,p.2.2.2.2):=by
 have hL:ay (cO p f t) aW (0,p.2.2.2.1)=some (.brk ((p.2.2.2.1.length:Int),lk p.2.2.2.1 f t p.2.2.2.1.length)):=br (f:=cO p f t) (fun i=>((i:Int),lk p.2.2.2.1 f t i)) p.2.2.2.1.length (fun i hi=>by
  have hk:=AY p.2.2.2.1 f t i
  unfold cO
  simp only
  rw[if_pos (by simp;omega),sn];simp only[aa]
  rw[lk,ah (by omega)]
  by_cases c:Ri f i=true
  ·rw[if_pos c,if_pos c,aK (by omega) (by omega)];simp only[aa,Int.toNat_natCast]
  ·rw[if_neg c,if_neg c];rfl) (by unfold cO;simp) (uP (by omega))
 unfold dG
 rw[aG hL]
def BOk (x:Tr Tok):Prop:= ∀(n m:Nat) (p:Ge),(flat x).length<=n->(flat x).length<=m->p.2.2.2.1.length=p.1.length->p.1.length+(flat x).length<=100000->
 ∃(nu:Bool) (fi la:Int) (q:Ge),dt n p (flat x)=some ((nu,fi,la),q)/\bD m p x=some ((fi,la,nu),q)/\q.2.2.2.1.length=q.1.length/\q.1.length<=p.1.length+(flat x).length
theorem Rm {x:Tr Tok} (h:WT x):BOk x:=by
 refine WT.ind (p:=BOk) ?_ ?_ ?_ h
 ·intro t e n m p hn hm hF hl
  rw[BJ] at hn hm hl⊢
  simp only[al,aC] at hl
  match n,m,hn,hm with
  | n+1,m+1,_,_ =>
   rw[dt,bD];simp only[pG,aa]
   have:=(mO (A:=[]) (t:=t) (by simp)).1
   rw[List.nil_append] at this
   rw[this];simp only[aa,dQ]
   rcases nV (show 0<=ar t by omega) with ⟨k,_⟩ | ⟨k,_⟩ | ⟨_,k⟩
   ·omega
   ·omega
   rcases k with k | k | k
   ·exact ⟨false,0,0,p,by simp[k],by simp[k],hF,by simp⟩
   ·exact ⟨true,0,0,p,by simp[k],by simp[k],hF,by simp⟩
   ·refine ⟨false,H6 1 (p.1.length:Int),H6 1 (p.1.length:Int),(p.1++ [t.2.1],p.2.1,p.2.2.1,p.2.2.2.1++ [0],p.2.2.2.2),?_,?_,by simp[hF],by simp⟩
    ·rw[if_neg (by simp[k]),if_pos (by simp[k]),aI (by simp;omega)];simp only[aa]
     rw[aI (by simp;omega)];rfl
    ·rw[if_neg (by simp[k]),if_pos (by simp[k]),aI (by simp;omega)];simp only[aa]
     rw[aI (by simp;omega)];rfl
 ·intro t a e wa ih n m p hn hm hF hl
  rw[DS] at hn hm hl⊢
  simp only[aw,al,aC] at hn hm hl
  match n,m,hn,hm with
  | n+1,m+1,hn,hm =>
   rw[dt,bD];simp only[pG,aa,dQ]
   obtain ⟨l1,l2⟩:=mO (A:=flat a) (t:=t) (by omega)
   rw[l1];simp only[aa]
   obtain ⟨nu,fi,la,q,hs,hi,hq1,hq2⟩:=ih n m p (by omega) (by omega) hF (by omega)
   rcases Re e with ⟨k1,k2⟩ | ⟨k1,k2,k3⟩
   ·have g2:(t.1==2)=false:=by simp[k2]
    have g3:(t.1==3)=false:=by simp[k2]
    have g4:(t.1==4)=false:=by simp[k2]
    have g5:(t.1==5)=false:=by simp[k2]
    simp only[g2,g3,g4,g5,k1,Bool.false_eq_true,if_false,if_true]
    rw[l2,Int.toNat_natCast,List.take_left,chk_of (by simp only[aw,al,aC];omega)];simp only[aa]
    rw[hs,show aT [a] 0=some a from rfl];simp only[aa]
    rw[hi];simp only[aa,dQ]
    rw[SH (by omega),Jt (by omega)];simp only[aa]
    refine ⟨true,fi,la,_,rfl,rfl,?_,?_⟩
    ·simp only[AY];exact hq1
    ·simp only[aw,al,aC];omega
   ·have g2:(t.1==2)=false:=by simp[k3]
    have g3:(t.1==3)=false:=by simp[k3]
    have g4:(t.1==4)=false:=by simp[k3]
    have g5:(t.1==5)=false:=by simp[k3]
    simp only[g2,g3,g4,g5,k1,Bool.false_eq_true,if_false]
    exact ⟨false,0,0,p,rfl,rfl,hF,by omega⟩
 ·intro t a b e wa wb iha ihb n m p hn hm hF hl
  rw[uH] at hn hm hl⊢
  have hl2:((flat a++flat b)++ [t]).length<=1000000:=by omega
  obtain ⟨p1,p2,p3,p4⟩:=AX (a:=a) (t:=t) wb hl2
  simp only[aw,al,aC] at hn hm hl
  match n,m,hn,hm with
  | n+1,m+1,hn,hm =>
   have hpa:=wa.pos
   have hpb:=wb.pos
   rw[dt,bD];simp only[pG,aa,dQ]
   obtain ⟨l1,l2⟩:=mO (A:=flat a++flat b) (t:=t) (by rw[aw];omega)
   rw[l1];simp only[aa]
   obtain ⟨nu,fi,la,q,hs,hi,hq1,hq2⟩:=iha n m p (by omega) (by omega) hF (by omega)
   obtain ⟨nu2,fi2,la2,q2,hs2,hi2,hq3,hq4⟩:=ihb n m q (by omega) (by omega) hq1 (by omega)
   have c1: ∀r:Int,0<=r->r<=((flat a++flat b++ [t]).length:Int)->chk (0<=r/\r<=((flat a++flat b++ [t]).length:Int))=some ():=fun r h1 h2=>chk_of ⟨h1,h2⟩
   have g0:aT [a,b] 0=some a:=rfl
   have g1:aT [a,b] 1=some b:=rfl
   rcases nV (show 0<=ar t by omega) with ⟨_,k⟩ | ⟨k,_⟩ | ⟨k,_⟩
   ·rcases k with k | k
    ·have g2:(t.1==2)=false:=by simp[k]
     have g3:(t.1==3)=false:=by simp[k]
     have g4:(t.1==4)=true:=by simp[k]
     have g5:(t.1==5)=false:=by simp[k]
     simp only[g2,g3,g4,g5,Bool.false_eq_true,if_false,if_true]
     rw[l2,p1,p2,chk_of (by simp only[aw,al,aC];omega)];simp only[aa]
     rw[chk_of (by simp only[aw,al,aC];omega),p3,p4,hs,g0,g1];simp only[aa]
     rw[hi,chk_of (by simp only[aw,al,aC];omega)];simp only[aa,dQ]
     rw[hs2,hi2];simp only[aa,dQ]
     rw[SH (by omega),Jt (by omega)];simp only[aa]
     refine ⟨nu&&nu2,if nu then orI fi fi2 else fi,if nu2 then orI la la2 else la2,(q2.1,q2.2.1,q2.2.2.1,lk q2.2.2.2.1 la fi2 q2.2.2.2.1.length,q2.2.2.2.2),?_,?_,?_,?_⟩
     ·cases nu <;> cases nu2 <;> rfl
     ·rw[Rl la la2]
      cases nu <;> cases nu2 <;> rfl
     ·simp only[AY];exact hq3
     ·simp only[aw,al,aC];omega
    ·have g2:(t.1==2)=false:=by simp[k]
     have g3:(t.1==3)=false:=by simp[k]
     have g4:(t.1==4)=false:=by simp[k]
     have g5:(t.1==5)=true:=by simp[k]
     simp only[g2,g3,g4,g5,Bool.false_eq_true,if_false,if_true]
     rw[l2,p1,p2,chk_of (by simp only[aw,al,aC];omega)];simp only[aa]
     rw[chk_of (by simp only[aw,al,aC];omega),p3,p4,hs,g0,g1];simp only[aa]
     rw[hi,chk_of (by simp only[aw,al,aC];omega)];simp only[aa,dQ]
     rw[hs2,hi2];simp only[aa,dQ]
     refine ⟨nu || nu2,orI fi fi2,orI la la2,q2,?_,?_,hq3,?_⟩
     ·cases nu <;> simp
     ·cases nu <;> simp
     ·simp only[aw,al,aC];omega
   ·omega
   ·omega
def HS (e:List Tok):Nat->Nat
 | 0=>0
 | i+1=>if (nth e (i:Int)).1=3 then HS e i+1 else HS e i
theorem HT (e:List Tok): ∀i,HS e i<=i
 | 0=>aE _
 | i+1=>by
  have:=HT e i
  rw[HS];split <;> omega
theorem Ym {r:List Tok×Bool} (hl:r.1.length<=1000000):ay (du r) aW (0,0)=some (.brk ((HS r.1 r.1.length:Int),(r.1.length:Int))):=
 br (f:=du r) (fun i=>((HS r.1 i:Int),(i:Int))) r.1.length (fun i hi=>by
  have:=HT r.1 i
  unfold du
  simp only
  rw[if_pos (by simp;omega),aK (by omega) (by omega)];simp only[aa]
  rw[HS,ah (show i<9223372036854775807 by omega),ah (show HS r.1 i<9223372036854775807 by omega)]
  by_cases c:(nth r.1 (i:Int)).1=3
  ·rw[if_pos (by simpa using c),if_pos c];rfl
  ·rw[if_neg (by simpa using c),if_neg c];rfl) (by unfold du;simp) (uP (by omega))
theorem Yn {r:List Tok×Bool} (hl:r.1.length<=1000000):ay (dj r) aW (0,0)=some (.brk ((HS r.1 r.1.length:Int),(r.1.length:Int))):=
 br (f:=dj r) (fun i=>((HS r.1 i:Int),(i:Int))) r.1.length (fun i hi=>by
  have:=HT r.1 i
  unfold dj
  simp only
  rw[if_pos (by simp;omega),aK (by omega) (by omega)];simp only[aa]
  rw[HS,ah (show i<9223372036854775807 by omega),ah (show HS r.1 i<9223372036854775807 by omega)]
  by_cases c:(nth r.1 (i:Int)).1=3
  ·rw[if_pos (by simpa using c),if_pos c];rfl
  ·rw[if_neg (by simpa using c),if_neg c];rfl) (by unfold dj;simp) (uP (by omega))
theorem uK {e:List Tok} (he:e.length<=1048576): ∃r:Ge×Bool,gL e=some r/\gK e=some r/\r.1.2.2.2.1.length=r.1.1.length/\r.1.1.length<=100000:=by
 have hF:=vU
 obtain ⟨e1,e2⟩:=HO he
 unfold gL gK
 rw[e1,e2];simp only[aa]
 by_cases c:(KO e).2=true
 ·obtain ⟨y,wy,ey,ly⟩:=U6 c
  rw[if_pos c,if_pos c,aG (Ym (by rw[ey];omega)),aG (Yn (by rw[ey];omega))]
  simp only
  by_cases d:(HS (KO e).1 (KO e).1.length:Int)>20
  ·have d':decide ((HS (KO e).1 (KO e).1.length:Int)>20)=true:=decide_eq_true d
   simp only[d',if_true]
   exact ⟨_,rfl,rfl,rfl,by simp⟩
  ·have d':decide ((HS (KO e).1 (KO e).1.length:Int)>20)=false:=decide_eq_false d
   simp only[d',Bool.false_eq_true,if_false]
   rw[ey,DU (by omega),w8 wy];simp only[aa]
   obtain ⟨nu,fi,la,q,hs,hi,hq1,hq2⟩:=Rm wy gr gr ([],0,0,[],false) (by omega) (by omega) rfl (by simp;omega)
   rw[hs,hi];simp only[aa]
   exact ⟨_,rfl,rfl,hq1,by simp at hq2;show q.1.length<=_;omega⟩
 ·rw[if_neg c,if_neg c]
  exact ⟨_,rfl,rfl,rfl,by simp⟩
end D
namespace D
open Go.RowKit
theorem KQ (n:Nat) (l:List Int) (hd:l.Nodup) (h: ∀x∈l,0<=x/\x<n):l.length<=n:=by
 have:=hd.length_le_of_subset (l₂:=(List.range n).map Int.ofNat) (fun x hx=>by
  obtain ⟨h0,h1⟩:=h x hx
  exact List.mem_map.2 ⟨x.toNat,List.mem_range.2 (by omega),by show ((x.toNat:Nat):Int)=x;omega⟩)
 simpa using this
theorem WW {n:Nat} {x:Int} (hn:n<=1000000) (h0:0<=x) (h1:x<n):iOk x=true:=by
 have:=OB (n:=x.toNat) (by omega)
 rwa [show ((x.toNat:Nat):Int)=x from by omega] at this
theorem WX {κ:Type} [DecidableEq κ] {nx:κ->List (Option κ)} {first:κ} {G:κ->Prop} {B N:Nat} {acc:κ->Bool} (H:NumOk nx first G B) (hB:B<=1000000) (hN:bfE nx first N):Data.sm ((0,(bfS nx first N).map acc,bfR nx first N):AutT):=by
 have hl:=H.bound _ (nT (nx:=nx) (first:=first) N) (kF H.g0 H.gn N)
 refine ⟨trivial,⟨by rw[List.length_map];omega,fun _ _=>trivial⟩,?_,?_⟩
 ·rw[jQ hN.2];have:=hN.1;omega
 ·have key: ∀i,i<=N-> ∀r∈bfR nx first i,r.length=9:=by
   intro i
   induction i with
   | zero=>intro _ r hr;cases hr
   | succ i ih =>
    intro hi r hr
    have hlt:=hN.2 i (by omega)
    rw[vN hlt] at hr
    rcases aD hr with hr | hr
    ·exact ih (by omega) r hr
    ·obtain rfl:=aq hr
     rw[eP,H.len _ (kF H.g0 H.gn i _ (List.getElem_mem hlt))]
  intro r hr
  exact ⟨by rw[key N (aE _) r hr];decide,fun _ _=>trivial⟩
theorem KR:Data.sm nothing:=⟨trivial,⟨by decide,fun _ _=>trivial⟩,by decide,fun r hr=>by
 obtain rfl:=aq hr
 exact ⟨by decide,fun _ _=>trivial⟩⟩
end D
namespace D
open Go.RowKit
theorem KS {κ:Type} [DecidableEq κ] {l m:List κ} (h:l <+:m) {y:κ} (hy:y∈l):(m.idxOf y:Int)=l.idxOf y:=by
 obtain ⟨t,rfl⟩:=h
 rw[List.idxOf_append,if_pos hy]
theorem SI {κ:Type} [DecidableEq κ] : ∀(l:List κ) (os:List (Option κ)) (i:Nat),i<os.length->nth (nbR l os) (i:Int)=nbI (nbS l os) (nth os (i:Int))
 | l,o::os,0,_=>by
  show nbI l o=nbI (nbS (nbL l o) os) o
  cases o with
  | none=>rfl
  | some y =>
   have hm:y∈nbL l (some y):=NW.2 (.inr rfl)
   simp only[nbI]
   rw[KS (k9 _ os) hm]
   by_cases c:y∈l
   ·rw[mo c]
   ·rw[ld c,List.idxOf_append,if_neg c,pE c];simp
 | l,o::os,i+1,h=>by
  have h':i<os.length:=by simpa using h
  have ih:=SI (nbL l o) os i h'
  have e1:nth (nbR l (o::os)) ((i+1:Nat):Int)=nth (nbR (nbL l o) os) (i:Int):=by
   rw[bN (by rw[eP];exact h),bN (by rw[eP];exact h')];rfl
  have e2:nth (o::os) ((i+1:Nat):Int)=nth os (i:Int):=by rw[bN h,bN h'];rfl
  rw[e1,e2];exact ih
theorem oS {κ:Type} [DecidableEq κ] {l:List κ} {y:κ} (h:y∈l): ∃(q:Nat) (hq:q<l.length),nbI l (some y)=(q:Int)/\l[q] =y:=
 ⟨l.idxOf y,List.idxOf_lt_length_of_mem h,rfl,by simp⟩
theorem D0 {κ:Type} [DecidableEq κ] {l:List κ} {y:κ} (h:y∉l):nbI l (some y)=(l.length:Int):=by simp only[nbI,pE h]
def SJ:List Int->Nat->Nat->Prop
 | [],c,m=>c=m
 | x::xs,c,m=>(x= -1/\SJ xs c m)\/(0<=x/\x<c/\SJ xs c m)\/(x=c/\SJ xs (c+1) m)
theorem D1 {κ:Type} [DecidableEq κ] : ∀(os:List (Option κ)) (l:List κ),SJ (nbR l os) l.length (nbS l os).length
 | [],l=>rfl
 | none::os,l=>.inl ⟨rfl,D1 os l⟩
 | some y::os,l=>by
  by_cases c:y∈l
  ·refine .inr (.inl ⟨Int.natCast_nonneg _,?_,?_⟩)
   ·have:=List.idxOf_lt_length_of_mem c
    simp only[nbI];omega
   ·show SJ (nbR (nbL l (some y)) os) l.length (nbS (nbL l (some y)) os).length
    rw[mo c];exact D1 os l
  ·refine .inr (.inr ⟨by simp only[nbI,pE c],?_⟩)
   show SJ (nbR (nbL l (some y)) os) (l.length+1) (nbS (nbL l (some y)) os).length
   have:=D1 os (l++ [y])
   rw[ld c]
   simpa using this
def XG:List Int->List (Option (List Int))->Prop
 | [],[] =>True
 | x::xs,o::os=>((x<0/\o=none)\/(0<=x/\ ∃t,o=some (x::t)))/\XG xs os
 | _,_=>False
theorem OF: ∀(xs:List Int) (os:List (Option (List Int))),xs.length=os.length->(∀i (h:i<xs.length) (h':i<os.length),(xs[i] < 0/\os[i] =none)\/(0<=xs[i] /\ ∃t,os[i] =some (xs[i] ::t)))->XG xs os
 | [],[],_,_=>trivial
 | x::xs,o::os,hl,h=>⟨h 0 (by simp) (by simp),OF xs os (by simpa using hl) fun i h1 h2=>h (i+1) (by simpa using h1) (by simpa using h2)⟩
theorem nW: ∀(xs:List Int) (os:List (Option (List Int))) (l:List (List Int)) (c m:Nat),XG xs os->SJ xs c m->(∀y∈l,∃h t,y=h::t/\h<c)->
  m+l.length<=(nbS l os).length+c/\(l.length=c->(∀(q:Nat) (hq:q<l.length),∃t,l[q] =(q:Int)::t)->(nbS l os).length=m->nbR l os=xs)
 | [],[],l,c,m,_,hn,_=>by
  have hn:c=m:=hn
  subst hn
  exact ⟨by simp[nbS];omega,fun _ _ _=>rfl⟩
 | x::xs,o::os,l,c,m,hr,hn,hh=>by
  obtain ⟨hr1,hr2⟩:=hr
  rcases hn with ⟨rfl,hn⟩ | ⟨hx0,hxc,hn⟩ | ⟨rfl,hn⟩
  ·have ho:o=none:=by
    rcases hr1 with ⟨-,h⟩ | ⟨h,-⟩
    ·exact h
    ·omega
   subst ho
   obtain ⟨i1,i2⟩:=nW xs os l c m hr2 hn hh
   exact ⟨i1,fun h1 h2 h3=>by show -1::nbR l os=_;rw[i2 h1 h2 h3]⟩
  ·obtain ⟨t,rfl⟩: ∃t,o=some (x::t):=by
    rcases hr1 with ⟨h,-⟩ | ⟨-,h⟩
    ·omega
    ·exact h
   by_cases k:(x::t)∈l
   ·obtain ⟨i1,i2⟩:=nW xs os l c m hr2 hn hh
    have hb:nbL l (some (x::t))=l:=mo k
    refine ⟨by show m+l.length<=(nbS (nbL l (some (x::t))) os).length+c;rw[hb];exact i1,fun h1 h2 h3=>?_⟩
    have h3:(nbS (nbL l (some (x::t))) os).length=m:=h3
    rw[hb] at h3
    obtain ⟨q,hq,e1,e2⟩:=oS k
    obtain ⟨t',ht'⟩:=h2 _ hq
    rw[e2] at ht'
    have:x=(q:Int):=by injection ht'
    show nbI l (some (x::t))::nbR (nbL l (some (x::t))) os=_
    rw[e1,<-this,hb,i2 h1 h2 h3]
   ·have hb:nbL l (some (x::t))=l++ [x::t]:=ld k
    obtain ⟨i1,i2⟩:=nW xs os (l++ [x::t]) c m hr2 hn (fun y hy=>by
     rcases aD hy with hy | hy
     ·exact hh y hy
     ·obtain rfl:=aq hy
      exact ⟨x,t,rfl,hxc⟩)
    rw[aw,List.length_singleton] at i1
    refine ⟨by show m+l.length<=(nbS (nbL l (some (x::t))) os).length+c;rw[hb];omega,fun h1 h2 h3=>?_⟩
    have h3:(nbS (nbL l (some (x::t))) os).length=m:=h3
    rw[hb] at h3
    omega
  ·obtain ⟨t,rfl⟩: ∃t,o=some ((c:Int)::t):=by
    rcases hr1 with ⟨h,-⟩ | ⟨-,h⟩
    ·omega
    ·exact h
   have k:((c:Int)::t)∉l:=fun k=>by
    obtain ⟨h,t',e,hlt⟩:=hh _ k
    have:(c:Int)=h:=by injection e
    omega
   have hb:nbL l (some ((c:Int)::t))=l++ [(c:Int)::t]:=ld k
   obtain ⟨i1,i2⟩:=nW xs os (l++ [(c:Int)::t]) (c+1) m hr2 hn (fun y hy=>by
    rcases aD hy with hy | hy
    ·obtain ⟨h,t',e,hlt⟩:=hh y hy
     exact ⟨h,t',e,by omega⟩
    ·obtain rfl:=aq hy
     exact ⟨c,t,rfl,by omega⟩)
   have hlen:(l++ [(c:Int)::t]).length=l.length+1:=by simp
   rw[hlen] at i1
   refine ⟨by show m+l.length<=(nbS (nbL l (some ((c:Int)::t))) os).length+c;rw[hb];omega,fun h1 h2 h3=>?_⟩
   have h3:(nbS (nbL l (some ((c:Int)::t))) os).length=m:=h3
   rw[hb] at h3
   have:=i2 (by rw[hlen,h1]) (fun q hq=>by
    by_cases e:q<l.length
    ·rw[List.getElem_append_left e];exact h2 q e
    ·have e:q=l.length:=by omega
     subst e
     exact ⟨t,by simp;omega⟩) h3
   show nbI l (some ((c:Int)::t))::nbR (nbL l (some ((c:Int)::t))) os=_
   rw[hb,this,D0 k,h1]
theorem D2 (xs ys:List Int) (hN:xs.length<=1048576): ∃r,np xs ys=some r/\(r=0↔xs=ys):=by
 unfold np
 have h0:=WB (f:=oj xs ys) xs ys (fun i h h'=>by
  simp only[oj,bE h,bE h',if_true,aB h,aB h',aa,ah (show i<9223372036854775807 by omega)]
  by_cases h1:xs[i] < ys[i]
  ·simp[h1]
  ·by_cases h2:xs[i] > ys[i]
   ·simp[h1,h2]
   ·simp[h1,h2]) (fun i hi=>by
  simp only[oj]
  by_cases h1:i<xs.length
  ·have h2: ¬i<ys.length:=by omega
   simp[h1,h2]
  ·simp[h1]) xs.length 0 aW (by omega) (dA _ (by omega))
 rw[show (((0:Nat):Int))=(0:Int) from rfl] at h0
 rcases h0 with ⟨r,e,h1,h2⟩ | ⟨s,e,h1⟩
 ·exact ⟨r,by rw[e];rfl,by simp[h1,h2]⟩
 ·rw[e]
  simp only[aP]
  by_cases c1:xs.length<ys.length
  ·exact ⟨-1,by simp[c1],by simp;intro e;subst e;omega⟩
  ·by_cases c2:xs.length>ys.length
   ·exact ⟨1,by simp[c1,c2],by simp;intro e;subst e;omega⟩
   ·exact ⟨0,by simp[c1,c2],by simpa using h1 (by omega)⟩
theorem AZ (xs ys:List Int) (hN:xs.length<=9223372036854775807):cf xs ys=some (decide (xs=ys)):=
 eqL (f:=cz xs ys) xs ys hN (fun i h h'=>by
  simp only[cz,bE h,if_true,aB h,aB h',aa,ah (show i<9223372036854775807 by omega)]
  by_cases c:xs[i] =ys[i] <;> simp[c]) (by simp only[cz,bg];rfl)
def Lb (a:AutT):List Int:=(List.range a.2.1.length).map fun s:Nat=>if nth (live a) (s:Int)=true then (if nth a.2.1 (s:Int)=true then 1 else 0) else -1
def ent (a:AutT) (c:List Int) (s:Int) (k:Nat):Int:=if mv a s k<0 then -1 else nth c (mv a s k)
def D3 (a:AutT) (c:List Int) (s:Int):List Int:=nth c s::(List.range 9).map fun k=>ent a c s k
def Ec (a:AutT) (c:List Int) (s:Nat):Option (List Int):=if nth c (s:Int)<0 then none else some (D3 a c s)
def keys (a:AutT) (c:List Int):List (Option (List Int)):=(List.range a.2.1.length).map (Ec a c)
def Cx (a:AutT) (c:List Int):List Int:=nbR [] (keys a c)
def yP (a:AutT) (c:List Int):Nat:=(nbS [] (keys a c)).length
def cI (a:AutT):Nat->List Int
 | 0=>Lb a
 | j+1=>Cx a (cI a j)
section
variable {a:AutT} {n:Nat}
theorem eE (a:AutT) (c:List Int):(keys a c).length=a.2.1.length:=by simp[keys]
theorem HU {c:List Int} {s:Nat} (h:s<a.2.1.length):nth (keys a c) (s:Int)=Ec a c s:=by
 rw[bN (by simpa [keys] using h)];simp[keys]
theorem A0 (a:AutT) (c:List Int):(Cx a c).length=a.2.1.length:=by rw[Cx,eP,eE]
theorem nX (a:AutT): ∀j,(cI a j).length=a.2.1.length
 | 0=>by simp[cI,Lb]
 | j+1=>A0 a _
theorem qm {κ:Type} [DecidableEq κ] : ∀(l:List κ) (os:List (Option κ)),(nbS l os).length<=l.length+os.length
 | l,[] =>by simp[nbS]
 | l,o::os=>by
  have h:=qm (nbL l o) os
  have:(nbL l o).length<=l.length+1:=by
   cases o with
   | none=>simp[nbL]
   | some x=>unfold nbL;simp only;split <;> simp
  show (nbS (nbL l o) os).length<=_
  rw[al];omega
theorem HV (a:AutT) (c:List Int):yP a c<=a.2.1.length:=by
 have:=qm ([] :List (List Int)) (keys a c)
 rw[eE] at this
 simpa [yP] using this
theorem D4 {c:List Int} {s:Nat} (h:s<a.2.1.length):nth (Cx a c) (s:Int)=nbI (nbS [] (keys a c)) (Ec a c s):=by
 rw[Cx,SI _ _ _ (by rw[eE];exact h),HU h]
theorem A1 {c:List Int} {s:Nat} (h:s<a.2.1.length) (hc: ¬nth c (s:Int)<0):D3 a c s∈nbS [] (keys a c):=by
 refine w5.2 (.inr ?_)
 refine List.mem_map.2 ⟨s,List.mem_range.2 h,?_⟩
 unfold Ec;rw[if_neg hc]
theorem yQ {c:List Int} {s:Nat} (h:s<a.2.1.length):(nth (Cx a c) (s:Int)<0↔nth c (s:Int)<0)/\(nth (Cx a c) (s:Int)<0->nth (Cx a c) (s:Int)= -1):=by
 rw[D4 h]
 unfold Ec
 by_cases hc:nth c (s:Int)<0
 ·rw[if_pos hc];simp[nbI,hc]
 ·rw[if_neg hc]
  obtain ⟨q,hq,e,-⟩:=oS (A1 h hc)
  rw[e]
  exact ⟨⟨fun h=>by omega,fun h=>absurd h hc⟩,fun h=>by omega⟩
theorem Vd {c:List Int} {s:Nat} (h:s<a.2.1.length):nth (Cx a c) (s:Int)<(a.2.1.length:Int):=by
 rw[D4 h]
 unfold Ec
 by_cases hc:nth c (s:Int)<0
 ·rw[if_pos hc];simp only[nbI];omega
 ·rw[if_neg hc]
  obtain ⟨q,hq,e,-⟩:=oS (A1 h hc)
  have:=HV a c
  unfold yP at this
  rw[e];omega
theorem OG {c:List Int} {s t:Nat} (hs:s<a.2.1.length) (ht:t<a.2.1.length) (h0:0<=nth (Cx a c) (s:Int)) (h:nth (Cx a c) (s:Int)=nth (Cx a c) (t:Int)):D3 a c s=D3 a c t:=by
 have n1: ¬nth c (s:Int)<0:=fun k=>by have:=(yQ hs).1.2 k;omega
 have n2: ¬nth c (t:Int)<0:=fun k=>by have:=(yQ ht).1.2 k;omega
 rw[D4 hs,D4 ht] at h
 unfold Ec at h
 rw[if_neg n1,if_neg n2] at h
 obtain ⟨q,hq,e1,e2⟩:=oS (A1 hs n1)
 obtain ⟨q',hq',e1',e2'⟩:=oS (A1 ht n2)
 rw[e1,e1'] at h
 obtain rfl:q=q':=by omega
 rw[<-e2,<-e2']
theorem Cy (a:AutT) {s:Nat} (h:s<a.2.1.length): ∀j,(nth (cI a j) (s:Int)<0↔nth (live a) (s:Int)=false)/\(nth (cI a j) (s:Int)<0->nth (cI a j) (s:Int)= -1)
 | 0=>by
  have e:nth (cI a 0) (s:Int)=if nth (live a) (s:Int)=true then (if nth a.2.1 (s:Int)=true then 1 else 0) else -1:=by
   show nth (Lb a) (s:Int)=_
   rw[bN (by simpa [Lb] using h)];simp[Lb]
  rw[e]
  cases nth (live a) (s:Int) <;> cases nth a.2.1 (s:Int) <;> simp
 | j+1=>by
  have ih:=Cy a h j
  have:=yQ (c:=cI a j) h
  exact ⟨this.1.trans ih.1,this.2⟩
theorem SK (a:AutT) {s t:Nat} (hs:s<a.2.1.length) (ht:t<a.2.1.length): ∀j,0<=nth (cI a j) (s:Int)->nth (cI a j) (s:Int)=nth (cI a j) (t:Int)->nth a.2.1 (s:Int)=nth a.2.1 (t:Int)
 | 0,h0,h=>by
  have e: ∀ {s:Nat},s<a.2.1.length->nth (cI a 0) (s:Int)=if nth (live a) (s:Int)=true then (if nth a.2.1 (s:Int)=true then 1 else 0) else -1:=by
   intro s h
   show nth (Lb a) (s:Int)=_
   rw[bN (by simpa [Lb] using h)];simp[Lb]
  rw[e hs] at h0 h
  rw[e ht] at h
  revert h0 h
  cases nth (live a) (s:Int) <;> cases nth a.2.1 (s:Int) <;> cases nth (live a) (t:Int) <;> cases nth a.2.1 (t:Int) <;> simp
 | j+1,h0,h=>by
  have k:=OG (c:=cI a j) hs ht h0 h
  have h1:nth (cI a j) (s:Int)=nth (cI a j) (t:Int):=by
   unfold D3 at k;injection k
  refine SK a hs ht j ?_ h1
  have:=(yQ (c:=cI a j) hs).1
  by_cases q:nth (cI a j) (s:Int)<0
  ·have:=this.2 q
   have h0:0<=nth (Cx a (cI a j)) (s:Int):=h0
   omega
  ·omega
theorem Ve (a:AutT) (j:Nat):SJ (cI a (j+1)) 0 (yP a (cI a j)):=D1 (keys a (cI a j)) []
theorem Rn (a:AutT) {c:List Int} (hc:c.length=a.2.1.length):XG c (keys a c):=by
 refine OF _ _ (by rw[eE,hc]) fun i h h'=>?_
 have e1:c[i] =nth c (i:Int):=(bN h).symm
 have e2:(keys a c)[i] =Ec a c i:=by simp[keys]
 rw[e1,e2]
 unfold Ec
 by_cases k:nth c (i:Int)<0
 ·exact .inl ⟨k,by rw[if_pos k]⟩
 ·exact .inr ⟨by omega,_,by rw[if_neg k];rfl⟩
theorem OH (a:AutT) (j:Nat):yP a (cI a j)<=yP a (cI a (j+1))/\(yP a (cI a (j+1))=yP a (cI a j)->cI a (j+2)=cI a (j+1)):=by
 obtain ⟨h1,h2⟩:=nW (cI a (j+1)) (keys a (cI a (j+1))) [] 0 (yP a (cI a j)) (Rn a (nX a _)) (Ve a j) (fun y hy=>by cases hy)
 exact ⟨by simpa [yP] using h1,fun h=>h2 rfl (fun q hq=>absurd hq (Nat.not_lt_zero q)) h⟩
theorem SL {j k:Nat} (h:cI a (j+1)=cI a j) (hk:j<=k):cI a k=cI a j:=by
 induction hk with
 | refl=>rfl
 | step _ ih=>rw[cI,ih];exact h
theorem OI {j k:Nat} (h:cI a (j+1)=cI a j) (h':cI a (k+1)=cI a k):cI a j=cI a k:=by
 rcases Nat.le_total j k with e | e
 ·exact (SL h e).symm
 ·exact SL h' e
theorem Vf (a:AutT): ∃j,j<=a.2.1.length/\cI a (j+1)=cI a j:=by
 by_cases h0:cI a 1=cI a 0
 ·exact ⟨0,Nat.zero_le _,h0⟩
 have hpos:1<=yP a (cI a 0):=by
  refine Nat.one_le_iff_ne_zero.2 fun hz=>h0 ?_
  have hnone: ∀s:Nat,s<a.2.1.length->nth (cI a 0) (s:Int)<0:=fun s hs=>by
   refine Classical.byContradiction fun k=>?_
   have:=A1 (c:=cI a 0) hs k
   have hl:=List.length_pos_of_mem this
   unfold yP at hz;omega
  refine UU (by rw[nX,nX]) fun i hi=>?_
  rw[nX] at hi
  have h1:=(Cy a hi 0).2 (hnone i hi)
  have h2:=(Cy a hi 1).2 (((Cy a hi 1).1.trans (Cy a hi 0).1.symm).2 (hnone i hi))
  rw[h1,h2]
 have key: ∀m,(∃j,j<=m/\cI a (j+1)=cI a j)\/m+1<=yP a (cI a m):=by
  intro m
  induction m with
  | zero=>exact .inr hpos
  | succ m ih =>
   rcases ih with ⟨j,hj,e⟩ | ih
   ·exact .inl ⟨j,by omega,e⟩
   ·obtain ⟨g1,g2⟩:=OH a m
    by_cases e:yP a (cI a (m+1))=yP a (cI a m)
    ·exact .inl ⟨m+1,aE _,g2 e⟩
    ·exact .inr (by omega)
 rcases key a.2.1.length with h | h
 ·exact h
 ·have:=HV a (cI a a.2.1.length);omega
end
end D
namespace D
open Go.RowKit
section
variable {a:AutT} {n:Nat} {c:List Int}
theorem Ju (k:Nat) (s:Int):(List.range (k+1)).map (fun k=>ent a c s k)=(List.range k).map (fun k=>ent a c s k)++ [ent a c s k]:=by simp[List.range_succ]
theorem Yo (V:VA a n) (hn:n<=1000000) (hc:c.length=n) {s:Nat} (hs:s<n):pa a c s=some (D3 a c s):=by
 unfold pa
 rw[aK (by omega) (by omega)];simp only[aa]
 have:=br (f:=mA a c s) (fun k=>(nth c (s:Int)::(List.range k).map (fun k=>ent a c s k),(k:Int))) 9 (fun k hk=>by
  have hm:=V.mv (s:=s) (k:=k) (by omega) (by omega) hk
  unfold mA
  simp only
  rw[if_pos (by simp;omega),V.get (by omega) (by omega)];simp only[aa]
  rw[V.get2 (by omega) (by omega) hk,Ju];simp only[aa,ah (show k<9223372036854775807 by omega)]
  by_cases h:mv a s k<0
  ·rw[if_pos (by simpa using h),aI (by simp;omega),show ent a c s k= -1 from by unfold ent;rw[if_pos h]];rfl
  ·rw[if_neg (by simpa using h),aK (by omega) (by omega)];simp only[aa]
   rw[aI (by simp;omega),show ent a c s k=nth c (mv a s k) from by unfold ent;rw[if_neg h]];rfl) (by unfold mA;simp) (by unfold aW;omega)
 exact aG this
theorem Yp (V:VA a n) (hn:n<=1000000) (hc:c.length=n) {s:Nat} (hs:s<n):ay (cP c (nth a.2.2 (s:Int))) aW (0,[nth c (s:Int)])=some (.brk (9,D3 a c s)):=by
 have hr:=V.rowAt (s:=s) (by omega) (by omega)
 exact br (f:=cP c (nth a.2.2 (s:Int))) (fun k=>((k:Int),nth c (s:Int)::(List.range k).map (fun k=>ent a c s k))) 9 (fun k hk=>by
  have hm:=V.mv (s:=s) (k:=k) (by omega) (by omega) hk
  unfold cP
  simp only
  rw[if_pos (by simp[hr];omega),V.get2 (by omega) (by omega) hk,Ju];simp only[aa,ah (show k<9223372036854775807 by omega)]
  by_cases h:mv a s k<0
  ·have e:mv a s k= -1:=by omega
   rw[if_neg (by simp;omega)];simp only[aa]
   rw[aI (by simp;omega),show ent a c s k=mv a s k from by unfold ent;rw[if_pos h,e]];rfl
  ·rw[if_pos (by simp;omega),aK (by omega) (by omega)];simp only[aa]
   rw[aI (by simp;omega),show ent a c s k=nth c (mv a s k) from by unfold ent;rw[if_neg h]];rfl) (by unfold cP;simp[hr]) (by unfold aW;omega)
theorem F5 {κ:Type} [DecidableEq κ] {l t r:List κ} {x:κ} (e:l=t++x::r) (hx:x∉t):nbI l (some x)=(t.length:Int):=by
 subst e
 simp only[nbI]
 rw[List.idxOf_append,if_neg hx,List.idxOf_cons_self,Nat.zero_add]
def WY (l:List (List Int)) (x:List Int):Int:=if x∈l then nbI l (some x) else -1
theorem WZ {l:List (List Int)} {x cs:List Int} {q:Int} (hl:l.length<=1000000) (hd:l.Nodup) (hx: ∀y∈l,y.length<=1048576):ay (fG (l,cs,q) x) aW (-1,0)=some (.brk (WY l x,(l.length:Int))):=by
 have:=br (f:=fG (l,cs,q) x) (fun k=>(if x∈l.take k then nbI l (some x) else -1,(k:Int))) l.length (fun k hk=>by
  unfold fG
  simp only
  rw[if_pos (by simp;omega),aK (by omega) (by omega)];simp only[aa,Int.toNat_natCast,ah (show k<9223372036854775807 by omega)]
  obtain ⟨r,e,hr⟩:=D2 (nth l (k:Int)) x (hx _ (iy (by omega) (by omega)))
  rw[e,take_one hk];simp only[aa,List.mem_append,List.mem_singleton]
  by_cases h:nth l (k:Int)=x
  ·have h0:r=0:=hr.2 h
   have hm:x∈l:=h ▸ iy (by omega) (by omega)
   obtain ⟨q,hq,e1,e2⟩:=oS hm
   have:q=k:=by
    have h1:l[q]? =some x:=by rw[List.getElem?_eq_getElem hq,e2]
    have h2:l[k]? =some x:=by rw[List.getElem?_eq_getElem hk,<-bN hk,h]
    exact (List.getElem?_inj hq hd).1 (h1.trans h2.symm)
   subst this
   rw[if_pos (by simp[h0]),if_pos (.inr h.symm),e1];rfl
  ·have h0:r≠0:=fun e=>h (hr.1 e)
   have hn: ¬x=nth l (k:Int):=fun e=>h e.symm
   rw[if_neg (by simpa using h0)]
   simp[hn]) (by unfold fG;simp) (uP (by omega))
 rw[List.take_of_length_le (aE _)] at this
 exact this
theorem W0 {l:List (List Int)} {x:List Int} {f:List Int->Option Bool} (hl:l.length<=1000000) (hf: ∀y∈l,f y=some (decide (y=x))):bU l f=some (WY l x):=by
 unfold bU
 obtain ⟨o,e,hq⟩:=cK (f:=cj l f) (fun k s=>s=(k:Int)/\x∉l.take k) (fun o=>(x∈l/\o= .ret (nbI l (some x)))\/(x∉l/\ ∃s,o= .brk s)) l.length (s:=0) (by
  rintro k s hk ⟨rfl,hx⟩
  unfold cj
  by_cases hkl:k<l.length
  ·rw[if_pos (by simp;omega),aK (by omega) (by omega)];simp only[aa]
   rw[hf _ (iy (by omega) (by omega))];simp only[aa]
   by_cases h:nth l (k:Int)=x
   ·refine .inr ⟨_,by rw[if_pos (by simpa using h)],(fun s' e=>by cases e),.inl ?_⟩
    have hm:x∈l:=h ▸ iy (by omega) (by omega)
    refine ⟨hm,?_⟩
    have e:l=l.take k++(x::l.drop (k+1)):=by
     rw[<-h,bN hkl,<-List.drop_eq_getElem_cons hkl,List.take_append_drop]
    rw[F5 e hx,aA,Nat.min_eq_left (by omega)]
   ·refine .inl ⟨hkl,_,by rw[if_neg (by simpa using h)],by rw[ah (by omega)],?_⟩
    rw[take_one hkl,List.mem_append,List.mem_singleton]
    rintro (h' | h')
    ·exact hx h'
    ·exact h h'.symm
  ·refine .inr ⟨_,by rw[if_neg (by simp;omega)],(fun s' e=>by cases e),.inr ⟨?_,_,rfl⟩⟩
   rwa [List.take_of_length_le (by omega)] at hx) ⟨rfl,by simp⟩ (uP (by omega))
 unfold WY
 rcases hq with ⟨hx,rfl⟩ | ⟨hx,s,rfl⟩
 ·rw[cg e,if_pos hx]
 ·rw[aG e,if_neg hx]
theorem A2 {os:List (Option (List Int))} (h: ∀y,some y∈os->y.length=10): ∀y∈nbS [] os,y.length=10:=fun y hy=>by
 rcases w5.1 hy with hy | hy
 ·cases hy
 ·exact h y hy
theorem Cz (a:AutT) (c:List Int): ∀y,some y∈keys a c->y.length=10:=by
 intro y hy
 obtain ⟨s,-,e⟩:=List.mem_map.1 hy
 unfold Ec at e
 split at e
 ·cases e
 ·rw[<-ae e];simp[D3]
section
variable (V:VA a n) (hn:n<=1000000) (hc:c.length=n)
include V hn hc
theorem Jv (s:Nat):(nbS [] ((keys a c).take s)).length<=n:=by
 have:=qm ([] :List (List Int)) ((keys a c).take s)
 rw[aA,eE,V.len] at this
 simp at this;omega
theorem Ro {m:Int} :ay (fH a (c,m)) aW ([],[],0)=some (.brk (nbS [] (keys a c),Cx a c,(n:Int))):=by
 have hlen:=V.len
 have:=br (f:=fH a (c,m)) (fun s=>(nbS [] ((keys a c).take s),nbR [] ((keys a c).take s),(s:Int))) n (fun s hs=>by
  have hkl:=Jv V hn hc s
  have hrl:(nbR [] ((keys a c).take s)).length<=n:=by rw[eP,aA,eE];omega
  unfold fH
  simp only
  rw[if_pos (by simp;omega),aK (by omega) (by omega)];simp only[aa]
  rw[take_one (by rw[eE];omega),vM,sS,HU (by omega)]
  simp only[ah (show s<9223372036854775807 by omega)]
  by_cases h:nth c (s:Int)<0
  ·rw[if_pos (by simpa using h),aI (by simp;omega),show Ec a c s=none from by unfold Ec;rw[if_pos h]];rfl
  ·rw[if_neg (by simpa using h),show Ec a c s=some (D3 a c s) from by unfold Ec;rw[if_neg h]]
   rw[show pa (a.1,a.2.1,a.2.2) c (s:Int)=some (D3 a c s) from Yo V hn hc hs];simp only[aa]
   rw[aG (WZ (by omega) (sg (by simp)) (fun y hy=>by rw[A2 (fun y hy=>Cz a c y (List.mem_of_mem_take hy)) y hy];decide))]
   simp only
   unfold WY
   by_cases k:D3 a c s∈nbS [] ((keys a c).take s)
   ·obtain ⟨q,hq,e1,e2⟩:=oS k
    rw[if_pos k,mo k,e1,if_neg (by simp)];simp only[aa]
    rw[aI (by simp;omega)];rfl
   ·rw[if_neg k,ld k,D0 k,if_pos (show decide ((-1:Int)<0)=true from rfl),aI (by simp;omega)];simp only[aa]
    rw[aI (by simp;omega)];rfl) (by
  unfold fH
  simp only
  rw[if_neg (by simp;omega)]) (uP (by omega))
 rw[show (keys a c).take n=keys a c from List.take_of_length_le (by rw[eE];omega)] at this
 exact this
theorem Rp:dH a c=some (Cx a c,(yP a c:Int)):=by
 have hlen:=V.len
 unfold dH
 have:=br (f:=dK a c) (fun s=>(nbS [] ((keys a c).take s),nbR [] ((keys a c).take s),(s:Int))) n (fun s hs=>by
  have hkl:=Jv V hn hc s
  have hrl:(nbR [] ((keys a c).take s)).length<=n:=by rw[eP,aA,eE];omega
  unfold dK
  simp only
  rw[if_pos (by simp;omega),aK (by omega) (by omega)];simp only[aa]
  rw[take_one (by rw[eE];omega),vM,sS,HU (by omega)]
  simp only[ah (show s<9223372036854775807 by omega)]
  by_cases h:nth c (s:Int)<0
  ·rw[if_pos (by simpa using h),aI (by simp;omega),show Ec a c s=none from by unfold Ec;rw[if_pos h]];rfl
  ·rw[if_neg (by simpa using h),show Ec a c s=some (D3 a c s) from by unfold Ec;rw[if_neg h],V.get (by omega) (by omega)];simp only[aa]
   rw[aG (Yp V hn hc hs)];simp only
   rw[W0 (x:=D3 a c s) (by omega) (fun y hy=>by
    unfold gI
    rw[AZ _ _ (by rw[A2 (fun y hy=>Cz a c y (List.mem_of_mem_take hy)) y hy];decide)];rfl)];simp only[aa]
   unfold WY
   by_cases k:D3 a c s∈nbS [] ((keys a c).take s)
   ·obtain ⟨q,hq,e1,e2⟩:=oS k
    rw[if_pos k,mo k,e1,if_neg (by simp)];simp only[aa]
    rw[aI (by simp;omega)];rfl
   ·rw[if_neg k,ld k,D0 k,if_pos (show decide ((-1:Int)<0)=true from rfl),aI (by simp;omega)];simp only[aa]
    rw[aI (by simp;omega)];rfl) (by
  unfold dK
  simp only
  rw[if_neg (by simp;omega)]) (uP (by omega))
 rw[show (keys a c).take n=keys a c from List.take_of_length_le (by rw[eE];omega)] at this
 exact aG this
end
end
section
variable {a:AutT} {n:Nat} (V:VA a n) (hn:n<=1000000)
include V hn
theorem F6 (s:Nat):(List.range (s+1)).map (fun s:Nat=>if nth (live a) (s:Int)=true then (if nth a.2.1 (s:Int)=true then (1:Int) else 0) else -1)=(List.range s).map (fun s:Nat=>if nth (live a) (s:Int)=true then (if nth a.2.1 (s:Int)=true then 1 else 0) else -1)++ [if nth (live a) (s:Int)=true then (if nth a.2.1 (s:Int)=true then 1 else 0) else -1]:=by simp[List.range_succ]
theorem W1:ay (fF a (live a)) aW ([],0)=some (.brk (Lb a,(n:Int))):=by
 have hlen:=V.len
 have hll:(live a).length=n:=by rw[uI,hlen]
 have:=br (f:=fF a (live a)) (fun s=>((List.range s).map (fun s:Nat=>if nth (live a) (s:Int)=true then (if nth a.2.1 (s:Int)=true then (1:Int) else 0) else -1),(s:Int))) n (fun s hs=>by
  unfold fF
  simp only
  rw[if_pos (by simp;omega),V.acc (by omega) (by omega)];simp only[aa]
  rw[F6 V hn,aK (xs:=live a) (by omega) (by omega)];simp only[ah (show s<9223372036854775807 by omega)]
  cases nth (live a) (s:Int) <;> cases nth a.2.1 (s:Int) <;> simp only[if_true,if_false,Bool.false_eq_true,aa] <;> rw[aI (by simp;omega)] <;> rfl) (by
  unfold fF
  simp only
  rw[if_neg (by simp;omega)]) (uP (by omega))
 unfold Lb
 rw[hlen]
 exact this
theorem W2:ay (cD a (live a)) aW ([],0)=some (.brk (Lb a,(n:Int))):=by
 have hlen:=V.len
 have hll:(live a).length=n:=by rw[uI,hlen]
 have:=br (f:=cD a (live a)) (fun s=>((List.range s).map (fun s:Nat=>if nth (live a) (s:Int)=true then (if nth a.2.1 (s:Int)=true then (1:Int) else 0) else -1),(s:Int))) n (fun s hs=>by
  unfold cD
  simp only
  rw[if_pos (by simp;omega),aK (xs:=live a) (by omega) (by omega)];simp only[aa]
  rw[F6 V hn,V.acc (by omega) (by omega)];simp only[ah (show s<9223372036854775807 by omega)]
  cases nth (live a) (s:Int) <;> cases nth a.2.1 (s:Int) <;> simp only[if_true,if_false,Bool.false_eq_true,aa] <;> rw[aI (by simp;omega)] <;> rfl) (by
  unfold cD
  simp only
  rw[if_neg (by simp;omega)]) (uP (by omega))
 unfold Lb
 rw[hlen]
 exact this
theorem OJ: ∃J,cI a (J+1)=cI a J/\jd a=some (cI a J):=by
 have hlen:=V.len
 unfold jd
 rw[show kQ (a.1,a.2.1,a.2.2)=some (live a) from SE V hn];simp only[aa]
 rw[aG (W1 V hn)]
 obtain ⟨J0,hJ0,hfix⟩:=Vf a
 obtain ⟨o,e,j,rfl,hj⟩:=cK (f:=kR a) (fun j s=>s=(cI a j,(j:Int))/\j<=J0) (fun o=> ∃j,o= .ret (cI a j)/\cI a (j+1)=cI a j) (J0+1) (s:=(cI a 0,0)) (by
  rintro j s hj ⟨rfl,hjJ⟩
  have hcl:(cI a j).length=n:=by rw[nX,hlen]
  unfold kR
  simp only
  rw[if_pos (by simp;omega),aG (Ro V hn hcl)]
  simp only
  obtain ⟨r,er,hr⟩:=D2 (Cx a (cI a j)) (cI a j) (by rw[A0];omega)
  rw[er];simp only[aa,ah (show j<9223372036854775807 by omega)]
  by_cases h:Cx a (cI a j)=cI a j
  ·exact .inr ⟨_,by rw[if_pos (by simpa using hr.2 h)],(fun s' e=>by cases e),j,rfl,h⟩
  ·refine .inl ⟨by omega,(cI a (j+1),((j+1:Nat):Int)),by rw[if_neg (by simpa using fun e=>h (hr.1 e))];rfl,rfl,?_⟩
   by_cases e:j=J0
   ·subst e;exact absurd hfix h
   ·omega) ⟨rfl,Nat.zero_le _⟩ (uP (by omega))
 exact ⟨j,hj,cg e⟩
theorem OK: ∃J,cI a (J+1)=cI a J/\dq a=some (cI a J):=by
 have hlen:=V.len
 unfold dq
 rw[show eR (a.1,a.2.1,a.2.2)=some (live a) from WN V hn];simp only[aa]
 rw[aG (W2 V hn)]
 let kk:Nat->Int:=fun j=>match j with | 0=> -1 | i+1=>(yP a (cI a i):Int)
 obtain ⟨o,e,j,rfl,hj⟩:=cK (f:=fC a) (fun j s=>s=(cI a j,kk j)/\(j:Int)<=kk j+1) (fun o=> ∃j,o= .ret (cI a j)/\cI a (j+1)=cI a j) (n+2) (s:=(cI a 0,-1)) (by
  rintro j s hj ⟨rfl,hjk⟩
  have hcl:(cI a j).length=n:=by rw[nX,hlen]
  have hle:=HV a (cI a j)
  unfold fC
  simp only
  rw[show dH (a.1,a.2.1,a.2.2) (cI a j)=some (Cx a (cI a j),(yP a (cI a j):Int)) from Rp V hn hcl];simp only[aa]
  cases j with
  | zero =>
   refine .inl ⟨by omega,(cI a 1,kk 1),by rw[if_neg (by show¬((yP a (cI a 0):Int) == -1)=true;simp)];rfl,rfl,?_⟩
   show (1:Int)<=(yP a (cI a 0):Int)+1
   omega
  | succ i =>
   obtain ⟨g1,g2⟩:=OH a i
   have hki:kk (i+1)=(yP a (cI a i):Int):=rfl
   rw[hki] at hjk⊢
   by_cases h:yP a (cI a (i+1))=yP a (cI a i)
   ·refine .inr ⟨.ret (cI a (i+2)),by rw[if_pos (by simp[h])];rfl,(fun s' e=>by cases e),i+2,rfl,?_⟩
    have:=g2 h
    show Cx a (cI a (i+2))=cI a (i+2)
    rw[this];exact this
   ·refine .inl ⟨?_,(cI a (i+2),kk (i+2)),by rw[if_neg (by simp;omega)];rfl,rfl,?_⟩
    ·omega
    ·show ((i+1+1:Nat):Int)<=(yP a (cI a (i+1)):Int)+1
     omega) ⟨rfl,by show ((0:Nat):Int)<= -1+1;omega⟩ (uP (by omega))
 exact ⟨j,hj,cg e⟩
theorem KT: ∃c,jd a=some c/\dq a=some c/\c.length=n/\Cx a c=c/\ ∃j,c=cI a j:=by
 obtain ⟨J,hJ,es⟩:=OJ V hn
 obtain ⟨J',hJ',ei⟩:=OK V hn
 have:=OI hJ hJ'
 exact ⟨cI a J,es,by rw[this];exact ei,by rw[nX,V.len],hJ,J,rfl⟩
end
end D
namespace D
open Go.RowKit
section
variable {κ:Type} [DecidableEq κ] [Inhabited κ] {nx:κ->List (Option κ)} {first:κ} {G:κ->Prop} {B N:Nat} {acc:κ->Bool}
theorem A3: ∀(l:List κ) (os:List (Option κ)),∀t∈nbR l os,-1<=t/\t<((nbS l os).length:Int)
 | l,[] =>fun t ht=>by cases ht
 | l,o::os=>fun t ht=>by
  have hp:=k9 (nbL l o) os
  have hl:=hp.length_le
  rcases az ht with rfl | ht
  ·show -1<=nbI l o/\nbI l o<((nbS (nbL l o) os).length:Int)
   cases o with
   | none=>exact ⟨by simp[nbI],by simp only[nbI];omega⟩
   | some y =>
    by_cases c:y∈l
    ·obtain ⟨q,hq,e,-⟩:=oS c
     rw[mo c] at hl
     rw[e];exact ⟨by omega,by rw[mo c];omega⟩
    ·rw[ld c] at hl
     rw[D0 c];rw[aw] at hl
     exact ⟨by omega,by rw[ld c];simp at hl;omega⟩
  ·exact A3 (nbL l o) os t ht
theorem W3 (H:NumOk nx first G B) (hN:bfE nx first N):VA ((0,(bfS nx first N).map acc,bfR nx first N):AutT) N:=by
 have h0:0<N:=by
  have:=FP (nx:=nx) (first:=first) N
  have:=(List.getElem?_eq_some_iff.1 this).1
  have:=hN.1;omega
 have key: ∀i,i<=N-> ∀r∈bfR nx first i,r.length=9/\ ∀t∈r,-1<=t/\t<(N:Int):=by
  intro i
  induction i with
  | zero=>intro _ r hr;cases hr
  | succ i ih =>
   intro hi r hr
   have hlt:=hN.2 i (by omega)
   rw[vN hlt] at hr
   rcases aD hr with hr | hr
   ·exact ih (by omega) r hr
   ·obtain rfl:=aq hr
    refine ⟨by rw[eP,H.len _ (kF H.g0 H.gn i _ (List.getElem_mem hlt))],fun t ht=>?_⟩
    have:=A3 _ _ t ht
    rw[<-DI hlt] at this
    have hl:=(w6 (nx:=nx) (first:=first) hi).length_le
    have:=hN.1
    omega
 exact ⟨by show ((bfS nx first N).map acc).length=N;rw[List.length_map];exact hN.1.symm,⟨Int.le_refl _,by show (0:Int)<N;omega⟩,jQ hN.2,fun r hr=>(key N (aE _) r hr).1,fun r hr=>(key N (aE _) r hr).2⟩
theorem Vg (hlen: ∀x,(nx x).length=9) (hN:bfE nx first N):VA ((0,(bfS nx first N).map acc,bfR nx first N):AutT) N:=by
 have h0:0<N:=by
  have:=FP (nx:=nx) (first:=first) N
  have:=(List.getElem?_eq_some_iff.1 this).1
  have:=hN.1;omega
 have key: ∀i,i<=N-> ∀r∈bfR nx first i,r.length=9/\ ∀t∈r,-1<=t/\t<(N:Int):=by
  intro i
  induction i with
  | zero=>intro _ r hr;cases hr
  | succ i ih =>
   intro hi r hr
   have hlt:=hN.2 i (by omega)
   rw[vN hlt] at hr
   rcases aD hr with hr | hr
   ·exact ih (by omega) r hr
   ·obtain rfl:=aq hr
    refine ⟨by rw[eP,hlen _],fun t ht=>?_⟩
    have:=A3 _ _ t ht
    rw[<-DI hlt] at this
    have hl:=(w6 (nx:=nx) (first:=first) hi).length_le
    have:=hN.1
    omega
 exact ⟨by show ((bfS nx first N).map acc).length=N;rw[List.length_map];exact hN.1.symm,⟨Int.le_refl _,by show (0:Int)<N;omega⟩,jQ hN.2,fun r hr=>(key N (aE _) r hr).1,fun r hr=>(key N (aE _) r hr).2⟩
end
theorem VA.self {a:AutT} {n:Nat} (v:VA a n):VA a a.2.1.length:=by
 have e:=v.len
 subst e
 exact v
theorem KU:VA nothing 1:=⟨rfl,⟨by decide,by decide⟩,rfl,fun r hr=>by
 obtain rfl:=aq hr
 decide,fun r hr=>by
 obtain rfl:=aq hr
 decide⟩
end D
namespace D
open Go.RowKit
theorem Vh {l:List Int} {x:Int} (hl:l.length<=1000000) (hx:x∈l):bd x l=some (nbI l (some x)):=by
 unfold bd eJ
 obtain ⟨o,e,hq⟩:=cK (f:=dC l x) (fun k s=>s=(k:Int)/\x∉l.take k) (fun o=>o= .ret (nbI l (some x))) l.length (s:=0) (by
  rintro k s hk ⟨rfl,hx'⟩
  unfold dC
  by_cases hkl:k<l.length
  ·rw[if_pos (by simp;omega),aK (by omega) (by omega)];simp only[aa]
   by_cases h:nth l (k:Int)=x
   ·refine .inr ⟨_,by rw[if_pos (by simp[h])],(fun s' e=>by cases e),?_⟩
    have e:l=l.take k++(x::l.drop (k+1)):=by
     rw[<-h,bN hkl,<-List.drop_eq_getElem_cons hkl,List.take_append_drop]
    rw[F5 e hx',aA,Nat.min_eq_left (by omega)]
   ·have h': ¬x=nth l (k:Int):=fun e=>h e.symm
    refine .inl ⟨hkl,_,by rw[if_neg (by simpa using h')],by rw[ah (by omega)],?_⟩
    rw[take_one hkl,List.mem_append,List.mem_singleton]
    rintro (h' | h')
    ·exact hx' h'
    ·exact h h'.symm
  ·rw[List.take_of_length_le (by omega)] at hx'
   exact absurd hx hx') ⟨rfl,by simp⟩ (uP (by omega))
 subst hq
 rw[cg e];rfl
section
variable {a:AutT} {n:Nat}
def rep (c:List Int) (x:Int):Int:=nbI c (some x)
theorem OL {c:List Int} {x:Int} (h:x∈c):0<=rep c x/\rep c x<c.length/\nth c (rep c x)=x:=by
 obtain ⟨q,hq,e1,e2⟩:=oS h
 unfold rep
 rw[e1]
 exact ⟨by omega,by omega,by rw[bN hq,e2]⟩
def Zr (a:AutT) (n:Nat) (r:AutT):Prop:=(nth (live a) a.1=false/\r=nothing)\/(nth (live a) a.1=true/\ ∃(j:Nat) (c:List Int) (nx:Int->List (Option Int)) (ac:Int->Bool) (N:Nat),c=cI a j/\(∀r,good n (live a) r->nx (nth c r)=uJ a c (live a) r)/\(∀r,good n (live a) r->ac (nth c r)=nth a.2.1 r)/\bfE nx (nth c a.1) N/\(∀x∈bfS nx (nth c a.1) N,(nx x).length=9)/\r=(0,(bfS nx (nth c a.1) N).map ac,bfR nx (nth c a.1) N))
theorem KV (V:VA a n) (hn:n<=1000000): ∃r,fI a=some r/\cr a=some r/\Data.sm r/\VA r r.2.1.length/\r.2.1.length<=n/\Zr a n r:=by
 have hlen:=V.len
 have hst:=V.start
 have hll:(live a).length=n:=by rw[uI,hlen]
 obtain ⟨c,es,ei,hcl,hfix,j,hj⟩:=KT V hn
 have hneg: ∀s:Int,0<=s->s<n->(nth c s<0↔nth (live a) s=false):=fun s h0 h1=>by
  have:=(Cy a (s:=s.toNat) (by omega) j).1
  rw[<-hj,show ((s.toNat:Nat):Int)=s from by omega] at this
  exact this
 have hlt: ∀s:Int,0<=s->s<n->nth c s<n:=fun s h0 h1=>by
  have:=Vd (c:=c) (a:=a) (s:=s.toNat) (by omega)
  rw[hfix,hlen,show ((s.toNat:Nat):Int)=s from by omega] at this
  exact this
 have hpos: ∀r,good n (live a) r->0<=nth c r:=fun r hr=>by
  have:=hneg r hr.1 hr.2.1
  by_cases k:nth c r<0
  ·have:=this.1 k;rw[hr.2.2] at this;cases this
  ·omega
 have hkey: ∀r t:Int,0<=r->r<n->0<=t->t<n->0<=nth c r->nth c r=nth c t->D3 a c r=D3 a c t:=fun r t r0 r1 t0 t1 h0 h=>by
  have:=OG (a:=a) (c:=c) (s:=r.toNat) (t:=t.toNat) (by omega) (by omega) (by rw[hfix,show ((r.toNat:Nat):Int)=r from by omega];exact h0) (by rw[hfix,show ((r.toNat:Nat):Int)=r from by omega,show ((t.toNat:Nat):Int)=t from by omega];exact h)
  rwa [show ((r.toNat:Nat):Int)=r from by omega,show ((t.toNat:Nat):Int)=t from by omega] at this
 have hacc: ∀r t:Int,0<=r->r<n->0<=t->t<n->0<=nth c r->nth c r=nth c t->nth a.2.1 r=nth a.2.1 t:=fun r t r0 r1 t0 t1 h0 h=>by
  have:=SK a (s:=r.toNat) (t:=t.toNat) (by omega) (by omega) j (by rw[<-hj,show ((r.toNat:Nat):Int)=r from by omega];exact h0) (by rw[<-hj,show ((r.toNat:Nat):Int)=r from by omega,show ((t.toNat:Nat):Int)=t from by omega];exact h)
  rwa [show ((r.toNat:Nat):Int)=r from by omega,show ((t.toNat:Nat):Int)=t from by omega] at this
 have hsuccs: ∀r,good n (live a) r->uJ a c (live a) r=(List.range 9).map fun k=>if 0<=ent a c r k then some (ent a c r k) else none:=fun r hr=>by
  refine List.map_congr_left fun k hk=>?_
  have hk:k<9:=List.mem_range.1 hk
  have hm:=V.mv hr.1 hr.2.1 hk
  unfold ent
  by_cases h:mv a r k<0
  ·rw[if_pos h,if_neg (fun h'=>by omega),if_neg (by omega)]
  ·rw[if_neg h]
   have:=hneg (mv a r k) (by omega) hm.2
   cases hl:nth (live a) (mv a r k) with
   | false =>
    have:=this.2 hl
    rw[if_neg (fun h'=>by cases h'.2),if_neg (by omega)]
   | true =>
    have: ¬nth c (mv a r k)<0:=fun h'=>by have:=this.1 h';rw[hl] at this;cases this
    rw[if_pos ⟨by omega,rfl⟩,if_pos (by omega)]
 have hent: ∀r t:Int,D3 a c r=D3 a c t-> ∀k,k<9->ent a c r k=ent a c t k:=fun r t h k hk=>by
  have h:(List.range 9).map (fun k=>ent a c r k)=(List.range 9).map (fun k=>ent a c t k):=by unfold D3 at h;injection h
  have:=congrArg (fun l:List Int=>l[k]?) h
  simpa [hk] using this
 let nx:Int->List (Option Int):=fun x=>uJ a c (live a) (rep c x)
 let acc:Int->Bool:=fun x=>nth a.2.1 (rep c x)
 let G:Int->Prop:=fun x=> ∃r,good n (live a) r/\nth c r=x
 have Gm: ∀x,G x->x∈c/\0<=x/\good n (live a) (rep c x):=by
  rintro x ⟨r,hr,rfl⟩
  have hm:nth c r∈c:=iy hr.1 (by rw[hcl];exact hr.2.1)
  obtain ⟨h0,h1,h2⟩:=OL hm
  have hp:=hpos r hr
  refine ⟨hm,hp,h0,by omega,?_⟩
  have:=hneg (rep c (nth c r)) h0 (by omega)
  rw[h2] at this
  cases hl:nth (live a) (rep c (nth c r)) with
  | true=>rfl
  | false=>have:=this.2 hl;omega
 have hnx: ∀r,good n (live a) r->nx (nth c r)=uJ a c (live a) r:=fun r hr=>by
  obtain ⟨hm,hp,hg⟩:=Gm _ ⟨r,hr,rfl⟩
  obtain ⟨h0,h1,h2⟩:=OL hm
  show uJ a c (live a) (rep c (nth c r))=_
  rw[hsuccs _ hg,hsuccs _ hr]
  refine List.map_congr_left fun k hk=>?_
  rw[hent _ _ (hkey _ _ hg.1 hg.2.1 hr.1 hr.2.1 (by rw[h2];exact hp) h2) k (List.mem_range.1 hk)]
 have hac: ∀r,good n (live a) r->acc (nth c r)=nth a.2.1 r:=fun r hr=>by
  obtain ⟨hm,hp,hg⟩:=Gm _ ⟨r,hr,rfl⟩
  obtain ⟨h0,h1,h2⟩:=OL hm
  exact hacc _ _ hg.1 hg.2.1 hr.1 hr.2.1 (by rw[h2];exact hp) h2
 have hgn: ∀r,good n (live a) r-> ∀y,some y∈uJ a c (live a) r->G y:=fun r hr y h=>by
  obtain ⟨k,hk,e⟩:=List.mem_map.1 h
  have hk:k<9:=List.mem_range.1 hk
  split at e
  ·rename_i hc
   exact ⟨mv a r k,⟨hc.1,(V.mv hr.1 hr.2.1 hk).2,hc.2⟩,ae e⟩
  ·cases e
 unfold fI cr
 simp only[dQ]
 rw[es,ei,SE V hn];simp only[aa]
 rw[aK hst.1 (by omega)];simp only[aa]
 cases hs:nth (live a) a.1 with
 | false =>
  have:=(hneg a.1 hst.1 hst.2).2 hs
  rw[HQ V hll hs,if_pos (by simpa using this),OA]
  exact ⟨nothing,rfl,rfl,KR,KU,V.pos,.inl ⟨hs,rfl⟩⟩
 | true =>
  have hst':good n (live a) a.1:=⟨hst.1,hst.2,hs⟩
  have hp:=hpos _ hst'
  have H:NumOk nx (nth c a.1) G n:=⟨⟨a.1,hst',rfl⟩,fun x hx y hy=>hgn _ (Gm x hx).2.2 y hy,fun x hx=>by simp[nx,uJ],fun l hd h=>KQ n l hd fun x hx=>by
   obtain ⟨r,hr,rfl⟩:=h x hx
   exact ⟨hpos r hr,hlt r hr.1 hr.2.1⟩⟩
  obtain ⟨N,hN,e1⟩:=WQ (acc:=acc) V hn hcl hll hs H hn hnx hac
  have hfirst: ∀x,G x->bd x c=some (rep c x):=fun x hx=>Vh (by omega) (Gm x hx).1
  obtain ⟨N',hN',e2⟩:=WO (most:=(c.length:Int)) (p2:=fun a0=>cE a0 (a.1,a.2.1,a.2.2) (fun a0=>bd a0 c)) (p3:=fun a0 a1=>cF a0 a1 (a.1,a.2.1,a.2.2) (fun a0=>bd a0 c) c) (acc:=acc) H hn (by omega) (fun x hx=>WW hn (Gm x hx).2.1 (by
    obtain ⟨r,hr,rfl⟩:=hx
    exact hlt r hr.1 hr.2.1)) (fun x hx=>by
   show cE x (a.1,a.2.1,a.2.2) (fun a0=>bd a0 c)=_
   unfold cE
   simp only
   rw[hfirst x hx];simp only[aa]
   rw[V.acc (Gm x hx).2.2.1 (Gm x hx).2.2.2.1];rfl) (fun x k hx hk=>by
   obtain ⟨hm,hx0,hg⟩:=Gm x hx
   have hm':=V.mv hg.1 hg.2.1 hk
   refine ⟨0,?_⟩
   show cF x k (a.1,a.2.1,a.2.2) (fun a0=>bd a0 c) c=_
   unfold cF
   simp only
   rw[hfirst x hx];simp only[aa]
   rw[show eS (a.1,a.2.1,a.2.2) (rep c x) k=some (mv a (rep c x) k) from WE V hg.1 hg.2.1 hk];simp only[aa]
   show _=some (match nth (uJ a c (live a) (rep c x)) (k:Int) with | some y=>(y,true) | none=>(0,false))
   rw[Jr hk]
   by_cases h:mv a (rep c x) k<0
   ·rw[if_pos (by simpa using h),if_neg (fun h'=>by omega)]
   ·rw[if_neg (by simpa using h),aK (by omega) (by omega)];simp only[aa]
    have hng:=hneg (mv a (rep c x) k) (by omega) hm'.2
    cases hl:nth (live a) (mv a (rep c x) k) with
    | false =>
     have:=hng.2 hl
     rw[if_pos (by simpa using this),if_neg (fun h'=>by cases h'.2)]
    | true =>
     have: ¬nth c (mv a (rep c x) k)<0:=fun h'=>by have:=hng.1 h';rw[hl] at this;cases this
     rw[if_neg (by simpa using this),if_pos ⟨by omega,rfl⟩])
  obtain rfl:=QW hN hN'
  have v:=W3 (acc:=acc) H hN
  refine ⟨_,by rw[e1];rfl,?_,WX H hn hN,v.self,?_,.inr ⟨hs,j,c,nx,acc,N,hj,hnx,hac,hN,fun x _=>by simp[nx,uJ],rfl⟩⟩
  rotate_left
  ·rw[v.len,hN.1];exact H.bound _ (nT N) (kF H.g0 H.gn N)
  rw[if_neg (by simp;omega)]
  exact (congrArg (fun x=>Option.bind x _) e2).trans rfl
theorem KW (V:VA a n) (hn:n<=1000000): ∃r,fI a=some r/\cr a=some r/\Data.sm r/\VA r r.2.1.length/\r.2.1.length<=n:=by
 obtain ⟨r,h1,h2,h3,h4,h5,-⟩:=KV V hn
 exact ⟨r,h1,h2,h3,h4,h5⟩
theorem Rq (V:VA a n) (hn:n<=1000000): ∃r,fI a=some r/\cr a=some r/\Data.sm r:=by
 obtain ⟨r,h1,h2,h3,-⟩:=KW V hn
 exact ⟨r,h1,h2,h3⟩
end
end D
namespace D
open Go.RowKit
theorem OM {κ:Type} [DecidableEq κ] {nx:κ->List (Option κ)} {first:κ} {acc:κ->Bool} {most:Nat} : ∀(f i:Nat),(∀j,j<i->j<(bfS nx first j).length)->(bfS nx first i).length<=most->goM nx first acc most f i=((0,[],[]),false)\/ ∃N,bfE nx first N/\N<=most/\goM nx first acc most f i=((0,(bfS nx first N).map acc,bfR nx first N),true)
 | 0,i,_,_=>.inl rfl
 | f+1,i,h,hl=>by
  have hle:=DZ h
  rw[goM]
  by_cases c:i<(bfS nx first i).length
  ·rw[if_pos c]
   by_cases d:(bfS nx first (i+1)).length>most
   ·rw[if_pos d];exact .inl rfl
   ·rw[if_neg d]
    exact OM f (i+1) (fun j hj=>by
     by_cases e:j=i
     ·subst e;exact c
     ·exact h j (by omega)) (by omega)
  ·rw[if_neg c]
   exact .inr ⟨i,⟨by omega,h⟩,by omega,by rw[List.take_of_length_le (by omega)]⟩
end D
namespace D
open Go.RowKit
theorem D5:Data.sm ((0,[],[]):AutT):=⟨trivial,⟨by decide,fun _ h=>by cases h⟩,by decide,fun _ h=>by cases h⟩
theorem F7 {e:List Tok} (he:e.length<=1048576): ∃r:AutT×Bool,ij e=some r/\gZ e=some r/\Data.sm r.1:=by
 obtain ⟨⟨p,b⟩,e1,e2,h1,h2⟩:=uK he
 have h1:p.2.2.2.1.length=p.1.length:=h1
 have h2:p.1.length<=100000:=h2
 unfold ij gZ
 rw[e1,e2];simp only[aa,dQ]
 cases b with
 | false=>exact ⟨((0,[],[]),false),rfl,rfl,D5⟩
 | true =>
  have d1:=Yl (p:=p) (most:=200) h1 (by omega) (by omega) (by omega)
  have d2:=Yk (p:=p) (most:=200) h1 (by omega) (by omega) (by omega)
  have d1:ja p 200=_:=d1
  have d2:gW p 200=_:=d2
  rw[d1,d2];simp only[if_true,aa]
  rcases OM (nx:=nxS p) (first:=1) (acc:=vW p) (most:=200) (200+2) 0 (fun j hj=>by omega) (by simp[bfS]) with e | ⟨N,hN,hNm,e⟩
  ·rw[e]
   exact ⟨((0,[],[]),false),rfl,rfl,D5⟩
  ·rw[e];simp only[if_true]
   have V:=Vg (acc:=vW p) (DY p) hN
   obtain ⟨r,es,ei,hr⟩:=Rq V (by omega)
   unfold zP
   rw[es];simp only[aa,dQ]
   rw[ei];simp only[aa,dQ]
   by_cases c:(r.2.1.length:Int)>12
   ·have c':decide ((r.2.1.length:Int)>12)=true:=decide_eq_true c
    simp only[c',if_true,aa]
    exact ⟨((0,[],[]),false),rfl,rfl,D5⟩
   ·have c':decide ((r.2.1.length:Int)>12)=false:=decide_eq_false c
    simp only[c',Bool.false_eq_true,if_false,aa]
    exact ⟨(r,true),rfl,rfl,hr⟩
theorem HW {e:List Tok} (he:e.length<=1048576): ∃r:AutT×Bool,ij e=some r/\gZ e=some r/\Data.sm r.1:=F7 he
end D
open Go.ChangeShapes Go.WideShapes Go.ChangeAt Go.RowKit
theorem own:ownKnob Tryz.prog.godebug=none:=by kernel_rfl
theorem laidOut:laidOutB Tryz.prog=true:=by kernel_rfl
theorem vX {H:Type} {enc:TypeId×Value->H} {P:Program} (hl:laidOutB P=true) {W W':World} (hb:Below W.heap.size W W') :
  ∀ {ts:List TypeId} {vs:List Value} {ds:List (DataW H)} {ps:List MemPlace},(∀t∈ts,P.readableRec t=true/\t<P.types.size)->
   DataW.TrodAll enc P W 0 (fun _=>true) true ts vs ds ps->(∀x∈ps,x.block<W.heap.size)->DataW.TrodAll enc P W' 0 (fun b=>decide (b<W.heap.size)) true ts vs ds ps
 | [],[],[],ps,_,h,_=>h
 | t::ts,v::vs,d::ds,ps,hr,⟨p,q,h1,h2,h3⟩,hlt=>by
  subst h3
  exact ⟨p,q,Below.trod hl (hr t (by simp)).1 (hr t (by simp)).2 h1 hb fun x hx=>hlt x (by simp[hx]),vX hl hb (fun t ht=>hr t (by simp[ht])) h2 fun x hx=>hlt x (by simp[hx]),rfl⟩
 | [],_::_,_,_,_,h,_=>h.elim
 | [],[],_::_,_,_,h,_=>h.elim
 | _::_,[],_,_,_,h,_=>h.elim
 | _::_,_::_,[],_,_,h,_=>h.elim
theorem Rr {H:Type} {enc:TypeId×Value->H} {f:Func} {s:ChangeSpec} {W W':World} {args:Array Value} {ds:List (DataW H)} {before:List MemPlace} (tb:TypeId)
  (hb:Tryz.prog.underlying tb=some .bool) (hr:f.resultTypes= #[tb]) (hp:(f.params.toList.all fun t=>Tryz.prog.readableRec t&&decide (t<Tryz.prog.types.size))=true) (hv:s.vars= [])
  (hW:DataW.Whole enc Tryz.prog f.params.toList s.vars false W args.toList ds [] before) (hres:(s.fn H (ds++ [])).results= [.lit (.bool true)]) (hargs:(s.fn H (ds++ [])).args=ds) (hvars:(s.fn H (ds++ [])).vars= [])
  (hbel:Below W.heap.size W W'):s.post enc Tryz.prog f false true false false W args (.bool true) W':=by
 obtain ⟨p,q,h1,h2,h3,h4,h5⟩:=hW
 have hW':DataW.Whole enc Tryz.prog f.params.toList s.vars false W args.toList ds [] before:=⟨p,q,h1,h2,h3,h4,h5⟩
 have hq:q= []:=by rw[hv] at h2;exact h2
 subst hq
 simp only[List.append_nil] at h3
 subst h3
 refine ⟨ds,[],before,[],before,[],hW',?_,?_,?_,hbel.frame _,fun h=>by cases h⟩
 ·rw[hres,hr]
  exact trodAll_mk1 (shut_bool hb true)
 ·rw[hargs]
  exact vX laidOut hbel (fun t ht=>by have:=List.all_eq_true.1 hp t ht;simpa using this) h1 fun x hx=>by simpa using hW'.lt x hx
 ·rw[hvars,hv];rfl
namespace D
open Go.RowKit
theorem A4 (x y:AutT) (hx:Data.sm x):fJ x y=some (decide (x=y)):=by
 obtain ⟨-,⟨ha,-⟩,hn,hr⟩:=hx
 unfold fJ
 by_cases c1:x.1=y.1
 case neg=>rw[if_pos (by simpa using c1)];simp[Prod.ext_iff,c1]
 rw[if_neg (by simpa using c1)]
 by_cases c2:x.2.1.length=y.2.1.length
 case neg=>rw[if_pos (by simp;omega)];simp[Prod.ext_iff];exact fun _ e=>absurd (by rw[e]) c2
 rw[if_neg (by simp;omega)]
 by_cases c3:x.2.2.length=y.2.2.length
 case neg=>rw[if_pos (by simp;omega)];simp[Prod.ext_iff];exact fun _ _ e=>absurd (by rw[e]) c3
 rw[if_neg (by simp;omega)]
 rw[eqB (f:=fl x y) x.2.1 y.2.1 (by omega) c2 (fun i h h'=>by
  simp only[fl,bE h,if_true,aB h,aB h',aa,ah (show i<9223372036854775807 by omega)]
  by_cases c:x.2.1[i] =y.2.1[i] <;> simp[c]) (by simp only[fl,bg];rfl)]
 by_cases c4:x.2.1=y.2.1
 case neg=>rw[if_neg c4];simp[Prod.ext_iff,c4]
 rw[if_pos c4]
 rw[eqB (f:=fm x y) x.2.2 y.2.2 (by omega) c3 (fun i h h'=>by
  obtain ⟨r,e,hr'⟩:=D2 x.2.2[i] y.2.2[i] ((hr _ (List.getElem_mem h)).1)
  simp only[fm,bE h,if_true,aB h,aB h',aa,ah (show i<9223372036854775807 by omega),e]
  by_cases c:x.2.2[i] =y.2.2[i]
  ·rw[if_neg (by simpa using hr'.2 c),if_pos c]
  ·rw[if_pos (by simpa using fun e=>c (hr'.1 e)),if_neg c]) (by simp only[fm,bg];rfl)]
 by_cases c5:x.2.2=y.2.2
 ·rw[if_pos c5];simp[Prod.ext_iff,c1,c4,c5]
 ·rw[if_neg c5];simp[Prod.ext_iff,c5]
theorem Rs (xs ys:List Bool) (hN:xs.length<=9223372036854775807):dJ xs ys=some (decide (xs=ys)):=
 eqL (f:=bZ xs ys) xs ys hN (fun i h h'=>by
  simp only[bZ,bE h,if_true,aB h,aB h',aa,ah (show i<9223372036854775807 by omega)]
  by_cases c:xs[i] =ys[i] <;> simp[c]) (by simp only[bZ,bg];rfl)
theorem A5 (x y:AutT) (hx:Data.sm x):dS x y=some (decide (x=y)):=by
 obtain ⟨-,⟨ha,-⟩,hn,hr⟩:=hx
 unfold dS
 by_cases c1:x.1=y.1
 case neg=>rw[if_neg (by simpa using c1)];simp[Prod.ext_iff,c1]
 rw[if_pos (by simpa using c1),Rs _ _ (by omega)];simp only[aa]
 by_cases c2:x.2.1=y.2.1
 case neg=>rw[if_neg (by simpa using c2)];simp[Prod.ext_iff,c2]
 rw[if_pos (by simpa using c2)]
 have:bL x.2.2 y.2.2 (fun a0 a1=>fX a0 a1)=some (decide (x.2.2=y.2.2)):=
  eqL (f:=a7 x.2.2 y.2.2 _) x.2.2 y.2.2 (by omega) (fun i h h'=>by
   simp only[a7,bE h,if_true,aB h,aB h',aa,ah (show i<9223372036854775807 by omega),fX]
   rw[AZ _ _ (by have:x.2.2[i].length<=1048576:=(hr _ (List.getElem_mem h)).1;omega)];simp only[aa]
   by_cases c:x.2.2[i] =y.2.2[i] <;> simp[c]) (by simp only[a7,bg];rfl)
 rw[this]
 by_cases c3:x.2.2=y.2.2 <;> simp[Prod.ext_iff,c1,c2,c3]
end D
set_option synthInstance.maxSize 20000
set_option synthInstance.maxHeartbeats 2000000
namespace D
open Go.RowKit
abbrev QT:=Int×List Tok×Int
abbrev KX:=List AutT×List QT
theorem Rt (x y:List Tok) (hx:x.length<=1048576):lB x y=some (decide (x=y)):=by
 unfold lB
 exact eqL (f:=iI x y) x y (by omega) (fun i h h'=>by
  simp only[iI,bE h,if_true,aB h,aB h',aa,dQ,ah (show i<9223372036854775807 by omega)]
  refine fO ?_;simp only[Bool.and_true,ak,beq_iff_eq];exact Y4) (by simp only[iI,bg];rfl)
theorem ON (x y:List Tok) (hx:x.length<=1048576):cn x y=some (decide (x=y)):=by
 unfold cn
 exact eqL (f:=bW x y) x y (by omega) (fun i h h'=>by
  simp only[bW,bE h,if_true,aB h,aB h',aa,dQ,ah (show i<9223372036854775807 by omega)]
  refine fO ?_;simp only[Bool.and_true,ak,beq_iff_eq];exact Y4) (by simp only[bW,bg];rfl)
theorem Ru (x y:List Tok) (hx:x.length<=1048576):lj x y=some (decide (x=y)):=by
 unfold lj
 rw[ON x y hx];rfl
theorem D6 (x y:KX) (hx:Data.sm x):gg x y=some (decide (x=y)):=by
 obtain ⟨⟨ha,hA⟩,hq,hQ⟩:=hx
 unfold gg
 by_cases h1:x.1.length=y.1.length
 ·by_cases h2:x.2.length=y.2.length
  ·rw[if_neg (by rw[h1];simp),if_neg (by rw[h2];simp)]
   rw[eqB (f:=eG x y) x.1 y.1 (by omega) h1 (fun i h h'=>by
    simp only[eG,bE h,if_true,aB h,aB h',aa,dQ,A4 x.1[i] y.1[i] (hA _ (List.getElem_mem h)),ah (show i<9223372036854775807 by omega)]
    exact fO (by simp)) (by simp only[eG,bg];rfl)]
   rw[eqB (f:=eH x y) x.2 y.2 (by omega) h2 (fun i h h'=>by
    have e:=Rt x.2[i].2.1 y.2[i].2.1 (hQ _ (List.getElem_mem h)).2.1.1
    simp only[eH,bE h,if_true,aB h,aB h',aa,e,ah (show i<9223372036854775807 by omega)]
    generalize x.2[i] =u;generalize y.2[i] =v
    by_cases e1:u.1=v.1 <;> by_cases e2:u.2.1=v.2.1 <;> by_cases e3:u.2.2=v.2.2 <;> simp[Prod.ext_iff,e1,e2,e3]) (by simp only[eH,bg];rfl)]
   by_cases e1:x.1=y.1 <;> by_cases e2:x.2=y.2 <;> simp[Prod.ext_iff,e1,e2]
  ·have:x.2≠y.2:=fun e=>h2 (by rw[e])
   rw[if_neg (by rw[h1];simp),if_pos (by simp;omega)];simp[Prod.ext_iff,this]
 ·have:x.1≠y.1:=fun e=>h1 (by rw[e])
  rw[if_pos (by simp;omega)];simp[Prod.ext_iff,this]
theorem KY (x y:QT) (hx:Data.sm x):gx x y=some (decide (x=y)):=by
 unfold gx
 rw[Ru x.2.1 y.2.1 hx.2.1.1];simp only[aa]
 by_cases h1:x.1=y.1 <;> by_cases h2:x.2.1=y.2.1 <;> by_cases h3:x.2.2=y.2.2 <;> simp[Prod.ext_iff,h1,h2,h3]
theorem D7 (x y:KX) (hx:Data.sm x):fY x y=some (decide (x=y)):=by
 obtain ⟨⟨ha,hA⟩,hq,hQ⟩:=hx
 unfold fY
 have e:aY x.1 y.1 (fun a0 a1=>dS a0 a1)=some (decide (x.1=y.1)):=
  eqL (f:=aO x.1 y.1 _) x.1 y.1 (by omega) (fun i h h'=>by
   simp only[aO,bE h,if_true,aB h,aB h',aa,dQ,ah (show i<9223372036854775807 by omega),A5 x.1[i] y.1[i] (hA _ (List.getElem_mem h))]
   exact fO (by simp)) (by simp only[aO,bg];rfl)
 have e':aS x.2 y.2 (fun a0 a1=>gx a0 a1)=some (decide (x.2=y.2)):=
  eqL (f:=aL x.2 y.2 _) x.2 y.2 (by omega) (fun i h h'=>by
   simp only[aL,bE h,if_true,aB h,aB h',aa,dQ,ah (show i<9223372036854775807 by omega),KY x.2[i] y.2[i] (hQ _ (List.getElem_mem h))]
   exact fO (by simp)) (by simp only[aL,bg];rfl)
 rw[e,e'];simp only[aa]
 by_cases h1:x.1=y.1 <;> by_cases h2:x.2=y.2 <;> simp[Prod.ext_iff,h1,h2]
theorem pI {R S:Type} {f g:S->Option (Out R S)} (Inv:Nat->S->Prop) (h: ∀i s,Inv i s->g s=f s/\ ∀s',f s=some (.nxt s')->Inv (i+1) s'): ∀(k i:Nat) (s:S),Inv i s->ay g k s=ay f k s
 | 0,_,_,_=>rfl
 | k+1,i,s,hI=>by
  obtain ⟨h1,h2⟩:=h i s hI
  rw[ay,ay,h1]
  cases e:f s with
  | none=>rfl
  | some o =>
   cases o with
   | nxt s'=>exact pI Inv h k (i+1) s' (h2 s' e)
   | brk s'=>rfl
   | ret r=>rfl
theorem Jw {f g:Int->Option (Out Int Int)} (N:Nat) (hN:N<=1048576) (h: ∀i:Nat,i<N->f (i:Int)=some (.ret (i:Int))\/f (i:Int)=some (.nxt ((i+1:Nat):Int))) (he:f (N:Int)=some (.brk (N:Int))) (hfg: ∀i:Nat,i<=N->g (i:Int)=f (i:Int)) :
  ∃r:Int,aP (ay f aW 0) (fun r=>some r) (fun _=>some (-1))=some r/\aP (ay g aW 0) (fun r=>some r) (fun _=>some (-1))=some r/\(r= -1\/ ∃i:Nat,i<N/\r=(i:Int)):=by
 have hs:ay g aW 0=ay f aW 0:=pI (fun i s=>s=(i:Int)/\i<=N) (fun i s ⟨e,hi⟩=>by
  subst e
  refine ⟨hfg i hi,fun s' e=>?_⟩
  by_cases c:i<N
  ·rcases h i c with e2 | e2
   ·rw[e2] at e;cases e
   ·rw[e2] at e;cases e;exact ⟨rfl,c⟩
  ·obtain rfl:i=N:=by omega
   rw[he] at e;cases e) aW 0 0 ⟨rfl,Nat.zero_le _⟩
 rw[hs]
 obtain ⟨o,e,ho⟩:=cK (f:=f) (fun i s=>s=(i:Int)) (fun o=>o= .brk (N:Int)\/ ∃i:Nat,i<N/\o= .ret (i:Int)) N (fun i s hi hs=>by
  subst hs
  by_cases h1:i<N
  ·rcases h i h1 with h2 | h2
   ·exact .inr ⟨_,h2,(fun s' e=>by cases e),.inr ⟨i,h1,rfl⟩⟩
   ·exact .inl ⟨h1,_,h2,rfl⟩
  ·obtain rfl:i=N:=by omega
   exact .inr ⟨_,he,(fun s' e=>by cases e),.inl rfl⟩) (s:=0) rfl (dA _ (by omega))
 rw[e]
 rcases ho with rfl | ⟨i,hi,rfl⟩
 ·exact ⟨-1,rfl,rfl,.inl rfl⟩
 ·exact ⟨i,rfl,rfl,.inr ⟨i,hi,rfl⟩⟩
theorem KZ (l:List AutT) (a:AutT) (hl:l.length<=1048576) (hs: ∀x∈l,Data.sm x) (ha:Data.sm a): ∃r:Int,lW l a=some r/\bc l (fun a0=>lT a0 a)=some r/\(r= -1\/ ∃i:Nat,i<l.length/\r=(i:Int)):=by
 unfold lW bc
 have hf: ∀i (h:i<l.length),il l a (i:Int)=if l[i] =a then some (.ret (i:Int)) else some (.nxt ((i+1:Nat):Int)):=fun i h=>by
  simp only[il,bE h,if_true,aB h,aa,dQ,A4 l[i] a (hs _ (List.getElem_mem h)),ah (show i<9223372036854775807 by omega)]
  by_cases c:l[i] =a <;> simp[c]
 refine Jw l.length hl (fun i h=>?_) (by simp only[il,bg];rfl) (fun i hi=>?_)
 ·rw[hf i h];by_cases c:l[i] =a <;> simp[c]
 ·by_cases h:i<l.length
  ·rw[hf i h]
   simp only[bP,lT,bE h,if_true,aB h,aa,dQ,A5 a l[i] ha,ah (show i<9223372036854775807 by omega)]
   by_cases c:l[i] =a
   ·simp[c]
   ·have: ¬a=l[i]:=fun e=>c e.symm
    simp[c,this]
  ·obtain rfl:i=l.length:=by omega
   simp only[il,bP,bg];rfl
def HY (n i:Nat) (s:Int×List AutT×List QT):Prop:=s.1=(i:Int)/\i<=n/\s.2.2.length=i/\s.2.1.length<=i/\(∀a∈s.2.1,Data.sm a)/\ ∀q∈s.2.2,Data.sm q/\0<=q.2.2/\q.2.2<(s.2.1.length:Int)
theorem Jx {qs:List QT} (hq:Data.sm qs) {i:Nat} {s:Int×List AutT×List QT} (hI:HY qs.length i s):ka qs s=dw qs s /\
  ((i<qs.length/\ ∃s',dw qs s=some (.nxt s')/\HY qs.length (i+1) s')\/ ∃o,dw qs s=some o/\(∀s',o≠ .nxt s')/\(o= .ret (([],[]),false)\/o= .brk s/\i=qs.length)):=by
 obtain ⟨hn,hs⟩:=aN hq
 obtain ⟨s1,A,Q⟩:=s
 obtain ⟨h1,h2,h3,h4,h5,h6⟩:=hI
 simp only at h1 h3 h4 h5 h6
 subst h1
 by_cases hi:i<qs.length
 ·have hqi:=hs _ (List.getElem_mem hi)
  obtain ⟨r,es,ei,hr⟩:=HW (e:=qs[i].2.1) hqi.2.1.1
  obtain ⟨k,ks,ki,hk⟩:=KZ A r.1 (by omega) h5 hr
  have a1:cd 56 A [r.1] =some (A++ [r.1]):=aI (by simp;omega)
  have a2: ∀y,cd 40 Q [y] =some (Q++ [y]):=fun y=>aI (by simp;omega)
  have a3:gG qs[i].2.1=some qs[i].2.1:=by unfold gG;rw[aI (by have:=hqi.2.1.1;simp;omega)];rfl
  have a4:fQ qs[i].2.1=some qs[i].2.1:=by unfold fQ;rw[aI (by have:=hqi.2.1.1;simp;omega)];rfl
  unfold ka dw
  simp only[bE hi,if_true,aB hi,aa,es,ei,La,Gc,dQ,ks,ki,a1,a2,a3,a4,ah (show i<9223372036854775807 by omega)]
  by_cases c1:r.2=true
  case neg =>
   simp only[c1,Bool.false_eq_true,if_false]
   exact ⟨by first | trivial | rfl,.inr ⟨_,rfl,(fun s' e=>by cases e),.inl rfl⟩⟩
  simp only[c1,if_true]
  by_cases c2:1<=qs[i].1/\qs[i].1<=99
  case neg =>
   simp only[c2,decide_false,Bool.false_eq_true,if_false]
   exact ⟨by first | trivial | rfl,.inr ⟨_,rfl,(fun s' e=>by cases e),.inl rfl⟩⟩
  simp only[c2,decide_true,if_true]
  have fin: ∃s':Int×List AutT×List QT,(∀(y:Option (Out (KX×Bool) (Int×List AutT×List QT))),True)/\(Option.bind (if decide (k<0) then some ((A.length:Int),A++ [r.1],Q) else some (k,A,Q)) fun s10:Int×List AutT×List QT=>(cd 40 s10.2.2 [(qs[i].1,qs[i].2.1,s10.1)]).bind fun z18=>some (.nxt (((i+1:Nat):Int),s10.2.1,z18)):Option (Out (KX×Bool) (Int×List AutT×List QT)))=some (.nxt s')/\HY qs.length (i+1) s':=by
   rcases hk with rfl | ⟨j,hj,rfl⟩
   ·refine ⟨(((i+1:Nat):Int),A++ [r.1],Q++ [(qs[i].1,qs[i].2.1,(A.length:Int))]),fun _=>trivial,?_,rfl,hi,by simp;omega,by simp;omega,fun a ha=>?_,fun q hq'=>?_⟩
    ·simp only[show decide ((-1:Int)<0)=true from rfl,if_true,aa,a2]
    ·simp only[List.mem_append,List.mem_singleton] at ha
     rcases ha with ha | rfl
     ·exact h5 a ha
     ·exact hr
    ·simp only[List.mem_append,List.mem_singleton] at hq'
     simp only[aw,List.length_singleton]
     rcases hq' with hq' | rfl
     ·obtain ⟨b1,b2,b3⟩:=h6 q hq'
      exact ⟨b1,b2,by omega⟩
     ·exact ⟨⟨trivial,hqi.2.1,trivial⟩,by simp,by simp;omega⟩
   ·refine ⟨(((i+1:Nat):Int),A,Q++ [(qs[i].1,qs[i].2.1,(j:Int))]),fun _=>trivial,?_,rfl,hi,by simp;omega,by simp only;omega,h5,fun q hq'=>?_⟩
    ·have:decide ((j:Int)<0)=false:=by simp
     simp only[this,Bool.false_eq_true,if_false,aa,a2]
    ·simp only[List.mem_append,List.mem_singleton] at hq'
     rcases hq' with hq' | rfl
     ·exact h6 q hq'
     ·exact ⟨⟨trivial,hqi.2.1,trivial⟩,by simp,by simp;omega⟩
  obtain ⟨s',-,e,hI'⟩:=fin
  by_cases c3:(i:Int)>0
  ·have hp:i - 1<qs.length:=by omega
   have hw:i64.wrap ((i:Int) - 1)=((i - 1:Nat):Int):=by rw[nS (by omega)];omega
   simp only[c3,decide_true,if_true,hw,aB hp,aa]
   by_cases c4:qs[i - 1].1≥qs[i].1
   ·simp only[c4,decide_true,if_true]
    exact ⟨by first | trivial | rfl,.inr ⟨_,rfl,(fun s' e=>by cases e),.inl rfl⟩⟩
   ·simp only[c4,decide_false,Bool.false_eq_true,if_false]
    exact ⟨by first | trivial | rfl,.inl ⟨hi,s',e,hI'⟩⟩
  ·simp only[c3,decide_false,Bool.false_eq_true,if_false]
   exact ⟨by first | trivial | rfl,.inl ⟨hi,s',e,hI'⟩⟩
 ·obtain rfl:i=qs.length:=by omega
  unfold ka dw
  simp only[bg,Bool.false_eq_true,if_false]
  exact ⟨by first | trivial | rfl,.inr ⟨_,rfl,(fun s' e=>by cases e),.inr (by first | exact ⟨rfl,rfl⟩ | exact ⟨trivial,rfl⟩ | exact ⟨rfl,trivial⟩ | simp)⟩⟩
def RegOk (r:KX):Prop:=Data.sm r/\ ∀q∈r.2,0<=q.2.2/\q.2.2<(r.1.length:Int)
theorem Rv {qs:List QT} (hq:Data.sm qs): ∃r:KX,∃b:Bool,oo qs=(if (qs.length:Int)>4 then some (([],[]),false) else some (r,b))/\sG qs=some (r,b&&decide ((qs.length:Int)<=4))/\RegOk r:=by
 have hn:=(aN hq).1
 have h0:HY qs.length 0 (0,[],[]):=⟨rfl,Nat.zero_le _,rfl,aE _,fun _ h=>(by cases h),fun _ h=>(by cases h)⟩
 have hs:ay (ka qs) aW (0,[],[])=ay (dw qs) aW (0,[],[]):=pI (HY qs.length) (fun i s hI=>by
  obtain ⟨e,h⟩:=Jx hq hI
  refine ⟨e,fun s' e'=>?_⟩
  rcases h with ⟨_,s2,e2,hI2⟩ | ⟨o,e2,hne,-⟩
  ·rw[e2] at e';cases e';exact hI2
  ·rw[e2] at e';cases e';exact absurd rfl (hne s')) aW 0 _ h0
 obtain ⟨o,e,ho⟩:=cK (f:=dw qs) (HY qs.length) (fun o=>o= .ret (([],[]),false)\/ ∃A Q,o= .brk ((qs.length:Int),A,Q)/\HY qs.length qs.length ((qs.length:Int),A,Q)) qs.length (fun i s hi hI=>by
  rcases (Jx hq hI).2 with h | ⟨o,e,hne,h⟩
  ·exact .inl h
  ·refine .inr ⟨o,e,hne,?_⟩
   rcases h with h | ⟨h,rfl⟩
   ·exact .inl h
   ·obtain ⟨s1,A,Q⟩:=s
    obtain ⟨rfl,-⟩:=id hI
    exact .inr ⟨A,Q,h,hI⟩) h0 (dA _ (by omega))
 unfold oo sG
 rw[hs,e]
 rcases ho with rfl | ⟨A,Q,rfl,-,-,h3,h4,h5,h6⟩
 ·refine ⟨([],[]),false,?_,rfl,⟨⟨Nat.zero_le _,fun _ h=>(by cases h)⟩,Nat.zero_le _,fun _ h=>(by cases h)⟩,fun _ h=>(by cases h)⟩
  by_cases c:(qs.length:Int)>4 <;> simp[c,aP]
 ·simp only at h3 h4 h5 h6
  refine ⟨(A,Q),true,?_,by simp[aP],⟨⟨show A.length<=1048576 by omega,h5⟩,show Q.length<=1048576 by omega,fun q h=>(h6 q h).1⟩,fun q h=>(h6 q h).2⟩
  by_cases c:(qs.length:Int)>4 <;> simp[c,aP]
theorem K0 {r:KX} (hr:Data.sm r): ∃b,gi r=some b/\ga r=some b/\(b=true->RegOk r):=by
 obtain ⟨x,b,e1,e2,hx⟩:=Rv hr.2
 unfold gi ga
 rw[e1,e2]
 by_cases c:(r.2.length:Int)>4
 ·have c': ¬(r.2.length:Int)<=4:=by omega
  exact ⟨false,by simp[c],by simp[c'],fun e=>by cases e⟩
 ·have c':(r.2.length:Int)<=4:=by omega
  cases b with
  | false=>exact ⟨false,by simp[c],by simp,fun e=>by cases e⟩
  | true =>
   simp only[c,if_false,aa,if_true,c',decide_true,Bool.and_true,dQ,D6 x r hx.1,D7 x r hx.1]
   exact ⟨_,rfl,rfl,fun e=>by rw[<-of_decide_eq_true e];exact hx⟩
end D
set_option synthInstance.maxSize 20000
set_option synthInstance.maxHeartbeats 2000000
namespace D
open Go.RowKit
abbrev Lc:=Int×(List GrT)
abbrev Yq:=Int×Int×Int
theorem A6 (g:GrT) (hg:Data.sm g):ct g=some g:=by
 have h1:=(aN hg.1).1
 have h2:=(aN hg.2).1
 unfold ct
 rw[aI (by simp;omega)];simp only[aa,List.nil_append]
 rw[aI (by simp;omega)];rfl
theorem A7 (g:GrT) (hg:Data.sm g):dL g=some g:=by
 have h1:=(aN hg.1).1
 have h2:=(aN hg.2).1
 unfold dL lU
 rw[aI (by simp;omega)];simp only[aa,List.nil_append]
 rw[aI (by simp;omega)];rfl
theorem CA {g:GrT} (hg:Data.sm g): ∃b,bG g=some b:=by
 obtain ⟨b,e,_⟩:=Q7 g (aN hg.1).1 (aN hg.2).1
 exact ⟨b,e⟩
def okG (h:Lc) (g:GrT):Prop:=bG g=some true/\g.1=(nth h.2 0).1
instance (h g):Decidable (okG h g):=by unfold okG;infer_instance
theorem A8 (h:Lc) (hh:Data.sm h): ∃b,m_s_IsValidHistory h=some b/\m_i_IsValidHistory h=some b/\(b=true->(1<=h.2.length/\h.2.length<=8)/\1<=h.1/\h.1<=1000 - (h.2.length:Int)):=by
 obtain ⟨hl,hs⟩:=aN hh.2
 have ew:i64.wrap ((i64.wrap (999 - (h.2.length:Int)))+1)=1000 - (h.2.length:Int):=by
  rw[fe (n:=999 - (h.2.length:Int)) (by omega) (by omega),fe (by omega) (by omega)];omega
 have ks:=scan (f:=eW h) h.2 (okG h) false (by omega) (fun i hi=>by
  have hg:=hs _ (iy (xs:=h.2) (i:=(i:Int)) (by omega) (by omega))
  obtain ⟨b,e⟩:=CA hg
  obtain ⟨r,er,hr⟩:=D2 (nth h.2 (i:Int)).1 (nth h.2 0).1 (aN hg.1).1
  have e':cV ((nth h.2 (i:Int)).1,(nth h.2 (i:Int)).2)=some b:=by rw[vQ];exact e
  have hk:okG h (nth h.2 (i:Int))↔b=true/\(nth h.2 (i:Int)).1=(nth h.2 0).1:=by unfold okG;rw[e];simp
  unfold eW
  rw[if_pos (by simp;omega),aK (by omega) (by omega)];simp only[aa]
  rw[e',aK (xs:=h.2) (i:=0) (by omega) (by omega)];simp only[aa]
  rw[er,ah (by omega)];simp only[aa]
  cases b with
  | false=>rw[if_neg (by decide),if_neg (fun c=>by cases (hk.1 c).1)]
  | true =>
   rw[if_pos rfl]
   by_cases c:r=0
   ·rw[if_neg (by simp[c]),if_pos (hk.2 ⟨rfl,hr.1 c⟩)]
   ·rw[if_pos (by simpa using c),if_neg (fun k=>c (hr.2 (hk.1 k).2))]) (by unfold eW;simp)
 have ki:=scan (f:=eQ h) h.2 (okG h) false (by omega) (fun i hi=>by
  have hg:=hs _ (iy (xs:=h.2) (i:=(i:Int)) (by omega) (by omega))
  obtain ⟨b,e⟩:=CA hg
  have er:=AZ (nth h.2 (i:Int)).1 (nth h.2 0).1 (by have:=(aN hg.1).1;omega)
  have e':bG ((nth h.2 (i:Int)).1,(nth h.2 (i:Int)).2)=some b:=e
  have hk:okG h (nth h.2 (i:Int))↔b=true/\(nth h.2 (i:Int)).1=(nth h.2 0).1:=by unfold okG;rw[e];simp
  unfold eQ
  rw[if_pos (by simp;omega),aK (by omega) (by omega)];simp only[aa]
  rw[e',aK (xs:=h.2) (i:=0) (by omega) (by omega)];simp only[aa]
  rw[er,ah (by omega)];simp only[aa]
  cases b with
  | false=>rw[if_neg (by decide),if_neg (fun c=>by cases (hk.1 c).1)]
  | true =>
   rw[if_pos rfl]
   by_cases c:(nth h.2 (i:Int)).1=(nth h.2 0).1
   ·rw[if_pos (decide_eq_true c),if_pos (hk.2 ⟨rfl,c⟩)]
   ·rw[if_neg (by simpa using c),if_neg (fun k=>c (hk.1 k).2)]) (by unfold eQ;simp)
 unfold m_s_IsValidHistory m_i_IsValidHistory
 rw[La,La,Gc,Gc,ew];simp only[aa]
 by_cases c1:(1:Int)<=(h.2.length:Int)/\(h.2.length:Int)<=8
 ·by_cases c2:1<=h.1/\h.1<=1000 - (h.2.length:Int)
  ·rw[decide_eq_true c1,decide_eq_true c2];simp only[if_true]
   rcases ks with ⟨es,k1⟩ | ⟨es,k1⟩ <;> rcases ki with ⟨ei,k2⟩ | ⟨ei,k2⟩
   ·rw[aG es,aG ei]
    exact ⟨true,rfl,rfl,fun _=>⟨by omega,c2⟩⟩
   ·exact absurd k1 k2
   ·exact absurd k2 k1
   ·rw[cg es,cg ei]
    exact ⟨false,rfl,rfl,fun c=>by cases c⟩
  ·rw[decide_eq_true c1,decide_eq_false c2];simp only[if_true,Bool.false_eq_true,if_false]
   rcases ks with ⟨es,k1⟩ | ⟨es,k1⟩
   ·rw[aG es];exact ⟨false,rfl,rfl,fun c=>by cases c⟩
   ·rw[cg es];exact ⟨false,rfl,rfl,fun c=>by cases c⟩
 ·rw[decide_eq_false c1];simp only[Bool.false_eq_true,if_false]
  rcases ks with ⟨es,k1⟩ | ⟨es,k1⟩
  ·rw[aG es];exact ⟨false,rfl,rfl,fun c=>by cases c⟩
  ·rw[cg es];exact ⟨false,rfl,rfl,fun c=>by cases c⟩
def latV (h:Lc):Int:=h.1+(h.2.length:Int) - 1
theorem A9 {h:Lc} (hs:m_s_IsValidHistory h=some true) (hi:m_i_IsValidHistory h=some true) (k:(1<=h.2.length/\h.2.length<=8)/\1<=h.1/\h.1<=1000 - (h.2.length:Int)):a8 h=some (latV h)/\bH h=some (latV h):=by
 unfold a8 bH latV
 have hs:m_s_IsValidHistory (h.1,h.2)=_:=hs
 have hi:m_i_IsValidHistory (h.1,h.2)=_:=hi
 rw[hs,hi];simp only[aa,if_true]
 rw[fe (n:=h.1+(h.2.length:Int)) (by omega) (by omega),fe (by omega) (by omega)]
 exact ⟨rfl,rfl⟩
end D
set_option synthInstance.maxSize 20000
set_option synthInstance.maxHeartbeats 2000000
namespace D
open Go.RowKit
theorem Vi (a:AutT) (ha:Data.sm a):pV a=some a:=by
 obtain ⟨-,⟨hb,-⟩,hn,hr⟩:=ha
 unfold pV
 rw[aI (by simp;omega)];simp only[aa,List.nil_append]
 have:=br (f:=jf a) (fun i=>((i:Int),a.1,a.2.1,a.2.2.take i)) a.2.2.length (fun i hi=>by
  unfold jf
  have h1:cd 8 ([] :List Int) a.2.2[i] =some a.2.2[i]:=by rw[aI (by have:a.2.2[i].length<=1048576:=(hr _ (List.getElem_mem hi)).1;simp;omega)];rfl
  simp only[bE hi,if_true,aB hi,aa,h1,ah (show i<9223372036854775807 by omega)]
  rw[aI (by simp;omega)]
  simp only[aa]
  rw[List.take_succ_eq_append_getElem hi]) (by
  unfold jf
  simp only[bg,Bool.false_eq_true,if_false]) (dA _ (by omega))
 have e:ay (jf a) aW (0,a.1,a.2.1,[])=_:=this
 rw[e]
 simp only[aP,List.take_length]
theorem Vj (a:AutT) (ha:Data.sm a):iF a=some a:=by
 obtain ⟨-,⟨hb,-⟩,hn,hr⟩:=ha
 unfold iF
 rw[aI (by simp;omega)];simp only[aa,List.nil_append]
 have:=br (f:=dI a) (fun i=>((i:Int),a.1,a.2.1,a.2.2.take i)) a.2.2.length (fun i hi=>by
  unfold dI lU
  have h1:cd 8 ([] :List Int) a.2.2[i] =some a.2.2[i]:=by rw[aI (by have:a.2.2[i].length<=1048576:=(hr _ (List.getElem_mem hi)).1;simp;omega)];rfl
  simp only[bE hi,if_true,aB hi,aa,h1,ah (show i<9223372036854775807 by omega)]
  rw[aI (by simp;omega)]
  simp only[aa]
  rw[List.take_succ_eq_append_getElem hi]) (by
  unfold dI
  simp only[bg,Bool.false_eq_true,if_false]) (dA _ (by omega))
 have e:ay (dI a) aW (0,a.1,a.2.1,[])=_:=this
 rw[e]
 simp only[aP,List.take_length]
end D
set_option synthInstance.maxSize 20000
set_option synthInstance.maxHeartbeats 2000000
namespace D
open Go.RowKit
theorem OO (r:KX) (id:Int) (hl:r.2.length<=1048576): ∃k:Int,kj r id=some k/\ke r id=some k/\(k= -1\/ ∃i:Nat,i<r.2.length/\k=(i:Int)):=by
 unfold kj ke bT
 have hf: ∀i (h:i<r.2.length),eN r id (i:Int)=if r.2[i].1=id then some (.ret (i:Int)) else some (.nxt ((i+1:Nat):Int)):=fun i h=>by
  simp only[eN,bE h,if_true,aB h,aa,ah (show i<9223372036854775807 by omega)]
  by_cases c:r.2[i].1=id <;> simp[c]
 obtain ⟨k,e1,e2,h⟩:=Jw (f:=eN r id) (g:=bj r.2 fun a0=>kd a0 id) r.2.length hl (fun i h=>by
  rw[hf i h];by_cases c:r.2[i].1=id <;> simp[c]) (by simp only[eN,bg];rfl) (fun i hi=>by
  by_cases h:i<r.2.length
  ·rw[hf i h]
   simp only[bj,kd,bE h,if_true,aB h,aa,ah (show i<9223372036854775807 by omega)]
   by_cases c:r.2[i].1=id <;> simp[c]
  ·obtain rfl:i=r.2.length:=by omega
   simp only[eN,bj,bg];rfl)
 refine ⟨k,e1,?_,h⟩
 rw[e2];rfl
end D
set_option synthInstance.maxSize 20000
set_option synthInstance.maxHeartbeats 2000000
namespace D
open Go.RowKit
abbrev EngT:=Lc×KX×List Yq×ByteArray
theorem Jy {h:Lc} {r:KX} {ss:List Yq} {lg:ByteArray} {v:Int} (hs:a8 h=some v) (hr:r.2.length<=1048576) (hn:ss.length<=1048576) {i:Nat} (h1:i<ss.length) :
  cm (h,r,ss,lg) v (i:Int)=cN (h,r,ss,lg) (i:Int)/\(cN (h,r,ss,lg) (i:Int)=some (.nxt ((i+1:Nat):Int))\/cN (h,r,ss,lg) (i:Int)=some (.ret false)):=by
 obtain ⟨k,k1,k2,-⟩:=OO r ss[i].2.1 hr
 have hw:i64.wrap ((i:Int)+1)=((i+1:Nat):Int):=ah (by omega)
 unfold cm cN
 simp only[dQ,bE h1,if_true,aB h1,aa,La,Gc,k1,k2,hs,hw]
 by_cases c:decide ((i:Int)>0)=true
 ·have g:aT ss (i64.wrap ((i:Int) - 1))=some (nth ss ((i:Int) - 1)):=by
   have:(i:Int)>0:=of_decide_eq_true c
   rw[nS (by omega),aK (by omega) (by omega)]
  simp only[if_pos c,g,aa]
  refine ⟨trivial,?_⟩
  repeat' split
  all_goals first | exact .inr rfl | exact .inl rfl
 ·simp only[if_neg c]
  refine ⟨trivial,?_⟩
  repeat' split
  all_goals first | exact .inr rfl | exact .inl rfl
theorem Rw {h:Lc} {r:KX} {ss:List Yq} {lg:ByteArray} {v:Int} (hs:a8 h=some v) (hr:r.2.length<=1048576) (hn:ss.length<=1048576): ∃o,ay (cN (h,r,ss,lg)) aW 0=some o/\ay (cm (h,r,ss,lg) v) aW 0=some o/\(o= .ret false\/ ∃s,o= .brk s):=by
 have hend:cN (h,r,ss,lg) (ss.length:Int)=some (.brk (ss.length:Int)):=by
  unfold cN
  simp only[]
  rw[bg];rfl
 have hend2:cm (h,r,ss,lg) v (ss.length:Int)=some (.brk (ss.length:Int)):=by
  unfold cm
  simp only[]
  rw[bg];rfl
 obtain ⟨o,e,hQ⟩:=cK (f:=cN (h,r,ss,lg)) (fun i s=>s=(i:Int)) (fun o=>o= .ret false\/ ∃s,o= .brk s) ss.length (fun i s hi hI=>by
  subst hI
  by_cases h1:i<ss.length
  ·rcases (Jy (lg:=lg) hs hr hn h1).2 with k | k
   ·exact .inl ⟨h1,_,k,rfl⟩
   ·exact .inr ⟨_,k,fun s' h=>(by simp at h),.inl rfl⟩
  ·obtain rfl:i=ss.length:=by omega
   exact .inr ⟨_,hend,fun s' h=>(by simp at h),.inr ⟨_,rfl⟩⟩) (s:=(0:Int)) rfl (dA _ (by omega))
 refine ⟨o,e,?_,hQ⟩
 rw[<-e]
 refine pI (f:=cN (h,r,ss,lg)) (g:=cm (h,r,ss,lg) v) (fun i s=>s=(i:Int)/\i<=ss.length) (fun i s hI=>?_) aW 0 0 ⟨rfl,Nat.zero_le _⟩
 obtain ⟨rfl,hi⟩:=hI
 by_cases h1:i<ss.length
 ·obtain ⟨a,b⟩:=Jy (lg:=lg) hs hr hn h1
  refine ⟨a,fun s' hs'=>?_⟩
  rcases b with b | b
  ·rw[b] at hs'
   obtain rfl:=ae hs' |> Out.nxt.inj
   exact ⟨rfl,h1⟩
  ·rw[b] at hs';simp at hs'
 ·obtain rfl:i=ss.length:=by omega
  exact ⟨by rw[hend,hend2],fun s' hs'=>by rw[hend] at hs';simp at hs'⟩
structure EngOk (e:EngT):Prop where
 hs:m_s_IsValidHistory e.1=some true
 hi:m_i_IsValidHistory e.1=some true
 hb:(1<=e.1.2.length/\e.1.2.length<=8)/\1<=e.1.1/\e.1.1<=1000 - (e.1.2.length:Int)
 reg:RegOk e.2.1
 sub:e.2.2.1.length<=4
 log:e.2.2.2.size<=4000
 sc: ∃(r:List Int) (q:List (List ChT)) (n:Nat),m_s_ScanLog e.2.2.2=some (r,q,(n:Int))/\m_i_ScanLog e.2.2.2=some (r,q,(n:Int))/\r.length<=4000/\ScOk r q/\totL r q r.length<=4000/\(r.length=0\/nth r ((r.length:Int) - 1)=latV e.1)
theorem D8 (e:EngT) (he:Data.sm e): ∃b,dV e=some b/\dU e=some b/\(b=true->EngOk e):=by
 obtain ⟨h,r,ss,lg⟩:=e
 obtain ⟨sh,sr,ssb,slg⟩:=he
 obtain ⟨b1,e1,e2,k1⟩:=A8 h sh
 obtain ⟨b2,f1,f2,k2⟩:=K0 sr
 have slg:lg.size<=1048576:=slg
 obtain ⟨l,rfl⟩:=Ob lg
 have hlz:(mkB l).size=l.length:=bB l
 have hl:l.length<=1048576:=by rw[<-hlz];exact slg
 unfold dV dU ue wG
 simp only[dQ,e1,e2,f1,f2,aa,hlz]
 cases b1 with
 | false=>exact ⟨false,rfl,rfl,fun c=>by cases c⟩
 | true =>
  cases b2 with
  | false=>exact ⟨false,rfl,rfl,fun c=>by cases c⟩
  | true =>
   obtain ⟨l1,l2⟩:=A9 e1 e2 (k1 rfl)
   obtain ⟨o,o1,o2,ho⟩:=Rw (h:=h) (r:=r) (ss:=ss) (lg:=mkB l) l1 (aN sr.2).1 (aN ssb).1
   obtain ⟨vs,bs,n,g1,g2,g3,g4,g5,g6⟩:=xQ l (by omega)
   simp only[if_true,l1,l2,g1,g2,aa,o1,o2]
   by_cases c1:(ss.length:Int)<=4
   ·rw[if_neg (show¬decide ((ss.length:Int)>4)=true by rw[decide_eq_true_eq];omega),decide_eq_true c1]
    by_cases c2:(l.length:Int)<=4000
    ·rw[if_neg (show¬decide ((l.length:Int)>4000)=true by rw[decide_eq_true_eq];omega)]
     rcases ho with rfl | ⟨s,rfl⟩
     ·exact ⟨false,rfl,rfl,fun c=>by cases c⟩
     ·simp only[aP,if_true,aa]
      by_cases c3:((n:Int)==(l.length:Int))=true
      ·simp only[if_pos c3,if_pos (decide_eq_true c2)]
       by_cases c4:((vs.length:Int)==0)=true
       ·simp only[if_pos c4,aa]
        exact ⟨true,rfl,rfl,fun _=>⟨e1,e2,k1 rfl,k2 rfl,by show ss.length<=4;omega,by show (mkB l).size<=4000;omega,vs,bs,n,g1,g2,g4,g5,by omega,.inl (by have:=eq_of_beq c4;omega)⟩⟩
       ·have hp:0<vs.length:=by
         rcases Nat.eq_zero_or_pos vs.length with q | q
         ·exact absurd (by rw[q];rfl) c4
         ·exact q
        simp only[if_neg c4,nS (show vs.length<=9223372036854775807 by omega),aK (xs:=vs) (i:=(vs.length:Int) - 1) (by omega) (by omega),aa]
        refine ⟨_,rfl,rfl,fun c=>⟨e1,e2,k1 rfl,k2 rfl,by show ss.length<=4;omega,by show (mkB l).size<=4000;omega,vs,bs,n,g1,g2,g4,g5,by omega,.inr (eq_of_beq c)⟩⟩
      ·simp only[if_neg c3,aa]
       exact ⟨false,rfl,rfl,fun c=>by cases c⟩
    ·rw[if_pos (decide_eq_true (show (l.length:Int)>4000 by omega))]
     rcases ho with rfl | ⟨s,rfl⟩
     ·exact ⟨false,rfl,rfl,fun c=>by cases c⟩
     ·simp only[aP,if_true,aa]
      by_cases c3:((n:Int)==(l.length:Int))=true
      ·simp only[if_pos c3,if_neg (show¬decide ((l.length:Int)<=4000)=true by rw[decide_eq_true_eq];exact c2),aa]
       exact ⟨false,rfl,rfl,fun c=>by cases c⟩
      ·simp only[if_neg c3,aa]
       exact ⟨false,rfl,rfl,fun c=>by cases c⟩
   ·rw[if_pos (decide_eq_true (show (ss.length:Int)>4 by omega)),decide_eq_false c1]
    rcases ho with rfl | ⟨s,rfl⟩
    ·exact ⟨false,rfl,rfl,fun c=>by cases c⟩
    ·exact ⟨false,rfl,rfl,fun c=>by cases c⟩
end D
set_option synthInstance.maxSize 20000
set_option synthInstance.maxHeartbeats 2000000
namespace D
open Go.RowKit
theorem Vk (r:KX) (hr:Data.sm r):pW r=some r:=by
 obtain ⟨h1,h2⟩:=aN hr.1
 obtain ⟨h3,h4⟩:=aN hr.2
 unfold pW
 have a:=br (f:=jg r) (fun i=>((i:Int),r.1.take i,([] :List QT))) r.1.length (fun i hi=>by
  unfold jg
  simp only[bE hi,if_true,aB hi,aa,dQ,Vi _ (h2 _ (List.getElem_mem hi)),ah (show i<9223372036854775807 by omega)]
  rw[aI (by simp;omega)]
  simp only[aa]
  rw[List.take_succ_eq_append_getElem hi]) (by
  unfold jg
  simp only[bg,Bool.false_eq_true,if_false]) (dA _ (by omega))
 have e:ay (jg r) aW (0,[],[])=_:=a
 rw[e]
 simp only[aP,List.take_length]
 have a:=br (f:=jh r) (fun i=>((i:Int),r.1,r.2.take i)) r.2.length (fun i hi=>by
  unfold jh
  have c:gG r.2[i].2.1=some r.2[i].2.1:=by unfold gG;rw[aI (by have:=(h4 _ (List.getElem_mem hi)).2.1.1;simp;omega)];rfl
  simp only[bE hi,if_true,aB hi,aa,dQ,c,ah (show i<9223372036854775807 by omega)]
  rw[aI (by simp;omega)]
  simp only[aa]
  rw[List.take_succ_eq_append_getElem hi]) (by
  unfold jh
  simp only[bg,Bool.false_eq_true,if_false]) (dA _ (by omega))
 have e:ay (jh r) aW (0,r.1,[])=_:=a
 rw[e]
 simp only[List.take_length]
theorem Vl (r:KX) (hr:Data.sm r):jl r=some r:=by
 obtain ⟨h1,h2⟩:=aN hr.1
 obtain ⟨h3,h4⟩:=aN hr.2
 unfold jl
 have a:=br (f:=ez r) (fun i=>((i:Int),r.1.take i,([] :List QT))) r.1.length (fun i hi=>by
  unfold ez
  simp only[bE hi,if_true,aB hi,aa,dQ,Vj _ (h2 _ (List.getElem_mem hi)),ah (show i<9223372036854775807 by omega)]
  rw[aI (by simp;omega)]
  simp only[aa]
  rw[List.take_succ_eq_append_getElem hi]) (by
  unfold ez
  simp only[bg,Bool.false_eq_true,if_false]) (dA _ (by omega))
 have e:ay (ez r) aW (0,[],[])=_:=a
 rw[e]
 simp only[aP,List.take_length]
 have a:=br (f:=eA r) (fun i=>((i:Int),r.1,r.2.take i)) r.2.length (fun i hi=>by
  unfold eA
  have c:fQ r.2[i].2.1=some r.2[i].2.1:=by unfold fQ;rw[aI (by have:=(h4 _ (List.getElem_mem hi)).2.1.1;simp;omega)];rfl
  simp only[bE hi,if_true,aB hi,aa,dQ,c,ah (show i<9223372036854775807 by omega)]
  rw[aI (by simp;omega)]
  simp only[aa]
  rw[List.take_succ_eq_append_getElem hi]) (by
  unfold eA
  simp only[bg,Bool.false_eq_true,if_false]) (dA _ (by omega))
 have e:ay (eA r) aW (0,r.1,[])=_:=a
 rw[e]
 simp only[List.take_length]
end D
set_option synthInstance.maxSize 20000
set_option synthInstance.maxHeartbeats 2000000
namespace D
open Go.RowKit
theorem HZ (h:Lc) (hh:Data.sm h):pb h=some h:=by
 obtain ⟨hl,hs⟩:=aN hh.2
 have e:=br (f:=km h) (fun i=>((i:Int),h.1,h.2.take i)) h.2.length (fun i hi=>by
  have e:ct (h.2[i].1,h.2[i].2)=some h.2[i]:=A6 h.2[i] (hs _ (List.getElem_mem hi))
  have hx: ∀z:GrT,cd 48 (h.2.take i) [z] =some (h.2.take i++ [z]):=fun z=>aI (by rw[aA];simp only[al,aC];omega)
  unfold km
  simp only[]
  rw[bE hi,if_pos rfl,aB hi]
  simp only[aa]
  rw[e]
  simp only[aa]
  rw[hx,ah (by omega),List.take_succ_eq_append_getElem hi];rfl) (by
  unfold km
  simp only[]
  rw[bg];rfl) (dA _ (by omega))
 rw[List.take_length] at e
 have e:ay (km h) aW (0,h.1,[])=_:=e
 unfold pb
 rw[aG e]
theorem H0 (h:Lc) (hh:Data.sm h):hH h=some h:=by
 obtain ⟨hl,hs⟩:=aN hh.2
 have e:=br (f:=eV h) (fun i=>((i:Int),h.1,h.2.take i)) h.2.length (fun i hi=>by
  have e:dL (h.2[i].1,h.2[i].2)=some h.2[i]:=A7 h.2[i] (hs _ (List.getElem_mem hi))
  have hx: ∀z:GrT,cd 48 (h.2.take i) [z] =some (h.2.take i++ [z]):=fun z=>aI (by rw[aA];simp only[al,aC];omega)
  unfold eV
  simp only[]
  rw[bE hi,if_pos rfl,aB hi]
  simp only[aa]
  rw[e]
  simp only[aa]
  rw[hx,ah (by omega),List.take_succ_eq_append_getElem hi];rfl) (by
  unfold eV
  simp only[]
  rw[bg];rfl) (dA _ (by omega))
 rw[List.take_length] at e
 have e:ay (eV h) aW (0,h.1,[])=_:=e
 unfold hH
 rw[aG e]
theorem OP (e:EngT) (he:Data.sm e):ny e=some e:=by
 obtain ⟨s1,s2,s3,s4⟩:=he
 have h3:=(aN s3).1
 unfold ny
 simp only[dQ,HZ e.1 s1,Vk e.2.1 s2,aa]
 rw[aI (by simp;omega)];rfl
theorem OQ (e:EngT) (he:Data.sm e):iX e=some e:=by
 obtain ⟨s1,s2,s3,s4⟩:=he
 have h3:=(aN s3).1
 unfold iX
 simp only[dQ,H0 e.1 s1,Vl e.2.1 s2,aa]
 rw[aI (by simp;omega)];rfl
theorem Vm {α:Type} [Data α] {l:List α} (h:Data.sm l) (n:Nat):Data.sm (l.drop n):=
 ⟨by have:=(aN h).1;rw[aR];omega,fun x hx=>(aN h).2 x (List.mem_of_mem_drop hx)⟩
end D
set_option synthInstance.maxSize 20000
set_option synthInstance.maxHeartbeats 2000000
namespace D
open Go.RowKit
end D
set_option synthInstance.maxSize 20000
set_option synthInstance.maxHeartbeats 2000000
namespace D
open Go.RowKit
end D
set_option synthInstance.maxSize 20000
set_option synthInstance.maxHeartbeats 2000000
namespace D
open Go.RowKit
theorem Yr (g:GrT) (id:Int) (hl:g.2.length<=1048576): ∃k:Int,iJ g id=some k/\kg g id=some k/\((k= -1/\ ∀e∈g.2,e.1≠id)\/ ∃(i:Nat) (hi:i<g.2.length),k=(i:Int)/\g.2[i].1=id):=by
 have hs:=NX (f:=gz g id) g.2 (fun u=>u.1==id) (fun i=>(i:Int)) (by omega) (fun i hi=>by
  unfold gz
  rw[bE hi,if_pos rfl,aB hi]
  simp only[aa,ah (show i<9223372036854775807 by omega)]
  split <;> rfl) (by
  unfold gz
  rw[bg];rfl)
 have e2:eC g.2 (fun a0=>nk a0 id)=gz g id:=by
  funext s;rfl
 unfold iJ kg cX
 rw[e2]
 rcases hs with ⟨i,hi1,h1,h2,e1⟩ | ⟨h1,e1⟩
 ·rw[cg e1]
  exact ⟨_,rfl,rfl,.inr ⟨i,hi1,rfl,by simpa using h1⟩⟩
 ·rw[aG e1]
  exact ⟨_,rfl,rfl,.inl ⟨rfl,fun e he=>by simpa using h1 e he⟩⟩
theorem W4 {α:Type} [Data α] {xs:List α} (h:Data.sm xs) (i:Nat):Data.sm (xs.take i++xs.drop (i+1)):=by
 obtain ⟨h1,h2⟩:=aN h
 refine ⟨by rw[aw,aA,aR];omega,fun x hx=>?_⟩
 rcases aD hx with hx | hx
 ·exact h2 x (List.mem_of_mem_take hx)
 ·exact h2 x (List.mem_of_mem_drop hx)
theorem cut_ok {g:GrT} (G:KN g) (i:Nat):KN (g.1,g.2.take i++g.2.drop (i+1)):=by
 have hsub:(g.2.take i++g.2.drop (i+1)).Sublist g.2:=by
  rw[<-List.eraseIdx_eq_take_drop_succ]
  exact List.eraseIdx_sublist g.2 i
 have hp:g.2.Pairwise (fun a b=>a.1<b.1):=by
  rw[List.pairwise_iff_getElem]
  intro p q hp hq hpq
  have:=G.1.lt hpq hq
  rwa [bN hp,bN hq] at this
 have hp2:=hp.sublist hsub
 refine ⟨⟨G.1.n1,G.1.n5,?_,G.1.val,fun e he=>G.1.edge e (hsub.subset he),fun j hj=>?_⟩,fun e he=>G.2 e (hsub.subset he)⟩
 ·have:=hsub.length_le
  have:=G.1.m
  show (g.2.take i++g.2.drop (i+1)).length<=12
  omega
 ·have hj:j+1<(g.2.take i++g.2.drop (i+1)).length:=hj
  have:=List.pairwise_iff_getElem.1 hp2 j (j+1) (by omega) hj (by omega)
  show (nth (g.2.take i++g.2.drop (i+1)) (j:Int)).1<(nth (g.2.take i++g.2.drop (i+1)) ((j+1:Nat):Int)).1
  rw[bN (by omega),bN hj];exact this
def Zs (h g:GrT):Prop:=h.1=g.1/\ ∀e∈h.2,e∈g.2
theorem Rx (x:GrT) (hx:Data.sm x) (id:Int): ∃r:GrT×Bool,lD x id=some r/\lr x id=some r/\Data.sm r.1/\(r.2=true->KN r.1/\Zs r.1 x):=by
 obtain ⟨h1,h1'⟩:=aN hx.1
 obtain ⟨h2,h2'⟩:=aN hx.2
 obtain ⟨b,ev,kv⟩:=yL x h1 h2
 obtain ⟨k,k1,k2,hk0⟩:=Yr x id h2
 have hk:k= -1\/ ∃(i:Nat) (hi:i<x.2.length),k=(i:Int):=hk0.imp And.left fun ⟨i,h,e,_⟩=>⟨i,h,e⟩
 unfold lD lr
 simp only[dQ,vQ,ev,A6 x hx,A7 x hx,k1,k2,aa]
 by_cases c:decide (k<0)=true
 ·simp only[if_pos c]
  cases b with
  | false=>exact ⟨(x,false),rfl,rfl,hx,fun h=>by cases h⟩
  | true=>exact ⟨(x,false),rfl,rfl,hx,fun h=>by cases h⟩
 ·simp only[if_neg c]
  cases b with
  | false=>exact ⟨(x,false),rfl,rfl,hx,fun h=>by cases h⟩
  | true =>
   rcases hk with rfl | ⟨i,hi,rfl⟩
   ·exact absurd rfl c
   ·have hw:i64.wrap ((i:Int)+1)=((i+1:Nat):Int):=ah (by omega)
    have c1:(0:Int)<=(i:Int)/\(i:Int)<=(x.2.length:Int):=by omega
    have c2:(0:Int)<=((i+1:Nat):Int)/\((i+1:Nat):Int)<=(x.2.length:Int):=by omega
    have c3:(0:Int)<=(i:Int)/\(i:Int)<=((i+1:Nat):Int)/\((i+1:Nat):Int)<=(x.2.length:Int):=by omega
    have q1:(chk (0<=(i:Int)/\(i:Int)<=(x.2.length:Int)))=some ():=if_pos c1
    have q2:(chk (0<=((i+1:Nat):Int)/\((i+1:Nat):Int)<=(x.2.length:Int)))=some ():=if_pos c2
    have q3:(chk (0<=(i:Int)/\(i:Int)<=((i+1:Nat):Int)/\((i+1:Nat):Int)<=(x.2.length:Int)))=some ():=if_pos c3
    have a0:cd 8 ([] :List Int) x.1=some x.1:=by rw[aI (by simp only[aC];omega)];rfl
    have a1:cd 32 ([] :List Yq1) (x.2.take i)=some (x.2.take i):=by rw[aI (by simp only[aC,aA];omega)];rfl
    have a2:cd 32 (x.2.take i) (x.2.drop (i+1))=some (x.2.take i++x.2.drop (i+1)):=aI (by simp only[aA,aR];omega)
    have a4:cB x.2 (i:Int) ((i+1:Nat):Int)=some (x.2.take i++x.2.drop (i+1)):=by
     unfold cB R.Xt
     rw[q3];rfl
    simp only[if_true,hw,q1,q2,aa,Int.toNat_natCast,a0,a1,a2,a4]
    refine ⟨_,rfl,rfl,⟨hx.1,W4 hx.2 i⟩,fun _=>⟨cut_ok (kv.1 rfl) i,rfl,fun e he=>?_⟩⟩
    rcases aD he with he | he
    ·exact List.mem_of_mem_take he
    ·exact List.mem_of_mem_drop he
end D
set_option synthInstance.maxSize 20000
set_option synthInstance.maxHeartbeats 2000000
namespace D
open Go.RowKit
abbrev Vn:=Int×Int×Int×Int
abbrev Y9:=Bool×Vn
theorem Zt (g:GrT) (e:Vn):o8 g e=fB e (g.1.length:Int):=by
 unfold o8 fB
 simp only[La,Gc,aa]
theorem W5 {α:Type} [Data α] {xs:List α} {y:α} (h:Data.sm xs) (hy:Data.sm y) (i:Nat) (hl:xs.length<=1048575):Data.sm (xs.take i++([y] ++xs.drop i)):=by
 obtain ⟨h1,h2⟩:=aN h
 refine ⟨by simp only[aw,aA,al,aC,aR];omega,fun x hx=>?_⟩
 rcases aD hx with hx | hx
 ·exact h2 x (List.mem_of_mem_take hx)
 ·rcases aD hx with hx | hx
  ·obtain rfl:=aq hx;exact hy
  ·exact h2 x (List.mem_of_mem_drop hx)
end D
set_option synthInstance.maxSize 20000
set_option synthInstance.maxHeartbeats 2000000
namespace D
open Go.RowKit
theorem Ys (l:List Vn) (e:Vn) (hl:l.length<=1048576):b7 l e=some (decide (e∈l)):=by
 have k: ∀x:Vn,((e.1==x.1)&&((e.2.1==x.2.1)&&((e.2.2.1==x.2.2.1)&&((e.2.2.2==x.2.2.2)&&true))))=decide (e=x):=fun x=>by
  obtain ⟨a,b,c,d⟩:=e
  obtain ⟨a',b',c',d'⟩:=x
  rw[Bool.eq_iff_iff];simp
 have hs:=NX (f:=bu l e) l (fun u=>decide (e=u)) (fun i=>(i:Int)) (by omega) (fun i hi=>by
  unfold bu
  rw[bE hi,if_pos rfl,aB hi]
  simp only[aa,k,ah (show i<9223372036854775807 by omega)]
  split <;> rfl) (by
  unfold bu
  rw[bg];rfl)
 unfold b7 dM
 have el:bu l (e.1,e.2.1,e.2.2.1,e.2.2.2)=bu l e:=rfl
 rw[el]
 rcases hs with ⟨i,hi1,h1,h2,e1⟩ | ⟨h1,e1⟩
 ·rw[cg e1]
  simp only[aa]
  have:e∈l:=by
   have:=of_decide_eq_true h1
   rw[this];exact List.getElem_mem hi1
  rw[decide_eq_true this];simp
 ·rw[aG e1]
  simp only[aa]
  have: ¬e∈l:=fun h=>by simpa using h1 e h
  rw[decide_eq_false this];rfl
theorem W6 {g:GrT} (G:GOk g):g.2.Pairwise (fun a b=>a.1<b.1):=by
 rw[List.pairwise_iff_getElem]
 intro p q hp hq hpq
 have:=G.lt hpq hq
 rwa [bN hp,bN hq] at this
theorem W7 {g:GrT} (G:KN g) {e:Vn} (he:edgeP e (g.1.length:Int)) (hm:g.2.length<12) {i:Nat} (hi:i<=g.2.length) (h1: ∀j (hj:j<g.2.length),j<i->g.2[j].1<e.1) (h2: ∀(hj:i<g.2.length),e.1<g.2[i].1):KN (g.1,g.2.take i++([e] ++g.2.drop i)):=by
 have hp:=W6 G.1
 have hmem: ∀u∈g.2.take i++([e] ++g.2.drop i),u=e\/u∈g.2:=fun u hu=>by
  rcases aD hu with hu | hu
  ·exact .inr (List.mem_of_mem_take hu)
  ·rcases aD hu with hu | hu
   ·exact .inl (aq hu)
   ·exact .inr (List.mem_of_mem_drop hu)
 have ht: ∀u∈g.2.take i,u.1<e.1:=fun u hu=>by
  obtain ⟨j,hj,rfl⟩:=List.getElem_of_mem hu
  rw[aA] at hj
  rw[List.getElem_take]
  exact h1 j (by omega) (by omega)
 have hd: ∀u∈g.2.drop i,e.1<u.1:=fun u hu=>by
  obtain ⟨j,hj,rfl⟩:=List.getElem_of_mem hu
  rw[aR] at hj
  rw[List.getElem_drop]
  rcases Nat.eq_zero_or_pos j with rfl | h0
  ·exact h2 (by omega)
  ·have a:=h2 (by omega)
   have b:=List.pairwise_iff_getElem.1 hp i (i+j) (by omega) (by omega) (by omega)
   omega
 have hp2:(g.2.take i++([e] ++g.2.drop i)).Pairwise (fun a b=>a.1<b.1):=by
  rw[List.pairwise_append]
  refine ⟨hp.sublist (List.take_sublist _ _),?_,fun a ha b hb=>?_⟩
  ·rw[List.singleton_append,List.pairwise_cons]
   exact ⟨hd,hp.sublist (List.drop_sublist _ _)⟩
  ·have:=ht a ha
   rcases aD hb with hb | hb
   ·rw[aq hb];exact this
   ·have:=hd b hb;omega
 refine ⟨⟨G.1.n1,G.1.n5,?_,G.1.val,fun u hu=>?_,fun j hj=>?_⟩,fun u hu=>?_⟩
 ·show (g.2.take i++([e] ++g.2.drop i)).length<=12
  simp only[aw,aA,al,aC,aR];omega
 ·rcases hmem u hu with rfl | hu
  ·unfold edgeP at he
   show (0<=u.2.1/\u.2.1<(g.1.length:Int))/\(0<=u.2.2.1/\u.2.2.1<(g.1.length:Int))/\0<=u.2.2.2/\u.2.2.2<=2
   omega
  ·exact G.1.edge u hu
 ·have hj:j+1<(g.2.take i++([e] ++g.2.drop i)).length:=hj
  have:=List.pairwise_iff_getElem.1 hp2 j (j+1) (by omega) hj (by omega)
  show (nth (g.2.take i++([e] ++g.2.drop i)) (j:Int)).1<(nth (g.2.take i++([e] ++g.2.drop i)) ((j+1:Nat):Int)).1
  rw[bN (by omega),bN hj];exact this
 ·rcases hmem u hu with rfl | hu
  ·exact he.1
  ·exact G.2 u hu
theorem Ry (x:GrT) (hx:Data.sm x) (e:Vn): ∃r:GrT×Bool,lC x e=some r/\lq x e=some r/\Data.sm r.1/\(r.2=true->(KN r.1/\r.1.1=x.1)/\edgeP e 5):=by
 obtain ⟨h1,h1'⟩:=aN hx.1
 obtain ⟨h2,h2'⟩:=aN hx.2
 obtain ⟨b,ev,kv⟩:=yL x h1 h2
 obtain ⟨k,k1,k2,hk⟩:=Yr x e.1 h2
 have eo:=Sz e (n:=x.1.length) h1
 unfold lC lq
 simp only[dQ,vQ,ev,A6 x hx,A7 x hx,Zt,eo,k1,k2,aa]
 cases b with
 | false=>exact ⟨(x,false),rfl,rfl,hx,fun h=>by cases h⟩
 | true =>
  have G:=kv.1 rfl
  have g12:=G.1.m
  simp only[if_true]
  by_cases c1:decide (edgeP e (x.1.length:Int))=true
  ·by_cases c2:decide (k≥0)=true
   ·simp only[if_pos c1,if_pos c2];exact ⟨(x,false),rfl,rfl,hx,fun h=>by cases h⟩
   ·by_cases c3:((x.2.length:Int)==12)=true
    ·simp only[if_pos c1,if_neg c2,if_pos c3];exact ⟨(x,false),rfl,rfl,hx,fun h=>by cases h⟩
    ·simp only[if_pos c1,if_neg c2,if_neg c3]
     have hne: ∀u∈x.2,u.1≠e.1:=by
      rcases hk with ⟨-,h⟩ | ⟨i,hi,rfl,-⟩
      ·exact h
      ·exact absurd (decide_eq_true (by omega)) c2
     have lp: ∃i:Nat,i<=x.2.length/\(∀j (hj:j<x.2.length),j<i->x.2[j].1<e.1)/\(∀hj:i<x.2.length,¬x.2[i].1<e.1)/\ay (iK x e) aW 0=some (.brk (i:Int)):=by
      obtain ⟨o,eo,i,hi,hlt,hge,rfl⟩:=cK (f:=iK x e) (fun i s=>s=(i:Int)/\ ∀j (hj:j<x.2.length),j<i->x.2[j].1<e.1) (fun o=> ∃i:Nat,i<=x.2.length/\(∀j (hj:j<x.2.length),j<i->x.2[j].1<e.1)/\(∀hj:i<x.2.length,¬x.2[i].1<e.1)/\o= .brk (i:Int)) x.2.length (fun i s hi hI=>by
       obtain ⟨rfl,hI⟩:=hI
       unfold iK
       by_cases h1:i<x.2.length
       ·simp only[bE h1,if_true,aB h1,aa,ah (show i<9223372036854775807 by omega)]
        by_cases h2:x.2[i].1<e.1
        ·refine .inl ⟨h1,_,by simp[h2],rfl,fun j hj hji=>?_⟩
         by_cases hji':j=i
         ·subst hji';exact h2
         ·exact hI j hj (by omega)
        ·exact .inr ⟨.brk (i:Int),by simp[h2],(fun s' e=>by cases e),i,hi,hI,fun _=>h2,rfl⟩
       ·obtain rfl:i=x.2.length:=by omega
        exact .inr ⟨.brk (x.2.length:Int),by simp only[bg,Bool.false_eq_true,if_false],(fun s' e=>by cases e),_,hi,hI,fun h=>absurd h h1,rfl⟩) (s:=0) ⟨rfl,fun j hj h=>absurd h (Nat.not_lt_zero _)⟩ (dA _ (by omega))
      exact ⟨i,hi,hlt,hge,eo⟩
     obtain ⟨i,hi,hlt,hge,l1⟩:=lp
     have l2:ay (o7 e x) aW 0=some (.brk (i:Int)):=by
      rw[<-l1];congr 1
     simp only[l1,l2,aP]
     have hs:=W5 (y:=e) hx.2 ⟨trivial,trivial,trivial,trivial⟩ i (by omega)
     have q1:(chk (0<=(i:Int)/\(i:Int)<=(x.2.length:Int)))=some ():=if_pos (by omega)
     have a0:cd 8 ([] :List Int) x.1=some x.1:=by rw[aI (by simp only[aC];omega)];rfl
     have a1:cd 32 ([] :List Yq1) (x.2.take i)=some (x.2.take i):=by rw[aI (by simp only[aC,aA];omega)];rfl
     have a2:cd 32 (x.2.take i) [e] =some (x.2.take i++ [e]):=aI (by simp only[aA,al,aC];omega)
     have a3:cd 32 (x.2.take i++ [e]) (x.2.drop i)=some (x.2.take i++([e] ++x.2.drop i)):=by
      rw[aI (by simp only[aw,aA,aR,al,aC];omega),ai]
     have a5:cA x.2 (i:Int) [e] =some (x.2.take i++([e] ++x.2.drop i),[e]):=by
      unfold cA R.UN
      have:(chk (0<=(i:Int)/\(i:Int)<=(x.2.length:Int)/\ [e].length=1/\1<=32/\(x.2.length+1)*32<=140737488355328))=some ():=if_pos ⟨by omega,by omega,rfl,by omega,by omega⟩
      rw[this];rfl
     simp only[q1,aa,Int.toNat_natCast,a0,a1,a2,a3,a5]
     refine ⟨_,rfl,rfl,⟨hx.1,hs⟩,fun _=>⟨⟨W7 G (of_decide_eq_true c1) ?_ hi hlt fun hj=>?_,rfl⟩,?_⟩⟩
     ·have: ¬(x.2.length:Int)=12:=by simpa using c3
      omega
     ·have:=hne _ (List.getElem_mem hj)
      have:=hge hj
      omega
     ·have hp:edgeP e (x.1.length:Int):=of_decide_eq_true c1
      have h5:=G.1.n5
      unfold edgeP at hp⊢
      omega
  ·simp only[if_neg c1];exact ⟨(x,false),rfl,rfl,hx,fun h=>by cases h⟩
theorem W8 (g:GrT) (hg:Data.sm g) (b:List Y9) (hb:b.length<=6) {i:Nat} (hi:i<b.length) (x:GrT) (hx:Data.sm x) (G:KN x) (hn:x.1=g.1):fc g b ((i:Int),x)=bV g b ((i:Int),x)/\(bV g b ((i:Int),x)=some (.ret (g,false))\/ ∃y:GrT,Data.sm y/\((KN y/\y.1=g.1)/\edgeP b[i].2 5)/\bV g b ((i:Int),x)=some (.nxt (((i+1:Nat):Int),y))):=by
 have h2:=(aN hx.2).1
 obtain ⟨r,r1,r2,r3,r4⟩:=Ry x hx b[i].2
 obtain ⟨d,d1,d2,d3,d4⟩:=Rx x hx b[i].2.1
 obtain ⟨k,k1,k2,hk⟩:=Yr x b[i].2.1 h2
 have hc:=Ys x.2 b[i].2 h2
 have hw:i64.wrap ((i:Int)+1)=((i+1:Nat):Int):=ah (by omega)
 unfold fc bV
 simp only[dQ,bE hi,if_true,aB hi,aa,if_pos (decide_eq_true (show (i:Int)<=6 by omega)),r1,r2,k1,d1,d2,hc,A6 g hg,A7 g hg,hw]
 generalize b[i] =ch at *
 by_cases c:ch.1=true
 ·simp only[if_pos c]
  by_cases c2:r.2=true
  ·simp only[if_pos c2,aa,l7]
   exact ⟨trivial,.inr ⟨_,r3,⟨⟨(r4 c2).1.1,(r4 c2).1.2.trans hn⟩,(r4 c2).2⟩,rfl⟩⟩
  ·simp only[if_neg c2,aa,l7]
   exact ⟨trivial,.inl trivial⟩
 ·simp only[if_neg c]
  rcases hk with ⟨rfl,hn'⟩ | ⟨j,hj,rfl,hid⟩
  ·have hnot: ¬ch.2∈x.2:=fun h=>hn' _ h rfl
   rw[if_pos (by decide),if_neg (by simpa using hnot)]
   simp only[aa,l7]
   exact ⟨rfl,.inl rfl⟩
  ·rw[if_neg (by simp),aB hj]
   simp only[aa]
   have eb:((x.2[j].1==ch.2.1)&&((x.2[j].2.1==ch.2.2.1)&&((x.2[j].2.2.1==ch.2.2.2.1)&&((x.2[j].2.2.2==ch.2.2.2.2)&&true))))=decide (x.2[j] =ch.2):=by
    generalize x.2[j] =u
    obtain ⟨a,b,c,d⟩:=u
    obtain ⟨t,a',b',c',d'⟩:=ch
    rw[Bool.eq_iff_iff];simp
   rw[eb]
   by_cases ce:x.2[j] =ch.2
   ·have hin:ch.2∈x.2:=ce ▸ List.getElem_mem hj
    rw[if_pos (decide_eq_true ce),if_pos (decide_eq_true hin)]
    by_cases c2:d.2=true
    ·simp only[if_pos c2,aa,l7]
     refine ⟨trivial,.inr ⟨_,d3,⟨⟨(d4 c2).1,(d4 c2).2.1.trans hn⟩,?_⟩,rfl⟩⟩
     have h5:=G.1.n5
     have h6:=G.1.edge _ hin
     have h7:=G.2 _ hin
     unfold edgeP
     omega
    ·simp only[if_neg c2,aa,l7]
     exact ⟨trivial,.inl trivial⟩
   ·rw[if_neg (by simpa using ce)]
    have hin: ¬ch.2∈x.2:=fun hin=>by
     obtain ⟨m,hm,em⟩:=List.getElem_of_mem hin
     have e1:nth x.2 (m:Int)=x.2[m]:=bN hm
     have e2:nth x.2 (j:Int)=x.2[j]:=bN hj
     rcases Nat.lt_trichotomy m j with q | q | q
     ·have:=G.1.lt q hj
      rw[e1,e2,em,hid] at this;omega
     ·subst q;exact ce em
     ·have:=G.1.lt q hm
      rw[e1,e2,em,hid] at this;omega
    rw[if_neg (by simpa using hin)]
    simp only[aa,l7]
    exact ⟨rfl,.inl rfl⟩
theorem W9 (g:GrT) (hg:Data.sm g) (b:List Y9): ∃r:GrT×Bool,ji g b=some r/\iY g b=some r/\Data.sm r.1/\(r.2=true->(KN r.1/\r.1.1=g.1)/\b.length<=6/\ ∀c∈b,edgeP c.2 5):=by
 obtain ⟨h1,h1'⟩:=aN hg.1
 obtain ⟨v,ev,kv⟩:=yL g h1 (aN hg.2).1
 unfold ji iY uf
 simp only[dQ,vQ,ev,A6 g hg,A7 g hg,aa]
 cases v with
 | false=>exact ⟨(g,false),rfl,rfl,hg,fun h=>by cases h⟩
 | true =>
  have G0:=kv.1 rfl
  simp only[if_true]
  by_cases c:decide ((b.length:Int)>6)=true
  ·simp only[if_pos c];exact ⟨(g,false),rfl,rfl,hg,fun h=>by cases h⟩
  ·simp only[if_neg c]
   have hb:b.length<=6:=by
    rw[decide_eq_true_eq] at c;omega
   have hend: ∀x:GrT,bV g b ((b.length:Int),x)=some (.brk ((b.length:Int),x)):=fun x=>by
    unfold bV
    simp only[]
    rw[bg];rfl
   have hend2: ∀x:GrT,fc g b ((b.length:Int),x)=some (.brk ((b.length:Int),x)):=fun x=>by
    unfold fc
    simp only[]
    rw[bg];rfl
   have same:ay (fc g b) aW (0,g)=ay (bV g b) aW (0,g):=by
    refine pI (f:=bV g b) (g:=fc g b) (fun i s=> ∃x:GrT,s=((i:Int),x)/\Data.sm x/\(KN x/\x.1=g.1)/\i<=b.length) (fun i s hI=>?_) aW 0 (0,g) ⟨g,rfl,hg,⟨G0,rfl⟩,Nat.zero_le _⟩
    obtain ⟨x,rfl,hx,⟨Gx,hn⟩,hi⟩:=hI
    by_cases h:i<b.length
    ·obtain ⟨a1,a2⟩:=W8 g hg b hb h x hx Gx hn
     refine ⟨a1,fun s' hs'=>?_⟩
     rcases a2 with a2 | ⟨y,hy,hGy,a2⟩
     ·rw[a2] at hs';simp at hs'
     ·rw[a2] at hs'
      obtain rfl:=ae hs' |> Out.nxt.inj
      exact ⟨y,rfl,hy,hGy.1,h⟩
    ·obtain rfl:i=b.length:=by omega
     exact ⟨by rw[hend,hend2],fun s' hs'=>by rw[hend] at hs';simp at hs'⟩
   obtain ⟨o,e,hQ⟩:=cK (f:=bV g b) (fun i s=> ∃x:GrT,s=((i:Int),x)/\Data.sm x/\(KN x/\x.1=g.1)/\ ∀j (hj:j<b.length),j<i->edgeP b[j].2 5) (fun o=>o= .ret (g,false)\/ ∃(n:Int) (x:GrT),o= .brk (n,x)/\Data.sm x/\(KN x/\x.1=g.1)/\ ∀c∈b,edgeP c.2 5) b.length (fun i s hi hI=>by
    obtain ⟨x,rfl,hx,⟨Gx,hn⟩,hE⟩:=hI
    by_cases h:i<b.length
    ·obtain ⟨-,a2⟩:=W8 g hg b hb h x hx Gx hn
     rcases a2 with a2 | ⟨y,hy,hGy,a2⟩
     ·exact .inr ⟨_,a2,fun s' h=>(by simp at h),.inl rfl⟩
     ·refine .inl ⟨h,_,a2,y,rfl,hy,hGy.1,fun j hj hji=>?_⟩
      by_cases c:j=i
      ·subst c;exact hGy.2
      ·exact hE j hj (by omega)
    ·obtain rfl:i=b.length:=by omega
     exact .inr ⟨_,hend x,fun s' h=>(by simp at h),.inr ⟨_,x,rfl,hx,⟨Gx,hn⟩,fun c hc=>by
      obtain ⟨j,hj,rfl⟩:=List.getElem_of_mem hc
      exact hE j hj hj⟩⟩) (s:=(0,g)) ⟨g,rfl,hg,⟨G0,rfl⟩,fun j hj h=>absurd h (Nat.not_lt_zero _)⟩ (dA _ (by omega))
   rw[same,e]
   rcases hQ with rfl | ⟨n,x,rfl,hx,hG⟩
   ·exact ⟨_,rfl,rfl,hg,fun h=>by cases h⟩
   ·exact ⟨_,rfl,rfl,hx,fun _=>⟨hG.1,hb,hG.2⟩⟩
end D
set_option synthInstance.maxSize 20000
set_option synthInstance.maxHeartbeats 2000000
namespace D
open Go.RowKit
theorem K4 (g:GrT) (hg:Data.sm g) (b:List ChT): ∃r:GrT×Bool,ji g b=some r/\iY g b=some r/\Data.sm r.1:=by
 obtain ⟨r,r1,r2,r3,-⟩:=W9 g hg b
 exact ⟨r,r1,r2,r3⟩
theorem H1 (h:Lc) (hh:Data.sm h) (b:List ChT): ∃r:Lc×Bool,iu h b=some r/\hO h b=some r/\Data.sm r.1/\(r.2=false->r.1=h):=by
 obtain ⟨v,es,ei,k⟩:=A8 h hh
 cases v with
 | false =>
  unfold iu hO bH
  simp only[dQ,HZ h hh,H0 h hh,es,ei,aa]
  exact ⟨(h,false),rfl,rfl,hh,fun _=>rfl⟩
 | true =>
  have kk:=k rfl
  obtain ⟨l1,l2⟩:=A9 es ei kk
  have hlat: ¬(latV h==0)=true:=by
   rw[beq_iff_eq];unfold latV;omega
  unfold iu hO
  simp only[dQ,HZ h hh,H0 h hh,es,l1,l2,aa,if_true,if_neg hlat]
  by_cases c:(latV h==999)=true
  ·simp only[if_pos c];exact ⟨(h,false),rfl,rfl,hh,fun _=>rfl⟩
  ·simp only[if_neg c]
   have hm:=(aN hh.2).2 _ (iy (xs:=h.2) (i:=(h.2.length:Int) - 1) (by omega) (by omega))
   obtain ⟨r,r1,r2,r3⟩:=K4 _ hm b
   rw[nS (by omega),aK (xs:=h.2) (by omega) (by omega)]
   simp only[aa,dQ,r1,r2]
   by_cases c2:r.2=true
   ·simp only[if_pos c2]
    rw[aI (by simp only[al,aC];omega)]
    simp only[aa]
    have sa:Data.sm (h.2++ [r.1]):=⟨by rw[aw];simp only[al,aC];omega,fun x hx=>by
     rcases aD hx with q | q
     ·exact (aN hh.2).2 x q
     ·obtain rfl:=aq q;exact r3⟩
    by_cases c3:decide (((h.2++ [r.1]).length:Int)>8)=true
    ·have q1:(chk ((0:Int)<=1/\1<=((h.2++ [r.1]).length:Int)))=some ():=if_pos ⟨by omega,by rw[decide_eq_true_eq] at c3;omega⟩
     simp only[if_pos c3,q1,aa]
     exact ⟨_,rfl,rfl,⟨trivial,Vm sa 1⟩,fun h=>by cases h⟩
    ·simp only[if_neg c3,aa]
     exact ⟨_,rfl,rfl,⟨trivial,sa⟩,fun h=>by cases h⟩
   ·simp only[if_neg c2];exact ⟨(h,false),rfl,rfl,hh,fun _=>rfl⟩
theorem D9 (h:Lc) (hh:Data.sm h): ∃v:Int,a8 h=some v/\bH h=some v:=by
 obtain ⟨v,es,ei,k⟩:=A8 h hh
 cases v with
 | false =>
  unfold a8 bH
  simp only[dQ,es,ei,aa]
  exact ⟨0,rfl,rfl⟩
 | true=>exact ⟨_,A9 es ei (k rfl)⟩
theorem H2 (e:EngT) (he:Data.sm e) (b:List ChT): ∃y:EngT×Bool,iw e b=some y/\hY e b=some y/\Data.sm y.1/\(y.2=false->y.1=e):=by
 obtain ⟨v,es,ei,kb⟩:=D8 e he
 obtain ⟨r,r1,r2,r3,-⟩:=H1 e.1 he.1 b
 obtain ⟨w,w1,w2⟩:=D9 r.1 r3
 obtain ⟨t1,t2,t3⟩:=Sy w b
 obtain ⟨l,hl⟩:=Ob e.2.2.2
 have hz:e.2.2.2.size=l.length:=by rw[hl];exact bB l
 unfold iw hY
 simp only[dQ,OP e he,OQ e he,es,ei,r1,r2,aa]
 cases v with
 | false=>exact ⟨(e,false),rfl,rfl,he,fun _=>rfl⟩
 | true =>
  have h4:e.2.2.2.size<=4000:=(kb rfl).log
  simp only[if_true]
  by_cases c:r.2=true
  ·simp only[if_pos c,w1,w2,t1,t2,aa,hl,bB]
   rw[Cu _ _ (by omega),fe (n:=(l.length:Int)+((recT w b).length:Int)) (by omega) (by omega)]
   simp only[aa,bB,aw]
   by_cases c2:l.length+(recT w b).length>4000
   ·rw[if_pos (decide_eq_true (by omega)),if_pos (decide_eq_true (by omega))]
    exact ⟨(e,false),rfl,rfl,he,fun _=>rfl⟩
   ·rw[if_neg (by rw[decide_eq_true_eq];omega),if_neg (by rw[decide_eq_true_eq];omega)]
    refine ⟨_,rfl,rfl,⟨r3,he.2.1,he.2.2.1,?_⟩,fun h=>by cases h⟩
    show (mkB (l++recT w b)).size<=1048576
    rw[bB,aw];omega
  ·simp only[if_neg c];exact ⟨(e,false),rfl,rfl,he,fun _=>rfl⟩
end D
set_option synthInstance.maxSize 20000
set_option synthInstance.maxHeartbeats 2000000
namespace D
open Go.RowKit
theorem Ea {r:List Int×List (List ChT)×Int} (hq:r.2.1.length=r.1.length) (hl:r.1.length<=4000): ∀(d k f:Nat) (n:Int) (e:EngT),r.1.length=k+d->d<f->Data.sm e->
  ∃(n':Int) (e':EngT),Data.sm e'/\aP (ay (ba r) f (n,(k:Int),r.2.1,e.1.1,e.1.2,e.2.1.1,e.2.1.2,e.2.2.1,e.2.2.2)) (fun x=>some x) (fun s=>some (((s.2.2.2.1,s.2.2.2.2.1),(s.2.2.2.2.2.1,s.2.2.2.2.2.2.1),s.2.2.2.2.2.2.2.1,s.2.2.2.2.2.2.2.2),s.1))=some (e',n')/\aP (ay (b8 r) f (n,(k:Int),r.2.1,e.1.1,e.1.2,e.2.1.1,e.2.1.2,e.2.2.1,e.2.2.2)) (fun x=>some x) (fun s=>some (s.1,((s.2.2.2.1,s.2.2.2.2.1),(s.2.2.2.2.2.1,s.2.2.2.2.2.2.1),s.2.2.2.2.2.2.2.1,s.2.2.2.2.2.2.2.2)))=some (n',e')
 | d,k,f+1,n,e,hd,hf,he=>by
  obtain ⟨L,l1,l2⟩:=D9 e.1 he.1
  have l1:a8 (e.1.1,e.1.2)=_:=l1
  have l2:bH (e.1.1,e.1.2)=_:=l2
  have e1:eB ((e.1.1,e.1.2),(e.2.1.1,e.2.1.2),e.2.2.1,e.2.2.2)=some (L,e):=by
   unfold eB
   simp only
   rw[l2];rfl
  match d,hd with
  | 0,hd =>
   refine ⟨n,e,he,?_,?_⟩
   ·have:ba r (n,(k:Int),r.2.1,e.1.1,e.1.2,e.2.1.1,e.2.1.2,e.2.2.1,e.2.2.2)=some (.brk (n,(k:Int),r.2.1,e.1.1,e.1.2,e.2.1.1,e.2.1.2,e.2.2.1,e.2.2.2)):=by
     unfold ba
     simp only
     rw[if_neg (by simp;omega)]
    rw[ay,this];rfl
   ·have:b8 r (n,(k:Int),r.2.1,e.1.1,e.1.2,e.2.1.1,e.2.1.2,e.2.2.1,e.2.2.2)=some (.brk (n,(k:Int),r.2.1,e.1.1,e.1.2,e.2.1.1,e.2.1.2,e.2.2.1,e.2.2.2)):=by
     unfold b8
     simp only
     rw[if_neg (by simp;omega)]
    rw[ay,this];rfl
  | d+1,hd =>
   have hw:i64.wrap ((k:Int)+1)=((k+1:Nat):Int):=ah (by omega)
   have c0:decide ((k:Int)<(r.1.length:Int))=true:=decide_eq_true (by omega)
   have g1:aT r.1 (k:Int)=some (nth r.1 (k:Int)):=aK (by omega) (by omega)
   have g2:aT r.2.1 (k:Int)=some (nth r.2.1 (k:Int)):=aK (by omega) (by omega)
   generalize nth r.1 (k:Int)=v at g1
   generalize nth r.2.1 (k:Int)=b at g2
   obtain ⟨x,a1,a2,sx,hx⟩:=H2 e he b
   have a1:iw ((e.1.1,e.1.2),(e.2.1.1,e.2.1.2),e.2.2.1,e.2.2.2) b=_:=a1
   have a2:hY ((e.1.1,e.1.2),(e.2.1.1,e.2.1.2),e.2.2.1,e.2.2.2) b=_:=a2
   have e2:gf b ((e.1.1,e.1.2),(e.2.1.1,e.2.1.2),e.2.2.1,e.2.2.2)=some (x.2,x.1):=by
    unfold gf
    simp only
    rw[a2];rfl
   by_cases c1:v<=L
   ·obtain ⟨n',e',s',i1,i2⟩:=Ea hq hl d (k+1) f n e (by omega) (by omega) he
    refine ⟨n',e',s',?_,?_⟩
    ·have:ba r (n,(k:Int),r.2.1,e.1.1,e.1.2,e.2.1.1,e.2.1.2,e.2.2.1,e.2.2.2)=some (.nxt (n,((k+1:Nat):Int),r.2.1,e.1.1,e.1.2,e.2.1.1,e.2.1.2,e.2.2.1,e.2.2.2)):=by
      unfold ba
      simp only[c0,if_true,g1,l1,aa,decide_eq_true c1,l7,hw]
     rw[ay,this];exact i1
    ·have:b8 r (n,(k:Int),r.2.1,e.1.1,e.1.2,e.2.1.1,e.2.1.2,e.2.2.1,e.2.2.2)=some (.nxt (n,((k+1:Nat):Int),r.2.1,e.1.1,e.1.2,e.2.1.1,e.2.1.2,e.2.2.1,e.2.2.2)):=by
      unfold b8
      simp only[c0,if_true,g1,e1,aa,decide_eq_true c1,l7,hw]
     rw[ay,this];exact i2
   ·have c1': ¬decide (v<=L)=true:=by simpa using c1
    by_cases c2:(v !=i64.wrap (L+1))=true
    ·refine ⟨n,e,he,?_,?_⟩
     ·have:ba r (n,(k:Int),r.2.1,e.1.1,e.1.2,e.2.1.1,e.2.1.2,e.2.2.1,e.2.2.2)=some (.ret (e,n)):=by
       unfold ba
       by_cases c3:x.2=true
       ·simp only[c0,if_true,g1,l1,aa,if_neg c1',g2,a1,if_pos c3,if_pos c2,l7]
       ·simp only[c0,if_true,g1,l1,aa,if_neg c1',g2,a1,if_neg c3,l7]
      rw[ay,this];rfl
     ·have:b8 r (n,(k:Int),r.2.1,e.1.1,e.1.2,e.2.1.1,e.2.1.2,e.2.2.1,e.2.2.2)=some (.brk (n,(k:Int),r.2.1,e.1.1,e.1.2,e.2.1.1,e.2.1.2,e.2.2.1,e.2.2.2)):=by
       unfold b8
       simp only[c0,if_true,g1,e1,aa,if_neg c1',if_pos c2,l7]
      rw[ay,this];rfl
    ·by_cases c3:x.2=true
     ·obtain ⟨n',e',s',i1,i2⟩:=Ea hq hl d (k+1) f (i64.wrap (n+1)) x.1 (by omega) (by omega) sx
      refine ⟨n',e',s',?_,?_⟩
      ·have:ba r (n,(k:Int),r.2.1,e.1.1,e.1.2,e.2.1.1,e.2.1.2,e.2.2.1,e.2.2.2)=some (.nxt (i64.wrap (n+1),((k+1:Nat):Int),r.2.1,x.1.1.1,x.1.1.2,x.1.2.1.1,x.1.2.1.2,x.1.2.2.1,x.1.2.2.2)):=by
        unfold ba
        simp only[c0,if_true,g1,l1,aa,if_neg c1',g2,a1,if_neg c2,if_pos c3,l7,hw]
       rw[ay,this];exact i1
      ·have:b8 r (n,(k:Int),r.2.1,e.1.1,e.1.2,e.2.1.1,e.2.1.2,e.2.2.1,e.2.2.2)=some (.nxt (i64.wrap (n+1),((k+1:Nat):Int),r.2.1,x.1.1.1,x.1.1.2,x.1.2.1.1,x.1.2.1.2,x.1.2.2.1,x.1.2.2.2)):=by
        unfold b8
        simp only[c0,if_true,g1,e1,aa,if_neg c1',g2,e2,if_neg c2,if_pos c3,l7,hw]
       rw[ay,this];exact i2
     ·have hxe:=hx (by simpa using c3)
      refine ⟨n,e,he,?_,?_⟩
      ·have:ba r (n,(k:Int),r.2.1,e.1.1,e.1.2,e.2.1.1,e.2.1.2,e.2.2.1,e.2.2.2)=some (.ret (e,n)):=by
        unfold ba
        simp only[c0,if_true,g1,l1,aa,if_neg c1',g2,a1,if_neg c3,l7]
       rw[ay,this];rfl
      ·have:b8 r (n,(k:Int),r.2.1,e.1.1,e.1.2,e.2.1.1,e.2.1.2,e.2.2.1,e.2.2.2)=some (.brk (n,(k:Int),r.2.1,x.1.1.1,x.1.1.2,x.1.2.1.1,x.1.2.1.2,x.1.2.2.1,x.1.2.2.2)):=by
        unfold b8
        simp only[c0,if_true,g1,e1,aa,if_neg c1',g2,e2,if_neg c2,if_neg c3,l7]
       rw[ay,this,hxe];rfl
theorem K5 (e:EngT) (he:Data.sm e) (y:ByteArray) (hy:y.size<=1048576): ∃x:EngT×Int,iL e y=some x/\iG e y=some x/\Data.sm x.1:=by
 obtain ⟨v,es,ei,-⟩:=D8 e he
 obtain ⟨l,rfl⟩:=Ob y
 rw[bB] at hy
 obtain ⟨r,q,n,s1,s2,-,hr,hok,-⟩:=xQ l (by omega)
 obtain ⟨n',e',se',i1,i2⟩:=Ea (r:=(r,q,(n:Int))) hok.1 hr r.length 0 aW 0 e (by show r.length=0+r.length;omega) (by unfold aW;omega) he
 have i1:aP (ay (ba (r,q,(n:Int))) aW (0,0,q,e.1.1,e.1.2,e.2.1.1,e.2.1.2,e.2.2.1,e.2.2.2)) _ _=_:=i1
 have i2:aP (ay (b8 (r,q,(n:Int))) aW (0,0,q,e.1.1,e.1.2,e.2.1.1,e.2.1.2,e.2.2.1,e.2.2.2)) _ _=_:=i2
 unfold iL iG wE
 simp only[dQ]
 rw[OP e he,OQ e he,es,ei,s1,s2];simp only[aa]
 cases v with
 | false=>exact ⟨(e,0),rfl,rfl,he⟩
 | true =>
  refine ⟨(e',n'),?_,?_,se'⟩
  ·rw[if_pos rfl];exact i1
  ·rw[if_pos rfl,i2];rfl
theorem OR (e:EngT) (he:Data.sm e) (y:ByteArray) (hy:y.size<=1048576): ∃k:Int,fx e y=some k/\fw e y=some k:=by
 obtain ⟨v,es,ei,-⟩:=D8 e he
 obtain ⟨x,x1,x2,sx⟩:=K5 e he y hy
 obtain ⟨L,l1,l2⟩:=D9 x.1.1 sx.1
 unfold fx fw
 simp only[dQ,es,ei,x1,x2,l1,l2,aa]
 cases v with
 | false=>exact ⟨_,rfl,rfl⟩
 | true=>exact ⟨_,rfl,rfl⟩
end D
set_option synthInstance.maxSize 20000
set_option synthInstance.maxHeartbeats 2000000
namespace D
open Go.RowKit
theorem uL (x:EngT) (y:ByteArray) (hx:Data.lim x) (hy:Data.lim y):cU x y=some true:=by
 unfold cU
 simp only[dQ]
 by_cases cy:(y.size:Int)>1048576
 ·rw[if_pos (decide_eq_true cy)]
 rw[if_neg (by simpa using cy)]
 obtain ⟨r1,e1,k1⟩:=KE x 1048576 hx (by decide) (by decide)
 rw[e1];simp only[aa]
 rcases k1 with k1 | ⟨k1,j1,s1⟩
 ·rw[if_pos (decide_eq_true k1)]
 rw[if_neg (by simpa using k1)]
 obtain ⟨k,es,ei⟩:=OR x s1 y (by omega)
 simp only[KH x s1,es,ei,KK x x s1 s1,aa,dQ,decide_true,if_true]
 simp only[bne_self_eq_false,Bool.false_eq_true,if_false]
end D
namespace R
open Go.Shelf
def H3:Go.Shelf.Ren:=⟨fun | 146=>191 | 221=>245 | 268=>299 | 138=>300 | 143=>301 | 195=>344 | 197=>345 | 218=>346 | 219=>347 | 260=>375 | 217=>190 | 225=>376 | 224=>377 | 267=>378 | 266=>244 | 314=>397 | n=>n,fun | 9=>9 | 31=>199 | 3=>3 | 4=>4 | 0=>0 | 105=>344 | 21=>21 | 5=>5 | 46=>232 | 119=>399 | 139=>402 | 138=>401 | 146=>403 | 51=>391 | n=>n,fun | 1=>0 | 3=>4 | 4=>5 | n=>n⟩
theorem Vo:Go.Proofs.LaysM.n146 Tryz.prog H3:= {
 mixed:=by kernel_rfl
 f138:=Tryz.func300.trans (congrArg some (by kernel_rfl))
 f143:=Tryz.func301.trans (congrArg some (by kernel_rfl))
 f146:=Tryz.func191.trans (congrArg some (by kernel_rfl))
 f195:=Tryz.func344.trans (congrArg some (by kernel_rfl))
 f197:=Tryz.func345.trans (congrArg some (by kernel_rfl))
 f217:=Tryz.func190.trans (congrArg some (by kernel_rfl))
 f218:=Tryz.func346.trans (congrArg some (by kernel_rfl))
 f219:=Tryz.func347.trans (congrArg some (by kernel_rfl))
 f221:=Tryz.func245.trans (congrArg some (by kernel_rfl))
 f224:=Tryz.func377.trans (congrArg some (by kernel_rfl))
 f225:=Tryz.func376.trans (congrArg some (by kernel_rfl))
 f260:=Tryz.func375.trans (congrArg some (by kernel_rfl))
 f266:=Tryz.func244.trans (congrArg some (by kernel_rfl))
 f267:=Tryz.func378.trans (congrArg some (by kernel_rfl))
 f268:=Tryz.func299.trans (congrArg some (by kernel_rfl))
 f314:=Tryz.func397.trans (congrArg some (by kernel_rfl))
 t0:=Tryz.underlying0
 a0:=Tryz.isAgg0
 z0:=Tryz.sizeOf0
 v0:=Tryz.zeroValue0
 t3:=Tryz.underlying3
 a3:=Tryz.isAgg3
 z3:=Tryz.sizeOf3
 v3:=Tryz.zeroValue3
 t4:=Tryz.underlying4
 a4:=Tryz.isAgg4
 z4:=Tryz.sizeOf4
 v4:=Tryz.zeroValue4
 t5:=Tryz.underlying5
 a5:=Tryz.isAgg5
 z5:=Tryz.sizeOf5
 v5:=Tryz.zeroValue5
 t9:=Tryz.underlying9
 a9:=Tryz.isAgg9
 z9:=Tryz.sizeOf9
 v9:=Tryz.zeroValue9
 t21:=Tryz.underlying21
 a21:=Tryz.isAgg21
 z21:=Tryz.sizeOf21
 v21:=Tryz.zeroValue21
 t31:=Tryz.underlying199
 a31:=Tryz.isAgg199
 z31:=Tryz.sizeOf199
 v31:=Tryz.zeroValue199
 t46:=Tryz.underlying232
 a46:=Tryz.isAgg232
 z46:=Tryz.sizeOf232
 v46:=Tryz.zeroValue232
 t51:=Tryz.underlying391
 a51:=Tryz.isAgg391
 z51:=Tryz.sizeOf391
 v51:=Tryz.zeroValue391
 t105:=Tryz.underlying344
 a105:=Tryz.isAgg344
 z105:=Tryz.sizeOf344
 v105:=Tryz.zeroValue344
 t119:=Tryz.underlying399
 a119:=Tryz.isAgg399
 z119:=Tryz.sizeOf399
 t138:=Tryz.underlying401
 a138:=Tryz.isAgg401
 z138:=Tryz.sizeOf401
 v138:=Tryz.zeroValue401
 t139:=Tryz.underlying402
 a139:=Tryz.isAgg402
 z139:=Tryz.sizeOf402
 v139:=Tryz.zeroValue402
 t146:=Tryz.underlying403
 a146:=Tryz.isAgg403
 z146:=Tryz.sizeOf403
 v146:=Tryz.zeroValue403
 g1:=by kernel_rfl
 g3:=by kernel_rfl
 g4:=by kernel_rfl
 i0:=by kernel_rfl
 i3:=by kernel_rfl
 i4:=by kernel_rfl
 i5:=by kernel_rfl
 i9:=by kernel_rfl
 i21:=by kernel_rfl
 i31:=by kernel_rfl
 i46:=by kernel_rfl
 i51:=by kernel_rfl
 i105:=by kernel_rfl
 i138:=by kernel_rfl
 i139:=by kernel_rfl
 i146:=by kernel_rfl
 m1:=by kernel_rfl
 s1_3:=fun w h=>Go.Proofs.cell_of_shapedOpen_int (zero:= #[.int .i64 0]) (t:=3) h (of_decide_eq_true (by kernel_rfl)) (by kernel_rfl) rfl (by kernel_rfl) (by kernel_rfl) Tryz.underlying3
 m3:=by kernel_rfl
 m4:=by kernel_rfl }
end R
end Go.Proofs.YtodbpnpbhpeepaaGreatDoor
