/- FnSupports: for every input the law returns true and changes nothing that was there. Part 6 of 7. -/
import Derived.Test.YtobhhnobjflbnaaGreatSC4
set_option linter.unusedVariables false
set_option linter.unusedSimpArgs false
set_option linter.unnecessarySimpa false
set_option linter.unusedSectionVars false
set_option maxRecDepth 1000000
namespace Go.Proofs.YtobhhnobjflbnaaGreat
namespace D
open Go.RowKit
abbrev Tok:=Int×Int×Int×Int
def ar (t:Tok):Int:=
 if t.1=1\/t.1=2 then (if t.2.1=0/\t.2.2.1=0/\t.2.2.2=0 then 0 else -1)
 else if t.1=3 then (if (0<=t.2.1/\t.2.1<=8)/\t.2.2.1=0/\t.2.2.2=0 then 0 else -1)
 else if t.1=4\/t.1=5 then (if t.2.1=0/\t.2.2.1=0/\t.2.2.2=0 then 2 else -1)
 else if t.1=6 then (if t.2.1=0/\t.2.2.1=0/\t.2.2.2=0 then 1 else -1)
 else if t.1=7 then (if t.2.1=0/\(0<=t.2.2.1/\t.2.2.1<=t.2.2.2)/\(1<=t.2.2.2/\t.2.2.2<=3) then 1 else -1)
 else -1
theorem FW (x:Int):ga x=some (decide (0<=x/\x<=8)):=by unfold ga;rw[Kh];rfl
theorem Ny (t:Tok):ic t=some (ar t):=by
 obtain ⟨k,l,lo,hi⟩:=t
 unfold ic ar
 simp only[FW,Kh,aa]
 by_cases h1:k=1
 ·subst h1;simp;grind
 by_cases h2:k=2
 ·subst h2;simp;grind
 by_cases h3:k=3
 ·subst h3;simp;grind
 by_cases h4:k=4
 ·subst h4;simp;grind
 by_cases h5:k=5
 ·subst h5;simp;grind
 by_cases h6:k=6
 ·subst h6;simp;grind
 by_cases h7:k=7
 ·subst h7;simp;grind
 simp[h1,h2,h3,h4,h5,h6,h7]
theorem pj (t:Tok): -1<=ar t/\ar t<=2:=by
 unfold ar
 grind
theorem j2 {t:Tok} (h:0<=ar t):(ar t=2/\(t.1=4\/t.1=5))\/(ar t=1/\(t.1=6\/t.1=7))\/(ar t=0/\(t.1=1\/t.1=2\/t.1=3)):=by
 unfold ar at h⊢
 grind
theorem wj {t:Tok} (h:0<=ar t) (k:t.1=7):(0<=t.2.2.1/\t.2.2.1<=t.2.2.2)/\(1<=t.2.2.2/\t.2.2.2<=3):=by
 unfold ar at h
 grind
mutual
def flat:Tr Tok->List Tok
 | .nil=>[]
 | .node t ks=>fa ks++ [t]
def fa:List (Tr Tok)->List Tok
 | [] =>[]
 | k::ks=>flat k++fa ks
end
inductive WT:Tr Tok->Prop
 | node {t:Tok} {ks:List (Tr Tok)} :ar t=(ks.length:Int)->(∀k,k∈ks->WT k)->WT (.node t ks)
theorem jE: ∀(a b:List (Tr Tok)),fa (a++b)=fa a++fa b
 | [],b=>rfl
 | k::a,b=>by rw[List.cons_append,fa,fa,jE a b,ah]
theorem gg (x:Tr Tok):fa [x] =flat x:=by rw[fa,fa,List.append_nil]
theorem Df (x y:Tr Tok):fa [x,y] =flat x++flat y:=by rw[fa,gg]
theorem WT.cases {x:Tr Tok} (h:WT x):(∃t,x= .node t [] /\ar t=0)\/(∃t a,x= .node t [a] /\ar t=1/\WT a)\/ ∃t a b,x= .node t [a,b] /\ar t=2/\WT a/\WT b:=by
 cases h with
 | @node t ks h1 h2 =>
  have:=(pj t).2
  match ks,h1,h2 with
  | [],h1,h2=>exact .inl ⟨t,rfl,h1⟩
  | [a],h1,h2=>exact .inr (.inl ⟨t,a,rfl,h1,h2 a (by simp)⟩)
  | [a,b],h1,h2=>exact .inr (.inr ⟨t,a,b,rfl,h1,h2 a (by simp),h2 b (by simp)⟩)
  | _::_::_::_,h1,h2=>simp at h1;omega
theorem WT.ind {p:Tr Tok->Prop} (h0: ∀t,ar t=0->p (.node t [])) (h1: ∀t a,ar t=1->WT a->p a->p (.node t [a])) (h2: ∀t a b,ar t=2->WT a->WT b->p a->p b->p (.node t [a,b])) {x:Tr Tok} (h:WT x):p x:=by
 induction h with
 | @node t ks e k ih =>
  have:=(pj t).2
  match ks,e,k,ih with
  | [],e,k,ih=>exact h0 t e
  | [a],e,k,ih=>exact h1 t a e (k a (by simp)) (ih a (by simp))
  | [a,b],e,k,ih=>exact h2 t a b e (k a (by simp)) (k b (by simp)) (ih a (by simp)) (ih b (by simp))
  | _::_::_::_,e,_,_=>simp at e;omega
theorem xQ (t:Tok):flat (.node t [])= [t]:=by rw[flat,fa];rfl
theorem AO (t:Tok) (a:Tr Tok):flat (.node t [a])=flat a++ [t]:=by rw[flat,gg]
theorem oX (t:Tok) (a b:Tr Tok):flat (.node t [a,b])=(flat a++flat b)++ [t]:=by rw[flat,Df]
theorem WT.pos {x:Tr Tok} (h:WT x):1<=(flat x).length:=by
 cases h with
 | node h1 h2=>rw[flat];simp
def stp (s:List (Tr Tok)) (t:Tok):Option (List (Tr Tok)):=if ar t<0\/(s.length:Int)<ar t then none else some (s.take (s.length - (ar t).toNat)++ [.node t (s.drop (s.length - (ar t).toNat))])
def run:List (Tr Tok)->List Tok->Option (List (Tr Tok))
 | s,[] =>some s
 | s,t::l=>(stp s t).bind fun s'=>run s' l
theorem ud: ∀(a:List Tok) {b:List Tok} {s:List (Tr Tok)},run s (a++b)=(run s a).bind fun s'=>run s' b
 | [],b,s=>rfl
 | t::a,b,s=>by
  rw[List.cons_append,run,run]
  cases stp s t with
  | none=>rfl
  | some s'=>exact ud a
theorem pn {a:List Tok} {t:Tok} {s:List (Tr Tok)} :run s (a++ [t])=(run s a).bind fun s'=>stp s' t:=by
 rw[ud]
 congr 1
 funext s'
 rw[run]
 cases stp s' t <;> rfl
theorem Hj: ∀ {l:List Tok} {s s':List (Tr Tok)},run s l=some s'->(∀k,k∈s->WT k)->(∀k,k∈s'->WT k)/\fa s'=fa s++l
 | [],s,s',h,hs=>by
  obtain rfl:=ae h
  exact ⟨hs,by simp⟩
 | t::l,s,s',h,hs=>by
  rw[run] at h
  unfold stp at h
  by_cases c:ar t<0\/(s.length:Int)<ar t
  ·rw[if_pos c] at h;cases h
  ·rw[if_neg c] at h
   have hlen:(s.drop (s.length - (ar t).toNat)).length=(ar t).toNat:=by rw[aR];omega
   obtain ⟨k1,k2⟩:=Hj (show run _ l=some s' from h) fun k hk=>by
    rcases aB hk with hk | hk
    ·exact hs k (List.mem_of_mem_take hk)
    ·obtain rfl:=al hk
     exact .node (by rw[hlen];omega) fun k hk=>hs k (List.mem_of_mem_drop hk)
   refine ⟨k1,?_⟩
   rw[k2,jE,gg,flat,<-ah,<-jE,List.take_append_drop]
   simp
theorem FX {x:Tr Tok} (h:WT x): ∀s,run s (flat x)=some (s++ [x]):=by
 refine WT.ind (p:=fun x=> ∀s,run s (flat x)=some (s++ [x])) ?_ ?_ ?_ h
 ·intro t e s
  rw[xQ,run,stp,if_neg (by omega),e]
  simp[run]
 ·intro t a e _ ia s
  rw[AO,pn,ia]
  show stp (s++ [a]) t=_
  rw[stp,if_neg (by simp;omega),e]
  simp
 ·intro t a b e _ _ ia ib s
  rw[oX,pn,ud,ia]
  show ((run (s++ [a]) (flat b)).bind fun s'=>stp s' t)=_
  rw[ib]
  show stp (s++ [a] ++ [b]) t=_
  rw[stp,if_neg (by simp;omega),e]
  have:(s++ [a] ++ [b]).length - (2:Int).toNat=s.length:=by simp
  rw[this]
  simp
def isX (e:List Tok):Bool:=match run [] e with
 | some [_] =>true
 | _=>false
theorem Hk {e:List Tok} (h:isX e=true): ∃x,run [] e=some [x] /\WT x/\flat x=e:=by
 unfold isX at h
 split at h
 ·rename_i x hx
  obtain ⟨k1,k2⟩:=Hj hx (fun k hk=>by cases hk)
  refine ⟨x,hx,k1 x (by simp),?_⟩
  rw[gg] at k2
  rw[k2];rfl
 ·cases h
theorem Jy {l:List Tok} : ∀ {s s':List (Tr Tok)},run s l=some s'->s'.length<=s.length+l.length:=by
 induction l with
 | nil=>intro s s' h;obtain rfl:=ae h;simp
 | cons t l ih =>
  intro s s' h
  rw[run] at h
  obtain ⟨s1,h1,h2⟩:=Option.bind_eq_some_iff.1 h
  have h3:=ih h2
  unfold stp at h1
  split at h1
  ·cases h1
  ·obtain rfl:=ae h1
   simp only[au,aD,ax,aC] at h3⊢
   omega
theorem wk {e:List Tok} {i:Nat} (h:i<e.length):e.take (i+1)=e.take i++ [nth e (i:Int)]:=by
 rw[List.take_succ_eq_append_getElem h,eE h]
theorem zr {e:List Tok} {i:Nat} (h:i<e.length) {st:List (Tr Tok)} (h1:run [] (e.take i)=some st) (h2:stp st (nth e (i:Int))=none):run [] e=none:=by
 have:run [] (e.take (i+1))=none:=by rw[wk h,pn,h1];exact h2
 rw[<-List.take_append_drop (i+1) e,ud,this];rfl
theorem FY {e:List Tok} (he:e.length<=1048576):lr e=some (isX e):=by
 obtain ⟨o,eo,hq⟩:=dB (f:=jP e) (fun i s=> ∃st,s=((st.length:Int),(i:Int))/\run [] (e.take i)=some st) (fun o=>(o= .ret false/\run [] e=none)\/ ∃st,o= .brk ((st.length:Int),(e.length:Int))/\run [] e=some st) e.length (s:=(0,0)) (by
  rintro i s hi ⟨st,rfl,hst⟩
  have hl:=Jy hst
  simp only[aC,aD] at hl
  unfold jP
  simp only[wD]
  by_cases c:i<e.length
  ·rw[if_pos (by simp;omega),aE (by omega) (by omega)];simp only[aa]
   rw[Ny];simp only[aa]
   have hr:=pj (nth e (i:Int))
   by_cases c1:ar (nth e (i:Int))<0
   ·refine .inr ⟨_,by rw[if_pos (by simpa using c1)],(fun s' e=>by cases e),.inl ⟨rfl,zr c hst ?_⟩⟩
    rw[stp,if_pos (.inl c1)]
   ·rw[if_neg (by simpa using c1)]
    by_cases c2:ar (nth e (i:Int))>(st.length:Int)
    ·refine .inr ⟨_,by rw[if_pos (by simpa using c2)],(fun s' e=>by cases e),.inl ⟨rfl,zr c hst ?_⟩⟩
     rw[stp,if_pos (.inr c2)]
    ·rw[if_neg (by simpa using c2)]
     refine .inl ⟨c,_,rfl,st.take (st.length - (ar (nth e (i:Int))).toNat)++ [.node (nth e (i:Int)) (st.drop (st.length - (ar (nth e (i:Int))).toNat))],?_,?_⟩
     ·rw[be (n:=(st.length:Int) - ar (nth e (i:Int))) (by omega) (by omega),be (by omega) (by omega),aI (by omega)]
      congr 1
      simp only[au,aD,ax,aC]
      omega
     ·rw[wk c,pn,hst]
      show stp st _=_
      rw[stp,if_neg (by omega)]
  ·obtain rfl:i=e.length:=by omega
   rw[List.take_of_length_le (by omega)] at hst
   exact .inr ⟨_,by rw[if_neg (by simp)],(fun s' e=>by cases e),.inr ⟨st,rfl,hst⟩⟩) ⟨[],rfl,rfl⟩ (jd (by omega))
 unfold lr
 rcases hq with ⟨rfl,h⟩ | ⟨st,rfl,h⟩
 ·rw[dt eo];unfold isX;rw[h]
 ·rw[aG eo];unfold isX;rw[h]
  match st with
  | [] =>rfl
  | [_] =>rfl
  | _::_::_=>simp;omega
def Dg (e:List Tok):Tr Tok:=match run [] e with
 | some [x] =>x
 | _=>.nil
theorem sJ {x:Tr Tok} (h:WT x):Dg (flat x)=x:=by unfold Dg;rw[FX h];rfl
theorem xR {e:List Tok} (he:e.length<=1048576):dU e=some (decide (e.length<=24)&&isX e):=by
 unfold dU
 rw[FY he]
 by_cases c:e.length<=24
 ·rw[if_pos (by simp;omega)];simp[c]
 ·rw[if_neg (by simp;omega)];simp[c]
theorem chk_of {p:Prop} [Decidable p] (h:p):chk p=some ():=by unfold chk;rw[if_pos h]
theorem Jz {A:List Tok} {x:Tr Tok} (hx:WT x) (hl:(A++flat x).length<=1000000):dV (A++flat x)=some (A.length:Int):=by
 obtain ⟨s',e,ks,q1,q2,q3⟩: ∃s',aH (fQ (A++flat x)) ba (1,((A++flat x).length:Int))=some (.brk s')/\ ∃ks:List (Tr Tok),ks= [] /\s'.2=(A.length:Int)/\True:=by
  obtain ⟨o,eo,hq⟩:=dB (f:=fQ (A++flat x)) (fun i s=> ∃ks:List (Tr Tok),(∀k,k∈ks->WT k)/\s=((ks.length:Int),(((A++fa ks).length:Nat):Int))/\i+(fa ks).length=(flat x).length/\(A++flat x).take (A++fa ks).length=A++fa ks) (fun o=> ∃s',o= .brk s'/\s'.2=(A.length:Int)) (flat x).length (s:=(1,((A++flat x).length:Int))) (by
   rintro i s hi ⟨ks,hw,rfl,hlen,htk⟩
   unfold fQ
   simp only[wD]
   rcases List.eq_nil_or_concat ks with rfl | ⟨ks',y,rfl⟩
   ·refine .inr ⟨_,by rw[if_neg (by simp)],(fun s' e=>by cases e),_,rfl,?_⟩
    simp[fa]
   ·have hy:=hw y (by simp)
    cases hy with
    | @node t cs h1 h2 =>
     have hfl:fa (ks'++ [.node t cs])=fa (ks'++cs)++ [t]:=by rw[jE,gg,flat,jE,ah]
     rw[List.concat_eq_append,hfl] at hlen htk⊢
     simp only[au,ax,aC] at hlen htk hl⊢
     rw[if_pos (by simp <;> omega)]
     have hpos:IntKind.i64.wrap (((A.length+((fa (ks'++cs)).length+1):Nat):Int) - 1)=((A.length+(fa (ks'++cs)).length:Nat):Int):=by
      rw[be (by omega) (by omega)];omega
     have hget:nth (A++flat x) ((A.length+(fa (ks'++cs)).length:Nat):Int)=t:=by
      have hlt:A.length+(fa (ks'++cs)).length<(A++flat x).length:=by rw[au];omega
      have e1:=congrArg (fun l:List Tok=>l[A.length+(fa (ks'++cs)).length]?) htk
      rw[List.getElem?_take_of_lt (by omega),List.getElem?_eq_getElem hlt,<-ah,List.getElem?_append_right (by rw[au];omega),au] at e1
      rw[eE hlt]
      simpa using e1
     rw[hpos,aE (by omega) (by simp only[au];omega),hget];simp only[aa]
     rw[Ny,h1];simp only[aa]
     have hcl:(cs.length:Int)<=2:=by rw[<-h1];exact (pj t).2
     have hkl:ks'.length<=(fa (ks'++cs)).length+1000000:=by
      have: ∀l:List (Tr Tok),(∀k,k∈l->WT k)->l.length<=(fa l).length:=by
       intro l
       induction l with
       | nil=>intro _;simp
       | cons k l ih =>
        intro h
        have h1:=(h k (by simp)).pos
        have h2:=ih fun k hk=>h k (by simp[hk])
        rw[fa];simp only[ax,au];omega
      have:=this ks' fun k hk=>hw k (by simp[hk])
      rw[jE,au];omega
     refine .inl ⟨by omega,_,rfl,ks'++cs,fun k hk=>?_,?_,by omega,?_⟩
     ·rcases aB hk with hk | hk
      ·exact hw k (by simp[hk])
      ·exact h2 k hk
     ·rw[be (n:=((ks'.length+1:Nat):Int) - 1) (by omega) (by omega),be (by omega) (by omega)]
      congr 1
      (simp only[au]) <;> omega
     ·have e1:=congrArg (List.take (A++fa (ks'++cs)).length) htk
      rw[List.take_take,Nat.min_eq_left (by rw[au];omega),<-ah,List.take_left] at e1
      rw[au] at e1
      exact e1) ⟨[x],fun k hk=>by (obtain rfl:=al hk;exact hx),by rw[gg];rfl,by rw[gg];omega,by rw[gg,List.take_length]⟩ (jd (by rw[au] at hl;omega))
  obtain ⟨s',rfl,h2⟩:=hq
  exact ⟨s',eo,[],rfl,h2,trivial⟩
 unfold dV
 rw[aG e,q2]
end D
namespace D
open Go.RowKit
instance trInh {α:Type} :Inhabited (Tr α):=⟨.nil⟩
def szX:Tr Tok->Int
 | .nil=>0
 | .node t ks=>min (szL t 1 ks) 100000
where szL (t:Tok) (acc:Int):List (Tr Tok)->Int
 | [] =>acc
 | k::ks=>szL t (acc+(if t.1=7 then (szX k+3)*t.2.2.2 else szX k)) ks
theorem eP {x:Tr Tok} (h:WT x):1<=szX x/\szX x<=100000:=by
 refine WT.ind (p:=fun x=>1<=szX x/\szX x<=100000) ?_ ?_ ?_ h
 ·intro t _
  show 1<=min (1:Int) 100000/\min (1:Int) 100000<=100000
  omega
 ·intro t a e _ ih
  show 1<=min ((1:Int)+(if t.1=7 then (szX a+3)*t.2.2.2 else szX a)) 100000/\min ((1:Int)+(if t.1=7 then (szX a+3)*t.2.2.2 else szX a)) 100000<=100000
  split
  ·rename_i k
   have hr:=wj (show 0<=ar t by omega) k
   have:0<=(szX a+3)*t.2.2.2:=Int.mul_nonneg (by omega) (by omega)
   omega
  ·omega
 ·intro t a b e _ _ iha ihb
  have k:t.1≠7:=by
   rcases j2 (show 0<=ar t by omega) with ⟨_,k⟩ | ⟨k,_⟩ | ⟨k,_⟩ <;> omega
  show 1<=min ((1:Int)+(if t.1=7 then (szX a+3)*t.2.2.2 else szX a)+(if t.1=7 then (szX b+3)*t.2.2.2 else szX b)) 100000/\min ((1:Int)+(if t.1=7 then (szX a+3)*t.2.2.2 else szX a)+(if t.1=7 then (szX b+3)*t.2.2.2 else szX b)) 100000<=100000
  rw[if_neg k,if_neg k]
  omega
theorem Dh {a h:Int} (h1:1<=a/\a<=100000) (h2:1<=h/\h<=3):IntKind.i64.wrap ((IntKind.i64.wrap (a+3))*h)=(a+3)*h:=by
 rw[be (n:=a+3) (by omega) (by omega)]
 have k1:0<=(a+3)*h:=Int.mul_nonneg (by omega) (by omega)
 have k2:(a+3)*h<=100003*3:=Int.mul_le_mul (by omega) (by omega) (by omega) (by omega)
 exact be (by omega) (by omega)
theorem JA {a h:Int} (h1:1<=a/\a<=100000) (h2:1<=h/\h<=3):0<=(a+3)*h/\(a+3)*h<=300009:=by
 have k1:0<=(a+3)*h:=Int.mul_nonneg (by omega) (by omega)
 have k2:(a+3)*h<=100003*3:=Int.mul_le_mul (by omega) (by omega) (by omega) (by omega)
 omega
theorem gJ {A:List Tok} {t:Tok} (h:A.length<=1000000):aU (A++ [t]) (IntKind.i64.wrap (((A++ [t]).length:Int) - 1))=some t/\IntKind.i64.wrap (((A++ [t]).length:Int) - 1)=(A.length:Int):=by
 have e:IntKind.i64.wrap (((A++ [t]).length:Int) - 1)=(A.length:Int):=by
  rw[be (by simp only[au,ax,aC];omega) (by simp only[au,ax,aC];omega)]
  simp only[au,ax,aC];omega
 refine ⟨?_,e⟩
 rw[e,aE (by omega) (by simp only[au,ax,aC];omega),eE (by simp)]
 simp
theorem Nz {t:Tok} (h:ar t=2):(if t.1==4 then (some (t.1==4)) else (some (t.1==5)):Option Bool)=some true:=by
 rcases j2 (show 0<=ar t by omega) with ⟨_,k | k⟩ | ⟨e,_⟩ | ⟨e,_⟩
 ·simp[k]
 ·simp[k]
 ·omega
 ·omega
theorem FZ {t:Tok} (h:ar t=1\/ar t=0):(if t.1==4 then (some (t.1==4)) else (some (t.1==5)):Option Bool)=some false:=by
 rcases j2 (show 0<=ar t by omega) with ⟨e,k⟩ | ⟨e,k | k⟩ | ⟨e,k | k | k⟩
 ·omega
 all_goals simp[k]
theorem Lr {t:Tok} (h:ar t=0):(t.1==6)=false/\(t.1==7)=false:=by
 rcases j2 (show 0<=ar t by omega) with ⟨e,k⟩ | ⟨e,k | k⟩ | ⟨e,k | k | k⟩
 ·omega
 ·omega
 ·omega
 all_goals simp[k]
theorem JB {t:Tok} (h:ar t=1):((t.1==6)=true/\t.1=6)\/((t.1==6)=false/\(t.1==7)=true/\t.1=7):=by
 rcases j2 (show 0<=ar t by omega) with ⟨e,k⟩ | ⟨e,k | k⟩ | ⟨e,k | k | k⟩
 ·omega
 ·left;simp[k]
 ·right;simp[k]
 all_goals omega
theorem qJ {a b:Tr Tok} {t:Tok} (wb:WT b) (hl:((flat a++flat b)++ [t]).length<=1000000) :
  (((flat a++flat b)++ [t]).take ((((flat a++flat b).length:Nat):Int)).toNat)=flat a++flat b /\
  dV (flat a++flat b)=some (((flat a).length:Nat):Int) /\
  (((flat a++flat b)++ [t]).take ((((flat a).length:Nat):Int)).toNat)=flat a /\
  (flat a++flat b).drop ((((flat a).length:Nat):Int)).toNat=flat b:=by
 refine ⟨?_,Jz wb (by simp only[au,ax,aC] at hl⊢;omega),?_,?_⟩
 ·rw[Int.toNat_natCast,List.take_left]
 ·rw[Int.toNat_natCast,ah,List.take_left]
 ·rw[Int.toNat_natCast,List.drop_left]
theorem Ls {x:Tr Tok} (h:WT x): ∀n,(flat x).length<=n->(flat x).length<=1000000->cd n (flat x)=some (szX x):=by
 refine WT.ind (p:=fun x=> ∀n,(flat x).length<=n->(flat x).length<=1000000->cd n (flat x)=some (szX x)) ?_ ?_ ?_ h
 ·intro t e n hn hl
  rw[xQ] at hn hl⊢
  match n,hn with
  | n+1,_ =>
   have hk:=Lr e
   rw[cd]
   have:=(gJ (A:=[]) (t:=t) (by simp)).1
   rw[List.nil_append] at this
   rw[this];simp only[aa]
   rw[FZ (.inr e)];simp only[aa,hk.1,hk.2,Bool.false_eq_true,if_false]
   rfl
 ·intro t a e wa ih n hn hl
  rw[AO] at hn hl⊢
  simp only[au,ax,aC] at hn hl
  match n,hn with
  | n+1,hn =>
   have hr:=eP wa
   rw[cd]
   obtain ⟨l1,l2⟩:=gJ (A:=flat a) (t:=t) (by omega)
   rw[l1];simp only[aa]
   rw[FZ (.inl e)];simp only[aa,Bool.false_eq_true,if_false]
   rw[l2,Int.toNat_natCast,List.take_left,chk_of (by simp only[au,ax,aC];omega)];simp only[aa]
   rw[ih n (by omega) (by omega)];simp only[aa]
   rcases JB e with ⟨k1,k2⟩ | ⟨k1,k2,k3⟩
   ·rw[if_pos k1,be (by omega) (by omega)]
    show some (min 100000 (szX a+1))=some (min ((1:Int)+(if t.1=7 then (szX a+3)*t.2.2.2 else szX a)) 100000)
    rw[if_neg (by omega)]
    congr 1;omega
   ·have h7:=wj (show 0<=ar t by omega) k3
    have hm:=JA hr h7.2
    rw[if_neg (by simp[k1]),if_pos k2,Dh hr h7.2,be (by omega) (by omega)]
    show some (min 100000 ((szX a+3)*t.2.2.2+1))=some (min ((1:Int)+(if t.1=7 then (szX a+3)*t.2.2.2 else szX a)) 100000)
    rw[if_pos k3]
    congr 1;omega
 ·intro t a b e wa wb iha ihb n hn hl
  rw[oX] at hn hl⊢
  obtain ⟨p1,p2,p3,p4⟩:=qJ (a:=a) (t:=t) wb hl
  simp only[au,ax,aC] at hn hl
  match n,hn with
  | n+1,hn =>
   have hra:=eP wa
   have hrb:=eP wb
   have k:t.1≠7:=by
    rcases j2 (show 0<=ar t by omega) with ⟨_,k⟩ | ⟨k,_⟩ | ⟨k,_⟩ <;> omega
   rw[cd]
   obtain ⟨l1,l2⟩:=gJ (A:=flat a++flat b) (t:=t) (by rw[au];omega)
   rw[l1];simp only[aa]
   rw[Nz e];simp only[aa,if_true]
   rw[l2,p1,p2,chk_of (by simp only[au,ax,aC];omega)];simp only[aa]
   rw[chk_of (by simp only[au,ax,aC];omega),p3,p4];simp only[aa]
   rw[iha n (by omega) (by omega),chk_of (by simp only[au,ax,aC];omega)];simp only[aa]
   rw[ihb n (by have:=wa.pos;omega) (by omega)];simp only[aa]
   rw[be (n:=szX a+szX b) (by omega) (by omega),be (by omega) (by omega)]
   show some (min 100000 (szX a+szX b+1))=some (min ((1:Int)+(if t.1=7 then (szX a+3)*t.2.2.2 else szX a)+(if t.1=7 then (szX b+3)*t.2.2.2 else szX b)) 100000)
   rw[if_neg k,if_neg k]
   congr 1;omega
def F5:Tr Tok:=.node (2,0,0,0) []
def AP (x:Tr Tok):Nat->Int->Tr Tok
 | 0,_=>F5
 | h+1,low=>if 0<low then .node (4,0,0,0) [x,AP x h (max 0 (low - 1))] else .node (5,0,0,0) [.node (4,0,0,0) [x,AP x h (max 0 (low - 1))],F5]
mutual
def oh:Tr Tok->Tr Tok
 | .nil=>.nil
 | .node t ks=>if t.1=7 then AP ((F6 ks).headD .nil) t.2.2.2.toNat t.2.2.1 else .node t (F6 ks)
def F6:List (Tr Tok)->List (Tr Tok)
 | [] =>[]
 | k::ks=>oh k::F6 ks
end
theorem ar4:ar (4,0,0,0)=2:=by decide
theorem ar5:ar (5,0,0,0)=2:=by decide
theorem ar2:ar (2,0,0,0)=0:=by decide
theorem Di:WT F5:=.node ar2 fun k hk=>by cases hk
theorem nz:flat F5= [(2,0,0,0)]:=xQ _
theorem WT.two {t:Tok} {a b:Tr Tok} (h:ar t=2) (ha:WT a) (hb:WT b):WT (.node t [a,b]):=.node h fun k hk=>by
 rcases aw hk with rfl | hk
 ·exact ha
 ·obtain rfl:=al hk
  exact hb
theorem WT.one {t:Tok} {a:Tr Tok} (h:ar t=1) (ha:WT a):WT (.node t [a]):=.node h fun k hk=>by
 obtain rfl:=al hk
 exact ha
theorem xS {x:Tr Tok} (hx:WT x): ∀(h:Nat) (low:Int),WT (AP x h low)
 | 0,_=>Di
 | h+1,low=>by
  rw[AP]
  split
  ·exact .two ar4 hx (xS hx h _)
  ·exact .two ar5 (.two ar4 hx (xS hx h _)) Di
theorem ue (x:Tr Tok): ∀(h:Nat) (low:Int),(flat (AP x h low)).length<=((flat x).length+3)*h+1
 | 0,_=>by rw[AP,nz];simp
 | h+1,low=>by
  have ih:=ue x h (max 0 (low - 1))
  rw[AP]
  split
  ·rw[oX];simp only[au,ax,aC]
   rw[Nat.mul_succ];omega
  ·rw[oX,oX,nz];simp only[au,ax,aC]
   rw[Nat.mul_succ];omega
theorem MQ {t:Tok} {a:Tr Tok} :oh (.node t [a])=if t.1=7 then AP (oh a) t.2.2.2.toNat t.2.2.1 else .node t [oh a]:=by rw[oh,F6,F6];rfl
theorem exp2 {t:Tok} {a b:Tr Tok} (h:t.1≠7):oh (.node t [a,b])= .node t [oh a,oh b]:=by rw[oh,if_neg h,F6,F6,F6]
theorem MR {t:Tok} (h:t.1≠7):oh (.node t [])= .node t []:=by rw[oh,if_neg h,F6]
theorem no7 {t:Tok} (h:ar t=2\/ar t=0):t.1≠7:=by
 rcases j2 (show 0<=ar t by omega) with ⟨_,k⟩ | ⟨k,_⟩ | ⟨_,k⟩ <;> omega
theorem Lt {x:Tr Tok} (h:WT x):WT (oh x):=by
 refine WT.ind (p:=fun x=>WT (oh x)) ?_ ?_ ?_ h
 ·intro t e
  rw[MR (no7 (.inr e))]
  exact .node e fun k hk=>by cases hk
 ·intro t a e _ ih
  rw[MQ]
  split
  ·exact xS ih _ _
  ·exact .one e ih
 ·intro t a b e _ _ iha ihb
  rw[exp2 (no7 (.inl e))]
  exact .two e iha ihb
theorem uf {x:Tr Tok} (h:WT x):szX x<100000->((flat (oh x)).length:Int)<=szX x:=by
 refine WT.ind (p:=fun x=>szX x<100000->((flat (oh x)).length:Int)<=szX x) ?_ ?_ ?_ h
 ·intro t e _
  rw[MR (no7 (.inr e)),xQ]
  show (1:Int)<=min 1 100000
  omega
 ·intro t a e wa ih hs
  have hr:=eP wa
  have hs':min ((1:Int)+(if t.1=7 then (szX a+3)*t.2.2.2 else szX a)) 100000<100000:=hs
  show _<=min ((1:Int)+(if t.1=7 then (szX a+3)*t.2.2.2 else szX a)) 100000
  rw[MQ]
  by_cases k:t.1=7
  ·rw[if_pos k] at hs'⊢
   rw[if_pos k]
   have h7:=wj (show 0<=ar t by omega) k
   have hge:szX a+3<=(szX a+3)*t.2.2.2:=by
    have:=Int.mul_le_mul_of_nonneg_left (c:=szX a+3) h7.2.1 (by omega)
    omega
   have h1:=ih (by omega)
   have h2:=ue (oh a) t.2.2.2.toNat t.2.2.1
   have h3:(((flat (oh a)).length+3)*t.2.2.2.toNat:Int)<=(szX a+3)*t.2.2.2:=by
    rw[Int.toNat_of_nonneg (by omega)]
    exact Int.mul_le_mul_of_nonneg_right (by omega) (by omega)
   have h4:((flat (AP (oh a) t.2.2.2.toNat t.2.2.1)).length:Int)<=(((flat (oh a)).length+3)*t.2.2.2.toNat:Int)+1:=by exact_mod_cast h2
   omega
  ·rw[if_neg k] at hs'⊢
   rw[if_neg k,AO]
   have h1:=ih (by omega)
   simp only[au,ax,aC]
   omega
 ·intro t a b e wa wb iha ihb hs
  have hra:=eP wa
  have hrb:=eP wb
  have k:=no7 (.inl e)
  have hs':min ((1:Int)+(if t.1=7 then (szX a+3)*t.2.2.2 else szX a)+(if t.1=7 then (szX b+3)*t.2.2.2 else szX b)) 100000<100000:=hs
  show _<=min ((1:Int)+(if t.1=7 then (szX a+3)*t.2.2.2 else szX a)+(if t.1=7 then (szX b+3)*t.2.2.2 else szX b)) 100000
  rw[if_neg k,if_neg k] at hs'⊢
  rw[exp2 k,oX]
  have h1:=iha (by omega)
  have h2:=ihb (by omega)
  simp only[au,ax,aC]
  omega
theorem qK {a b:List Tok} {t:Tok} (h:a.length+b.length<=1000000):b0 a b t=some ((a++b)++ [t]):=by
 unfold b0 nX
 rw[aS (by simp only[au,ax,aC];omega)];simp only[aa,List.nil_append]
 rw[aS (by omega)];simp only[aa]
 rw[aS (by simp only[au,ax,aC];omega)];rfl
theorem Dj {x:Tr Tok} : ∀(h n:Nat) (low:Int),h<n->h<=3->0<=low->low<=3->(flat x).length<=100000->ff n (flat x) low (h:Int)=some (flat (AP x h low))
 | 0,n+1,low,_,_,_,_,_=>by
  rw[ff,if_pos (by rfl),AP,nz];rfl
 | h+1,n+1,low,h1,h2,h3,h4,h5=>by
  rw[ff,if_neg (by simp;omega),be (n:=low - 1) (by omega) (by omega),be (n:=((h+1:Nat):Int) - 1) (by omega) (by omega)]
  rw[show ((h+1:Nat):Int) - 1=(h:Int) from by omega,Dj h n (max 0 (low - 1)) (by omega) (by omega) (by omega) (by omega) h5];simp only[aa]
  have hl:=ue x h (max 0 (low - 1))
  have hl3:((flat x).length+3)*h<=100003*3:=Nat.mul_le_mul (by omega) (by omega)
  rw[qK (by omega),AP];simp only[aa]
  by_cases c:0<low
  ·rw[if_pos (by simpa using c),if_pos c,oX]
  ·rw[if_neg (by simpa using c),if_neg c,oX,oX,nz]
   show (gM 2).bind _=_
   unfold gM;simp only[aa]
   rw[qK (by simp only[au,ax,aC];omega)];rfl
theorem nA:1000000000000<=iE:=by rw[Ea];unfold ba;omega
theorem F7 {x:Tr Tok} (h:WT x): ∀n,(flat x).length<=n->(flat x).length<=1000000->szX x<=50000->br n (flat x)=some (flat (oh x)):=by
 have hF:=nA
 refine WT.ind (p:=fun x=> ∀n,(flat x).length<=n->(flat x).length<=1000000->szX x<=50000->br n (flat x)=some (flat (oh x))) ?_ ?_ ?_ h
 ·intro t e n hn hl hs
  rw[xQ] at hn hl⊢
  match n,hn with
  | n+1,_ =>
   have hk:=Lr e
   rw[br]
   have:=(gJ (A:=[]) (t:=t) (by simp)).1
   rw[List.nil_append] at this
   rw[this];simp only[aa]
   rw[FZ (.inr e)];simp only[aa,hk.1,hk.2,Bool.false_eq_true,if_false]
   rw[MR (no7 (.inr e)),xQ]
 ·intro t a e wa ih n hn hl hs
  have hs':min ((1:Int)+(if t.1=7 then (szX a+3)*t.2.2.2 else szX a)) 100000<=50000:=hs
  rw[AO] at hn hl⊢
  simp only[au,ax,aC] at hn hl
  match n,hn with
  | n+1,hn =>
   have hr:=eP wa
   have hsa:szX a<=50000:=by
    by_cases k:t.1=7
    ·rw[if_pos k] at hs'
     have h7:=wj (show 0<=ar t by omega) k
     have hge:szX a+3<=(szX a+3)*t.2.2.2:=by
      have:=Int.mul_le_mul_of_nonneg_left (c:=szX a+3) h7.2.1 (by omega)
      omega
     omega
    ·rw[if_neg k] at hs';omega
   have hla:=uf wa (by omega)
   rw[br]
   obtain ⟨l1,l2⟩:=gJ (A:=flat a) (t:=t) (by omega)
   rw[l1];simp only[aa]
   rw[FZ (.inl e)];simp only[aa,Bool.false_eq_true,if_false]
   rw[l2,Int.toNat_natCast,List.take_left,chk_of (by simp only[au,ax,aC];omega)];simp only[aa]
   rw[ih n (by omega) (by omega) hsa,MQ];simp only[aa]
   rcases JB e with ⟨k1,k2⟩ | ⟨k1,k2,k3⟩
   ·rw[if_pos k1,if_neg (by omega),qK (by simp;omega),AO];simp
   ·have h7:=wj (show 0<=ar t by omega) k3
    rw[if_neg (by simp[k1]),if_pos k2,if_pos k3]
    have:=Dj (x:=oh a) t.2.2.2.toNat iE t.2.2.1 (by omega) (by omega) (by omega) (by omega) (by omega)
    rw[Int.toNat_of_nonneg (by omega)] at this
    rw[this];rfl
 ·intro t a b e wa wb iha ihb n hn hl hs
  have k:=no7 (.inl e)
  have hs':min ((1:Int)+(if t.1=7 then (szX a+3)*t.2.2.2 else szX a)+(if t.1=7 then (szX b+3)*t.2.2.2 else szX b)) 100000<=50000:=hs
  rw[if_neg k,if_neg k] at hs'
  rw[oX] at hn hl⊢
  obtain ⟨p1,p2,p3,p4⟩:=qJ (a:=a) (t:=t) wb hl
  simp only[au,ax,aC] at hn hl
  match n,hn with
  | n+1,hn =>
   have hra:=eP wa
   have hrb:=eP wb
   have hla:=uf wa (by omega)
   have hlb:=uf wb (by omega)
   rw[br]
   obtain ⟨l1,l2⟩:=gJ (A:=flat a++flat b) (t:=t) (by rw[au];omega)
   rw[l1];simp only[aa]
   rw[Nz e];simp only[aa,if_true]
   rw[l2,p1,p2,chk_of (by simp only[au,ax,aC];omega)];simp only[aa]
   rw[chk_of (by simp only[au,ax,aC];omega),p3,p4];simp only[aa]
   rw[iha n (by omega) (by omega) (by omega),chk_of (by simp only[au,ax,aC];omega)];simp only[aa]
   rw[ihb n (by have:=wa.pos;omega) (by omega) (by omega)];simp only[aa]
   rw[qK (by omega),exp2 k,oX];rfl
def AY (e:List Tok):List Tok×Bool:=
 if decide (e.length<=24)&&isX e then (if 5000<szX (Dg e) then ([],false) else (if 400<(flat (oh (Dg e))).length then ([],false) else (flat (oh (Dg e)),true))) else ([],false)
theorem JC {e:List Tok} (h:(AY e).2=true): ∃y,WT y/\(AY e).1=flat y/\(flat y).length<=400:=by
 unfold AY at h⊢
 split at h
 ·rename_i c
  rw[if_pos c]
  rw[af] at c
  obtain ⟨x,h1,hw,rfl⟩:=Hk c.2
  rw[sJ hw] at h⊢
  split at h
  ·cases h
  ·rename_i c2
   rw[if_neg c2]
   split at h
   ·cases h
   ·rename_i c3
    rw[if_neg c3]
    exact ⟨_,Lt hw,rfl,by omega⟩
 ·cases h
end D
namespace D
open Go.RowKit
def NO (out:List Bool) (t:Int):Bool:=decide (t≥0)&&nth out t
def hit (out:List Bool) (row:List Int):Bool:=row.any (NO out)
def Lu (a:AutT) (out:List Bool) (s:Nat):List Bool:=if hit out (nth a.2.2 s) then out.set s true else out
def Hl (a:AutT) (out:List Bool):Nat->List Bool
 | 0=>out
 | s+1=>Lu a (Hl a out s) s
def cnt (out:List Bool):Nat:=out.count true
section
variable {a:AutT} {n:Nat}
def it (a:AutT):Nat->List Bool
 | 0=>a.2.1
 | j+1=>Hl a (it a j) a.2.1.length
def live (a:AutT):List Bool:=it a a.2.1.length
section
variable (V:VA a n) (hn:n<=1000000)
include V hn
end
end
end D
namespace D
open Go.RowKit
def nothing:AutT:=(0,[false],[[-1,-1,-1,-1,-1,-1,-1,-1,-1]])
theorem take_one {α:Type} [Inhabited α] {xs:List α} {k:Nat} (h:k<xs.length):xs.take (k+1)=xs.take k++ [nth xs (k:Int)]:=by
 rw[List.take_succ_eq_append_getElem h,eE h]
theorem oi {α:Type} [Inhabited α] {xs ys:List α} (h:xs <+:ys) {i:Int} (h0:0<=i) (h1:i<xs.length):nth ys i=nth xs i:=by
 obtain ⟨t,rfl⟩:=h
 exact qH h0 h1
structure NumOk {κ:Type} [DecidableEq κ] (nx:κ->List (Option κ)) (first:κ) (G:κ->Prop) (B:Nat):Prop where
 g0:G first
 gn: ∀x,G x-> ∀y,some y∈nx x->G y
 len: ∀x,G x->(nx x).length=9
 bound: ∀l:List κ,l.Nodup->(∀x∈l,G x)->l.length<=B
section
variable {κ:Type} [DecidableEq κ] [Inhabited κ] {nx:κ->List (Option κ)} {first:κ} {G:κ->Prop} {B:Nat}
theorem NumOk.at (H:NumOk nx first G B) {i:Nat} (h:i<(bfS nx first i).length):G (nth (bfS nx first i) (i:Int)):=nw H.g0 H.gn i _ (bK (by omega) (by omega))
theorem wm {i:Nat} (h:i<(bfS nx first i).length):bfS nx first (i+1)=nbS (bfS nx first i) (nx (nth (bfS nx first i) (i:Int))):=by rw[uc h,eE h]
theorem Dk {i:Nat} (h:i<(bfS nx first i).length):bfR nx first (i+1)=bfR nx first i++ [nbR (bfS nx first i) (nx (nth (bfS nx first i) (i:Int)))]:=by rw[ph h,eE h]
theorem F8 {β:Type} {acc:κ->β} {i:Nat} (h:i<(bfS nx first i).length):((bfS nx first (i+1)).take (i+1)).map acc=((bfS nx first i).take i).map acc++ [acc (nth (bfS nx first i) (i:Int))]:=by
 have hp:=ee (nx:=nx) (first:=first) i
 have hl:=hp.length_le
 have e:(bfS nx first (i+1)).take i=(bfS nx first i).take i:=by
  obtain ⟨t,ht⟩:=hp
  rw[<-ht,List.take_append_of_le_length (by omega)]
 rw[take_one (by omega),aF,e,oi hp (by omega) (by omega)];rfl
end
section
variable {nx:Int->List (Option Int)} {first:Int} {G:Int->Prop} {B:Nat}
end
theorem Lv {l:List Int} {x:Int} (h:l.length<=9223372036854775807):jO l x=some (if x∈l then (l.idxOf x:Int) else -1):=by
 unfold jO
 obtain ⟨o,e,hq⟩:=dB (f:=ja l x) (fun i s=>s=(i:Int)/\x∉l.take i) (fun o=>(x∈l/\o= .ret (l.idxOf x:Int))\/(x∉l/\ ∃s,o= .brk s)) l.length (s:=0) (by
  rintro i s hi ⟨rfl,hx⟩
  unfold ja
  by_cases hl:i<l.length
  ·rw[if_pos (by simp;omega),aE (by omega) (by omega)];simp only[aa]
   by_cases c:nth l (i:Int)=x
   ·refine .inr ⟨_,by rw[if_pos (by simpa using c)],(fun s' e=>by cases e),.inl ?_⟩
    have e:l=l.take i++(x::l.drop (i+1)):=by
     rw[<-c,eE hl,<-List.drop_eq_getElem_cons hl,List.take_append_drop]
    refine ⟨by rw[e];simp,?_⟩
    congr 1
    conv=>rhs;rw[e,List.idxOf_append,if_neg hx,List.idxOf_cons_self]
    simp[aD];first | done | omega
   ·refine .inl ⟨hl,_,by rw[if_neg (by simpa using c)],by rw[aI (by omega)],?_⟩
    rw[take_one hl,List.mem_append,List.mem_singleton]
    rintro (h | h)
    ·exact hx h
    ·exact c h.symm
  ·refine .inr ⟨_,by rw[if_neg (by simp;omega)],(fun s' e=>by cases e),.inr ⟨?_,_,rfl⟩⟩
   rwa [List.take_of_length_le (by omega)] at hx) ⟨rfl,by simp⟩ (jd h)
 rcases hq with ⟨hx,rfl⟩ | ⟨hx,s,rfl⟩
 ·rw[dt e,if_pos hx]
 ·rw[aG e,if_neg hx]
section
variable {a:AutT} {n:Nat} {c:List Int} {lv:List Bool} {nx:Int->List (Option Int)} {G:Int->Prop} {B:Nat} {acc:Int->Bool}
def good (n:Nat) (lv:List Bool) (r:Int):Prop:=0<=r/\r<n/\nth lv r=true
end
end D
namespace D
open Go.RowKit
abbrev AQ:=(List Int)×Int×Int×(List Int)×Bool
abbrev Ki (x:Int) (j:Nat):Bool:=(lZ (jc x (j:Int)) 1)==1
def Kj (F:List Int) (set m0:Int):Nat->Int
 | 0=>m0
 | i+1=>if Ki set (i+1) then orI (Kj F set m0 i) (nth F (i:Int)) else Kj F set m0 i
def pick (L:List Int) (m letter:Int):Nat->Int
 | 0=>0
 | i+1=>if nth L (i:Int)=letter/\Ki m i=true then orI (pick L m letter i) (rC 1 ((i+1:Nat):Int)) else pick L m letter i
def aft (p:AQ) (set letter:Int):Int:=pick p.1 (Kj p.2.2.2.1 set (if (lZ set 1)==1 then p.2.1 else 0) p.2.2.2.1.length) letter p.1.length
def ug (p:AQ) (set:Int):Bool:=if (lZ set 1)==1 then (if p.2.2.2.2 then true else (lZ (jc set 1) p.2.2.1) !=0) else (lZ (jc set 1) p.2.2.1) !=0
theorem uh (i:Nat):chk (0<=(i:Int))=some ():=by unfold chk;rw[if_pos (by omega)]
theorem JD {p:AQ} {set letter:Int} (hl:p.2.2.2.1.length=p.1.length) (hb:p.1.length<=1000000):iL p set letter=some (aft p set letter):=by
 have h0: ∀m0,aH (dR p set) ba (m0,0)=some (.brk (Kj p.2.2.2.1 set m0 p.1.length,(p.1.length:Int))):=fun m0 =>
  a6 (f:=dR p set) (fun i=>(Kj p.2.2.2.1 set m0 i,(i:Int))) p.1.length (fun i hi=>by
   unfold dR
   simp only
   rw[if_pos (by simp;omega),aI (by omega),uh];simp only[aa]
   rw[Kj]
   by_cases c:Ki set (i+1)=true
   ·rw[if_pos c,if_pos c,aE (by omega) (by omega)];rfl
   ·rw[if_neg c,if_neg c];rfl) (by unfold dR;simp) (jd (by omega))
 have h1: ∀s7:Int×Int,aH (dS p letter s7) ba (0,0)=some (.brk (pick p.1 s7.1 letter p.1.length,(p.1.length:Int))):=fun s7 =>
  a6 (f:=dS p letter s7) (fun i=>(pick p.1 s7.1 letter i,(i:Int))) p.1.length (fun i hi=>by
   unfold dS
   simp only
   rw[if_pos (by simp;omega),aI (by omega),uh,uh];simp only[aa]
   rw[pick]
   by_cases c:Ki s7.1 i=true
   ·rw[if_pos c,aE (by omega) (by omega)];simp only[aa]
    by_cases d:nth p.1 (i:Int)=letter
    ·rw[if_pos (by simpa using d),if_pos ⟨d,c⟩];rfl
    ·rw[if_neg (by simpa using d),if_neg (fun h=>d h.1)];rfl
   ·rw[if_neg c,if_neg (fun h=>c h.2)];rfl) (by unfold dS;simp) (jd (by omega))
 unfold iL aft
 rw[hl]
 by_cases c:((lZ set 1)==1)=true
 ·rw[if_pos c,if_pos c];simp only[aa]
  rw[aG (h0 _),aG (h1 _)]
 ·rw[if_neg c,if_neg c];simp only[aa]
  rw[aG (h0 _),aG (h1 _)]
theorem Lw (p:AQ) (x:Int):fP p x=some (ug p x):=by
 unfold fP ug
 split <;> (try split) <;> rfl
def nxS (p:AQ) (x:Int):List (Option Int):=(List.range 9).map fun k:Nat=>if aft p x (k:Int)=0 then none else some (aft p x (k:Int))
theorem Lx {p:AQ} {x:Int} {k:Nat} (hk:k<9):nth (nxS p x) (k:Int)=if aft p x k=0 then none else some (aft p x k):=by
 have:k<(nxS p x).length:=by simp[nxS];omega
 rw[eE this];simp[nxS]
theorem Dl (p:AQ) (x:Int):(nxS p x).length=9:=by simp[nxS]
theorem Hm {κ:Type} [DecidableEq κ] : ∀(l:List κ) (os:List (Option κ)),(nbS l os).length<=l.length+os.length
 | l,[] =>by simp[nbS]
 | l,o::os=>by
  have h:=Hm (nbL l o) os
  have h2:(nbL l o).length<=l.length+1:=by
   cases o with
   | none=>simp[nbL]
   | some x=>unfold nbL;simp only;split <;> simp
  show (nbS (nbL l o) os).length<=_
  simp only[ax];omega
section
variable {κ:Type} [DecidableEq κ] (nx:κ->List (Option κ)) (first:κ) (acc:κ->Bool) (most:Nat)
def goM:Nat->Nat->AutT×Bool
 | 0,i=>((0,[],[]),false)
 | f+1,i=>if i<(bfS nx first i).length then (if (bfS nx first (i+1)).length>most then ((0,[],[]),false) else goM f (i+1)) else ((0,((bfS nx first i).take i).map acc,bfR nx first i),true)
end
section
variable {κ:Type} [DecidableEq κ] {nx:κ->List (Option κ)} {first:κ} {acc:κ->Bool} {most:Nat}
theorem xT {i:Nat} (h: ∀j,j<i->j<(bfS nx first j).length):i<=(bfS nx first i).length:=by
 cases i with
 | zero=>omega
 | succ i =>
  have h1:=h i (by omega)
  have h2:=(ee (nx:=nx) (first:=first) i).length_le
  omega
theorem F9 {S:Type} {f:S->Option (Out (AutT×Bool) S)} (hm:most<=1000000) (h1:1<=most) (st:Nat->S->Prop)
  (hs: ∀i s,st i s->(∀j,j<i->j<(bfS nx first j).length)->(bfS nx first i).length<=most->i<(bfS nx first i).length->((bfS nx first (i+1)).length>most->f s=some (.ret ((0,[],[]),false)))/\((bfS nx first (i+1)).length<=most-> ∃s',f s=some (.nxt s')/\st (i+1) s'))
  (he: ∀i s,st i s-> ¬i<(bfS nx first i).length->f s=some (.brk s)) {s:S} (h0:st 0 s) :
  (aH f ba s=some (.ret ((0,[],[]),false))/\goM nx first acc most (most+2) 0=((0,[],[]),false)) \/
  ∃N s',aH f ba s=some (.brk s')/\st N s'/\bfE nx first N/\N<=most/\goM nx first acc most (most+2) 0=((0,(bfS nx first N).map acc,bfR nx first N),true):=by
 obtain ⟨o,e,hq⟩:=dB (f:=f) (fun i s=>st i s/\(∀j,j<i->j<(bfS nx first j).length)/\(bfS nx first i).length<=most/\goM nx first acc most (most+2) 0=goM nx first acc most (most+2 - i) i)
  (fun o=>(o= .ret ((0,[],[]),false)/\goM nx first acc most (most+2) 0=((0,[],[]),false))\/ ∃N s',o= .brk s'/\st N s'/\bfE nx first N/\N<=most/\goM nx first acc most (most+2) 0=((0,(bfS nx first N).map acc,bfR nx first N),true)) most (s:=s) (by
  rintro i s hi ⟨k1,k2,k3,k4⟩
  have hle:=xT k2
  rw[show most+2 - i=(most+1 - i)+1 from by omega] at k4
  have k5:goM nx first acc most (most+1 - i+1) i=if i<(bfS nx first i).length then (if (bfS nx first (i+1)).length>most then ((0,[],[]),false) else goM nx first acc most (most+1 - i) (i+1)) else ((0,((bfS nx first i).take i).map acc,bfR nx first i),true):=rfl
  rw[k5] at k4
  by_cases c:i<(bfS nx first i).length
  ·rw[if_pos c] at k4
   obtain ⟨q1,q2⟩:=hs i s k1 k2 k3 c
   by_cases d:(bfS nx first (i+1)).length>most
   ·rw[if_pos d] at k4
    exact .inr ⟨_,q1 d,(fun s' e=>by cases e),.inl ⟨rfl,k4⟩⟩
   ·rw[if_neg d] at k4
    obtain ⟨s',e,hs'⟩:=q2 (by omega)
    exact .inl ⟨by omega,s',e,hs',fun j hj=>(by
     by_cases ej:j=i
     ·subst ej;exact c
     ·exact k2 j (by omega)),by omega,by rw[k4];congr 1;omega⟩
  ·rw[if_neg c] at k4
   refine .inr ⟨_,he i s k1 c,(fun s' e=>by cases e),.inr ⟨i,s,rfl,k1,⟨by omega,k2⟩,hi,?_⟩⟩
   rw[k4,List.take_of_length_le (by omega)]) ⟨h0,fun j hj=>by omega,by simp[bfS];omega,rfl⟩ (jd (by omega))
 rcases hq with ⟨rfl,h⟩ | ⟨N,s',rfl,h⟩
 ·exact .inl ⟨e,h⟩
 ·exact .inr ⟨N,s',e,h⟩
end
section
variable {p:AQ} {most:Nat} (hl:p.2.2.2.1.length=p.1.length) (hb:p.1.length<=1000000) (hm:most<=900000) (h1:1<=most)
include hl hb hm h1
theorem Gc {l:List Int} {acs:List Bool} {rws:List (List Int)} {i:Nat} (hi:i<l.length) (hle:l.length<=most) :
  aH (cR p (l,(i:Int),0,acs,rws)) ba (l,[],0)=some (.brk (nbS l (nxS p (nth l (i:Int))),nbR l (nxS p (nth l (i:Int))),9)):=by
 have h9:=Dl p (nth l (i:Int))
 have:=a6 (f:=cR p (l,(i:Int),0,acs,rws)) (fun k=>(nbS l ((nxS p (nth l (i:Int))).take k),nbR l ((nxS p (nth l (i:Int))).take k),(k:Int))) 9 (fun k hk=>by
  have hpre:=lE l ((nxS p (nth l (i:Int))).take k)
  have hlen:=hpre.length_le
  have hB:=Hm l ((nxS p (nth l (i:Int))).take k)
  rw[aD] at hB
  have hrl:(nbR l ((nxS p (nth l (i:Int))).take k)).length<=9:=by rw[lD,aD];omega
  unfold cR
  simp only[wD]
  rw[if_pos (by simp;omega),aE (by omega) (by omega)];simp only[aa]
  rw[oi hpre (by omega) (by omega),JD hl hb];simp only[aa]
  rw[take_one (by omega),FV,zo,Lx hk]
  simp only[aI (show k<9223372036854775807 by omega)]
  by_cases c:aft p (nth l (i:Int)) k=0
  ·rw[if_pos c,if_neg (by simp[c])];simp only[aa]
   rw[aS (by simp;omega)];rfl
  ·rw[if_neg c,if_pos (by simpa using c),Lv (by omega)];simp only[aa]
   by_cases d:aft p (nth l (i:Int)) k∈nbS l ((nxS p (nth l (i:Int))).take k)
   ·rw[if_pos d,if_neg (by simp),xO d];simp only[aa]
    rw[aS (by simp;omega)];rfl
   ·rw[if_neg d,if_pos (by decide),aS (by simp;omega),xP d];simp only[aa]
    rw[aS (by simp;omega)];simp only[nbI,we d,aa]) (by
  unfold cR
  simp) (by unfold ba;omega)
 have e9:(nxS p (nth l (i:Int))).take 9=nxS p (nth l (i:Int)):=List.take_of_length_le (by omega)
 rw[e9] at this
 exact this
theorem MS:cF p most=some (goM (nxS p) 1 (ug p) most (most+2) 0):=by
 unfold cF
 rcases F9 (nx:=nxS p) (first:=1) (acc:=ug p) (most:=most) (f:=cT p most)
  (by omega) h1 (fun i s=>s=(bfS (nxS p) 1 i,(i:Int),0,((bfS (nxS p) 1 i).take i).map (ug p),bfR (nxS p) 1 i)) (by
   rintro i s rfl hj hle hlt
   have hil:=xT hj
   have e:=Gc hl hb hm h1 (acs:=((bfS (nxS p) 1 i).take i).map (ug p)) (rws:=bfR (nxS p) 1 i) hlt hle
   have hl2:=(ee (nx:=nxS p) (first:=1) i).length_le
   constructor
   ·intro hgt
    unfold cT
    simp only
    rw[if_pos (by simp;omega),aG e,<-wm hlt]
    simp only
    rw[if_pos (by simp;omega)]
   ·intro hle2
    unfold cT
    simp only
    rw[if_pos (by simp;omega),aG e,<-wm hlt]
    simp only
    rw[if_neg (by simp;omega),aE (by omega) (by omega)];simp only[aa]
    rw[oi (ee i) (by omega) (by omega)]
    simp only[wD]
    rw[Lw];simp only[aa]
    have hr:(bfR (nxS p) 1 i).length=i:=lF hj
    rw[aS (by simp;omega)];simp only[aa]
    rw[aS (by simp;omega)];simp only[aa,aI (show i<9223372036854775807 by omega)]
    exact ⟨_,rfl,by rw[F8 hlt,Dk hlt]⟩) (by
   rintro i s rfl hn
   unfold cT
   simp only
   rw[if_neg (by simp;omega)]) (s:=([1],0,0,[],[])) rfl with ⟨e,hg⟩ | ⟨N,s',e,rfl,hN,hNm,hg⟩
 ·rw[dt e,hg]
 ·rw[aG e,hg];simp only
  rw[List.take_of_length_le (by have:=hN.1;omega)]
end
end D
namespace D
open Go.RowKit
def lk (F:List Int) (from_ to_:Int):Nat->List Int
 | 0=>F
 | i+1=>if Ki from_ i then (lk F from_ to_ i).set i (orI (nth (lk F from_ to_ i) (i:Int)) to_) else lk F from_ to_ i
theorem sK (F:List Int) (f t:Int): ∀i,(lk F f t i).length=F.length
 | 0=>rfl
 | i+1=>by
  rw[lk]
  split
  ·rw[List.length_set,sK]
  ·exact sK F f t i
theorem Hn {p:AQ} {f t:Int} (hl:p.2.2.2.1.length<=1000000):ig p f t=some (p.1,p.2.1,p.2.2.1,lk p.2.2.2.1 f t p.2.2.2.1.length,p.2.2.2.2):=by
 have hL:aH (eL f t) ba (0,p.2.2.2.1)=some (.brk ((p.2.2.2.1.length:Int),lk p.2.2.2.1 f t p.2.2.2.1.length)):=a6 (f:=eL f t) (fun i=>((i:Int),lk p.2.2.2.1 f t i)) p.2.2.2.1.length (fun i hi=>by
  have hk:=sK p.2.2.2.1 f t i
  unfold eL
  simp only
  rw[if_pos (by simp;omega),uh];simp only[aa]
  rw[lk,aI (by omega)]
  by_cases c:Ki f i=true
  ·rw[if_pos c,if_pos c,aE (by omega) (by omega)];simp only[aa,Int.toNat_natCast]
  ·rw[if_neg c,if_neg c];rfl) (by unfold eL;simp[sK]) (jd (by omega))
 unfold ig
 rw[aG hL]
def Dm (e:List Tok):Nat->Nat
 | 0=>0
 | i+1=>if (nth e (i:Int)).1=3 then Dm e i+1 else Dm e i
theorem Dn (e:List Tok): ∀i,Dm e i<=i
 | 0=>aA _
 | i+1=>by
  have:=Dn e i
  rw[Dm];split <;> omega
theorem MT {r:List Tok×Bool} (hl:r.1.length<=1000000):aH (bJ r) ba (0,0)=some (.brk ((Dm r.1 r.1.length:Int),(r.1.length:Int))):=
 a6 (f:=bJ r) (fun i=>((Dm r.1 i:Int),(i:Int))) r.1.length (fun i hi=>by
  have:=Dn r.1 i
  unfold bJ
  simp only
  rw[if_pos (by simp;omega),aE (by omega) (by omega)];simp only[aa]
  rw[Dm,aI (show i<9223372036854775807 by omega),aI (show Dm r.1 i<9223372036854775807 by omega)]
  by_cases c:(nth r.1 (i:Int)).1=3
  ·rw[if_pos (by simpa using c),if_pos c];rfl
  ·rw[if_neg (by simpa using c),if_neg c];rfl) (by unfold bJ;simp) (jd (by omega))
end D
namespace D
open Go.RowKit
end D
namespace D
open Go.RowKit
theorem JE {κ:Type} [DecidableEq κ] {l:List κ} {y:κ} (h:y∈l): ∃(q:Nat) (hq:q<l.length),nbI l (some y)=(q:Int)/\l[q] =y:=
 ⟨l.idxOf y,List.idxOf_lt_length_of_mem h,rfl,by simp⟩
theorem JF {κ:Type} [DecidableEq κ] {l:List κ} {y:κ} (h:y∉l):nbI l (some y)=(l.length:Int):=by simp only[nbI,we h]
theorem xU (xs ys:List Int) (hN:xs.length<=1048576): ∃r,jt xs ys=some r/\(r=0↔xs=ys):=by
 unfold jt
 have h0:=Lp (f:=iN xs ys) xs ys (fun i h h'=>by
  simp only[iN,jB h,jB h',if_true,bO h,bO h',aa,aI (show i<9223372036854775807 by omega)]
  by_cases h1:xs[i] < ys[i]
  ·simp[h1]
  ·by_cases h2:xs[i] > ys[i]
   ·simp[h1,h2]
   ·simp[h1,h2]) (fun i hi=>by
  simp only[iN]
  by_cases h1:i<xs.length
  ·have h2: ¬i<ys.length:=by omega
   simp[h1,h2]
  ·simp[h1]) xs.length 0 ba (by omega) (oQ _ (by omega))
 rw[show (((0:Nat):Int))=(0:Int) from rfl] at h0
 rcases h0 with ⟨r,e,h1,h2⟩ | ⟨s,e,h1⟩
 ·exact ⟨r,by rw[e];rfl,by simp[h1,h2]⟩
 ·rw[e]
  simp only[aZ]
  by_cases c1:xs.length<ys.length
  ·exact ⟨-1,by simp[c1],by simp;intro e;subst e;omega⟩
  ·by_cases c2:xs.length>ys.length
   ·exact ⟨1,by simp[c1,c2],by simp;intro e;subst e;omega⟩
   ·exact ⟨0,by simp[c1,c2],by simpa using h1 (by omega)⟩
theorem qL (xs ys:List Int) (hN:xs.length<=9223372036854775807):bm xs ys=some (decide (xs=ys)):=
 eqL (f:=bq xs ys) xs ys hN (fun i h h'=>by
  simp only[bq,jB h,if_true,bO h,bO h',aa,aI (show i<9223372036854775807 by omega)]
  by_cases c:xs[i] =ys[i] <;> simp[c]) (by simp only[bq,iC];rfl)
def ent (a:AutT) (c:List Int) (s:Int) (k:Nat):Int:=if mv a s k<0 then -1 else nth c (mv a s k)
section
variable {a:AutT} {n:Nat}
end
end D
namespace D
open Go.RowKit
section
variable {a:AutT} {n:Nat} {c:List Int}
section
variable (V:VA a n) (hn:n<=1000000) (hc:c.length=n)
include V hn hc
end
end
section
variable {a:AutT} {n:Nat} (V:VA a n) (hn:n<=1000000)
include V hn
end
end D
namespace D
open Go.RowKit
section
variable {κ:Type} [DecidableEq κ] [Inhabited κ] {nx:κ->List (Option κ)} {first:κ} {G:κ->Prop} {B N:Nat} {acc:κ->Bool}
theorem qM: ∀(l:List κ) (os:List (Option κ)),∀t∈nbR l os,-1<=t/\t<((nbS l os).length:Int)
 | l,[] =>fun t ht=>by cases ht
 | l,o::os=>fun t ht=>by
  have hp:=lE (nbL l o) os
  have hl:=hp.length_le
  rcases aw ht with rfl | ht
  ·show -1<=nbI l o/\nbI l o<((nbS (nbL l o) os).length:Int)
   cases o with
   | none=>exact ⟨by simp[nbI],by simp only[nbI];omega⟩
   | some y =>
    by_cases c:y∈l
    ·obtain ⟨q,hq,e,-⟩:=JE c
     rw[xO c] at hl
     rw[e];exact ⟨by omega,by rw[xO c];omega⟩
    ·rw[xP c] at hl
     rw[JF c];rw[au] at hl
     exact ⟨by omega,by rw[xP c];simp at hl;omega⟩
  ·exact qM (nbL l o) os t ht
theorem NA (H:NumOk nx first G B) (hN:bfE nx first N):VA ((0,(bfS nx first N).map acc,bfR nx first N):AutT) N:=by
 have h0:0<N:=by
  have:=wh (nx:=nx) (first:=first) N
  have:=(List.getElem?_eq_some_iff.1 this).1
  have:=hN.1;omega
 have key: ∀i,i<=N-> ∀r∈bfR nx first i,r.length=9/\ ∀t∈r,-1<=t/\t<(N:Int):=by
  intro i
  induction i with
  | zero=>intro _ r hr;cases hr
  | succ i ih =>
   intro hi r hr
   have hlt:=hN.2 i (by omega)
   rw[ph hlt] at hr
   rcases aB hr with hr | hr
   ·exact ih (by omega) r hr
   ·obtain rfl:=al hr
    refine ⟨by rw[lD,H.len _ (nw H.g0 H.gn i _ (List.getElem_mem hlt))],fun t ht=>?_⟩
    have:=qM _ _ t ht
    rw[<-uc hlt] at this
    have hl:=(oe (nx:=nx) (first:=first) hi).length_le
    have:=hN.1
    omega
 exact ⟨by show ((bfS nx first N).map acc).length=N;rw[List.length_map];exact hN.1.symm,⟨Int.le_refl _,by show (0:Int)<N;omega⟩,lF hN.2,fun r hr=>(key N (aA _) r hr).1,fun r hr=>(key N (aA _) r hr).2⟩
theorem JG (hlen: ∀x,(nx x).length=9) (hN:bfE nx first N):VA ((0,(bfS nx first N).map acc,bfR nx first N):AutT) N:=by
 have h0:0<N:=by
  have:=wh (nx:=nx) (first:=first) N
  have:=(List.getElem?_eq_some_iff.1 this).1
  have:=hN.1;omega
 have key: ∀i,i<=N-> ∀r∈bfR nx first i,r.length=9/\ ∀t∈r,-1<=t/\t<(N:Int):=by
  intro i
  induction i with
  | zero=>intro _ r hr;cases hr
  | succ i ih =>
   intro hi r hr
   have hlt:=hN.2 i (by omega)
   rw[ph hlt] at hr
   rcases aB hr with hr | hr
   ·exact ih (by omega) r hr
   ·obtain rfl:=al hr
    refine ⟨by rw[lD,hlen _],fun t ht=>?_⟩
    have:=qM _ _ t ht
    rw[<-uc hlt] at this
    have hl:=(oe (nx:=nx) (first:=first) hi).length_le
    have:=hN.1
    omega
 exact ⟨by show ((bfS nx first N).map acc).length=N;rw[List.length_map];exact hN.1.symm,⟨Int.le_refl _,by show (0:Int)<N;omega⟩,lF hN.2,fun r hr=>(key N (aA _) r hr).1,fun r hr=>(key N (aA _) r hr).2⟩
end
end D
namespace D
open Go.RowKit
theorem Do {κ:Type} [DecidableEq κ] {nx:κ->List (Option κ)} {first:κ} {acc:κ->Bool} {most:Nat} : ∀(f i:Nat),(∀j,j<i->j<(bfS nx first j).length)->(bfS nx first i).length<=most->goM nx first acc most f i=((0,[],[]),false)\/ ∃N,bfE nx first N/\N<=most/\goM nx first acc most f i=((0,(bfS nx first N).map acc,bfR nx first N),true)
 | 0,i,_,_=>.inl rfl
 | f+1,i,h,hl=>by
  have hle:=xT h
  rw[goM]
  by_cases c:i<(bfS nx first i).length
  ·rw[if_pos c]
   by_cases d:(bfS nx first (i+1)).length>most
   ·rw[if_pos d];exact .inl rfl
   ·rw[if_neg d]
    exact Do f (i+1) (fun j hj=>by
     by_cases e:j=i
     ·subst e;exact c
     ·exact h j (by omega)) (by omega)
  ·rw[if_neg c]
   exact .inr ⟨i,⟨by omega,h⟩,by omega,by rw[List.take_of_length_le (by omega)]⟩
end D
namespace D
open Go.RowKit
def NB (x:Tr Tok):Prop:= ∀(n:Nat) (p:AQ),(flat x).length<=n->p.2.2.2.1.length=p.1.length->p.1.length+(flat x).length<=100000->
 ∃(nu:Bool) (fi la:Int) (q:AQ),bI n p (flat x)=some ((nu,fi,la),q)/\q.2.2.2.1.length=q.1.length/\q.1.length<=p.1.length+(flat x).length
theorem Ge {x:Tr Tok} (h:WT x):NB x:=by
 refine WT.ind (p:=NB) ?_ ?_ ?_ h
 ·intro t e n p hn hF hl
  rw[xQ] at hn hl⊢
  simp only[ax,aC] at hl
  match n,hn with
  | n+1,_ =>
   rw[bI]
   have:=(gJ (A:=[]) (t:=t) (by simp)).1
   rw[List.nil_append] at this
   rw[this];simp only[aa,wD]
   rcases j2 (show 0<=ar t by omega) with ⟨k,_⟩ | ⟨k,_⟩ | ⟨_,k⟩
   ·omega
   ·omega
   rcases k with k | k | k
   ·exact ⟨false,0,0,p,by simp[k],hF,by simp⟩
   ·exact ⟨true,0,0,p,by simp[k],hF,by simp⟩
   ·refine ⟨false,rC 1 (p.1.length:Int),rC 1 (p.1.length:Int),(p.1++ [t.2.1],p.2.1,p.2.2.1,p.2.2.2.1++ [0],p.2.2.2.2),?_,by simp[hF],by simp⟩
    rw[if_neg (by simp[k]),if_pos (by simp[k]),aS (by simp;omega)];simp only[aa]
    rw[aS (by simp;omega)];rfl
 ·intro t a e wa ih n p hn hF hl
  rw[AO] at hn hl⊢
  simp only[au,ax,aC] at hn hl
  match n,hn with
  | n+1,hn =>
   rw[bI];simp only[wD]
   obtain ⟨l1,l2⟩:=gJ (A:=flat a) (t:=t) (by omega)
   rw[l1];simp only[aa]
   obtain ⟨nu,fi,la,q,hs,hq1,hq2⟩:=ih n p (by omega) hF (by omega)
   rcases JB e with ⟨k1,k2⟩ | ⟨k1,k2,k3⟩
   ·have g2:(t.1==2)=false:=by simp[k2]
    have g3:(t.1==3)=false:=by simp[k2]
    have g4:(t.1==4)=false:=by simp[k2]
    have g5:(t.1==5)=false:=by simp[k2]
    simp only[g2,g3,g4,g5,k1,Bool.false_eq_true,if_false,if_true]
    rw[l2,Int.toNat_natCast,List.take_left,chk_of (by simp only[au,ax,aC];omega)];simp only[aa]
    rw[hs];simp only[aa,wD]
    rw[Hn (by omega)];simp only[aa]
    refine ⟨true,fi,la,_,rfl,?_,?_⟩
    ·simp only[sK];exact hq1
    ·simp only[au,ax,aC];omega
   ·have g2:(t.1==2)=false:=by simp[k3]
    have g3:(t.1==3)=false:=by simp[k3]
    have g4:(t.1==4)=false:=by simp[k3]
    have g5:(t.1==5)=false:=by simp[k3]
    simp only[g2,g3,g4,g5,k1,Bool.false_eq_true,if_false]
    exact ⟨false,0,0,p,rfl,hF,by omega⟩
 ·intro t a b e wa wb iha ihb n p hn hF hl
  rw[oX] at hn hl⊢
  have hl2:((flat a++flat b)++ [t]).length<=1000000:=by omega
  obtain ⟨p1,p2,p3,p4⟩:=qJ (a:=a) (t:=t) wb hl2
  simp only[au,ax,aC] at hn hl
  match n,hn with
  | n+1,hn =>
   have hpa:=wa.pos
   have hpb:=wb.pos
   rw[bI];simp only[wD]
   obtain ⟨l1,l2⟩:=gJ (A:=flat a++flat b) (t:=t) (by rw[au];omega)
   rw[l1];simp only[aa]
   obtain ⟨nu,fi,la,q,hs,hq1,hq2⟩:=iha n p (by omega) hF (by omega)
   obtain ⟨nu2,fi2,la2,q2,hs2,hq3,hq4⟩:=ihb n q (by omega) hq1 (by omega)
   rcases j2 (show 0<=ar t by omega) with ⟨_,k⟩ | ⟨k,_⟩ | ⟨k,_⟩
   ·rcases k with k | k
    ·have g2:(t.1==2)=false:=by simp[k]
     have g3:(t.1==3)=false:=by simp[k]
     have g4:(t.1==4)=true:=by simp[k]
     have g5:(t.1==5)=false:=by simp[k]
     simp only[g2,g3,g4,g5,Bool.false_eq_true,if_false,if_true]
     rw[l2,p1,p2,chk_of (by simp only[au,ax,aC];omega)];simp only[aa]
     rw[chk_of (by simp only[au,ax,aC];omega),p3,p4,hs];simp only[aa]
     rw[chk_of (by simp only[au,ax,aC];omega)];simp only[aa,wD]
     rw[hs2];simp only[aa,wD]
     rw[Hn (by omega)];simp only[aa]
     refine ⟨nu&&nu2,if nu then orI fi fi2 else fi,if nu2 then orI la la2 else la2,(q2.1,q2.2.1,q2.2.2.1,lk q2.2.2.2.1 la fi2 q2.2.2.2.1.length,q2.2.2.2.2),?_,?_,?_⟩
     ·cases nu <;> cases nu2 <;> rfl
     ·simp only[sK];exact hq3
     ·simp only[au,ax,aC];omega
    ·have g2:(t.1==2)=false:=by simp[k]
     have g3:(t.1==3)=false:=by simp[k]
     have g4:(t.1==4)=false:=by simp[k]
     have g5:(t.1==5)=true:=by simp[k]
     simp only[g2,g3,g4,g5,Bool.false_eq_true,if_false,if_true]
     rw[l2,p1,p2,chk_of (by simp only[au,ax,aC];omega)];simp only[aa]
     rw[chk_of (by simp only[au,ax,aC];omega),p3,p4,hs];simp only[aa]
     rw[chk_of (by simp only[au,ax,aC];omega)];simp only[aa,wD]
     rw[hs2];simp only[aa,wD]
     refine ⟨nu || nu2,orI fi fi2,orI la la2,q2,?_,hq3,?_⟩
     ·cases nu <;> simp
     ·simp only[au,ax,aC];omega
   ·omega
   ·omega
theorem Dq {e:List Tok} (he:e.length<=1048576):fR e=some (AY e):=by
 have hF:=nA
 unfold fR AY
 rw[xR he];simp only[aa]
 by_cases c:(decide (e.length<=24)&&isX e)=true
 ·rw[if_pos c,if_pos c]
  rw[af] at c
  obtain ⟨x,h1,hw,rfl⟩:=Hk c.2
  have h24:(flat x).length<=24:=by simpa using c.1
  have hr:=eP hw
  rw[sJ hw,Ls hw iE (by omega) (by omega)];simp only[aa]
  by_cases c2:5000<szX x
  ·simp only[gt_iff_lt,c2,decide_true,if_true]
  ·simp only[gt_iff_lt,c2,decide_false,if_false,Bool.false_eq_true]
   have hl:=uf hw (by omega)
   rw[F7 hw iE (by omega) (by omega) (by omega)];simp only[aa]
   by_cases c3:400<(flat (oh x)).length
   ·have c3':decide (((flat (oh x)).length:Int)>400)=true:=decide_eq_true (by omega)
    simp only[c3',c3,if_true]
   ·have c3':decide (((flat (oh x)).length:Int)>400)=false:=decide_eq_false (by omega)
    simp only[c3',c3,if_false,Bool.false_eq_true]
 ·rw[if_neg c,if_neg c]
theorem xV {e:List Tok} (he:e.length<=1048576): ∃r:AQ×Bool,dy e=some r/\r.1.2.2.2.1.length=r.1.1.length/\r.1.1.length<=400:=by
 have hF:=nA
 unfold dy
 rw[Dq he];simp only[aa]
 by_cases c:(AY e).2=true
 ·obtain ⟨y,wy,ey,ly⟩:=JC c
  rw[if_pos c,aG (MT (by rw[ey];omega))]
  simp only
  by_cases d:(Dm (AY e).1 (AY e).1.length:Int)>20
  ·have d':decide ((Dm (AY e).1 (AY e).1.length:Int)>20)=true:=decide_eq_true d
   simp only[d',if_true]
   exact ⟨_,rfl,rfl,by simp⟩
  ·have d':decide ((Dm (AY e).1 (AY e).1.length:Int)>20)=false:=decide_eq_false d
   simp only[d',Bool.false_eq_true,if_false]
   rw[ey]
   obtain ⟨nu,fi,la,q,hs,hq1,hq2⟩:=Ge wy iE ([],0,0,[],false) (by omega) rfl (by simp;omega)
   rw[hs];simp only[aa]
   exact ⟨_,rfl,hq1,by simp at hq2;show q.1.length<=_;omega⟩
 ·rw[if_neg c]
  exact ⟨_,rfl,rfl,by simp⟩
theorem Dr {p:AQ} (h1:p.2.2.2.1.length=p.1.length) (h2:p.1.length<=100000): ∃r:AutT×Bool,cF p 12=some r/\(r.2=true-> ∃N,N<=12/\bfE (nxS p) 1 N/\r.1=(0,(bfS (nxS p) 1 N).map (ug p),bfR (nxS p) 1 N)/\VA r.1 N):=by
 have d1:=MS (p:=p) (most:=12) h1 (by omega) (by omega) (by omega)
 have d1:cF p 12=_:=d1
 rw[d1]
 rcases Do (nx:=nxS p) (first:=1) (acc:=ug p) (most:=12) (12+2) 0 (fun j hj=>by omega) (by simp[bfS]) with e | ⟨N,hN,hNm,e⟩
 ·exact ⟨_,rfl,fun h=>by rw[e] at h;cases h⟩
 ·rw[e]
  have V:=JG (acc:=ug p) (Dl p) hN
  exact ⟨_,rfl,fun _=>⟨N,hNm,hN,rfl,V⟩⟩
end D
namespace D
open Go.RowKit
def zt:List ByteArray:=[⟨#[97]⟩,⟨#[97,32,98,32,46]⟩,⟨#[97,32,42]⟩,⟨#[97,32,98,32,124,32,42]⟩,⟨#[97,32,97,45,32,46]⟩,⟨#[97,32,42,32,98,32,46]⟩,⟨#[97,32,98,32,42,32,46,32,99,32,46]⟩,⟨#[97,32,97,32,124,32,42]⟩,⟨#[97,32,98,32,46,32,42]⟩,⟨#[48,32,97,32,46,32,42]⟩,⟨#[97,32,49,32,46,32,98,32,46]⟩,⟨#[97,32,123,48,44,50,125]⟩,⟨#[97,32,98,32,124,32,123,49,44,51,125]⟩,⟨#[40,41]⟩,⟨#[33]⟩,⟨#[97,45,32,42,32,97,32,46]⟩,⟨#[97,32,98,45,32,46,32,42,32,99,32,124]⟩,⟨#[97,32,42,32,97,32,42,32,46]⟩,⟨#[97,32,48,32,124,32,42,32,98,32,46]⟩,⟨#[97,32,97,32,46,32,42]⟩,⟨#[97,32,98,32,46,32,98,32,97,32,46,32,124,32,42]⟩]
def Ds (t:ByteArray):Bool:=match eA t with
 | some r=>r.2&&Nat.ble 1 r.1.length&&Nat.ble r.1.length 24
 | none=>false
theorem Dt:zt.all Ds=true:=by kernel_rfl
theorem Gf {t:ByteArray} (h:t∈zt): ∃r:List Tok×Bool,eA t=some r/\r.2=true/\1<=r.1.length/\r.1.length<=24:=by
 have h1:Ds t=true:=List.all_eq_true.1 Dt t h
 unfold Ds at h1
 split at h1
 ·rename_i r hr
  rw[af,af] at h1
  exact ⟨r,hr,h1.1.1,bd h1.1.2,bd h1.2⟩
 ·cases h1
section
variable {xs:List Int} {i h:Int}
theorem JH (hl:xs.length<=1048576) (hc:gr xs i): ∃r:List Tok×Int×Int,jR (xs,i,h)=some r/\(1<=r.1.length/\r.1.length<=24)/\gr xs r.2.1:=by
 obtain ⟨r,e,h1,k⟩:=Lq (h:=h) hl hc (l:=zt) (by unfold zt;simp)
 obtain ⟨q,e2,-,h2⟩:=Gf h1
 unfold jR
 have hb:=congrArg (fun o:Option (ByteArray×Int×Int)=>Option.bind o (fun r0:ByteArray×Int×Int=>(eA r0.1).bind fun r1=>some (r1.1,r0.2.1,r0.2.2))) e
 refine ⟨(q.1,r.2.1,r.2.2),hb.trans ?_,h2,k⟩
 show (eA r.1).bind _=_
 rw[e2];rfl
theorem wo (hl:xs.length<=1048576): ∀(d n:Nat) (i h:Int),d<n->d<=3->gr xs i-> ∃r:List Tok×Int×Int,bM n (xs,i,h) (d:Int)=some r/\(1<=r.1.length/\r.1.length+1<=2 ^ (d+1))/\gr xs r.2.1
 | 0,n+1,i,h,_,_,hc=>by
  rw[bM];simp only
  rw[if_pos (by decide)]
  obtain ⟨r,e,k⟩:=ny (h:=h) hl hc (n:=12) (by omega)
  rw[e];simp only[aa]
  by_cases c:r.1=true
  ·rw[if_pos c]
   obtain ⟨q,e2,-,k2⟩:=cC (h:=r.2.2) hl k (l:=[1,2]) (by simp)
   rw[e2];simp only[aa]
   exact ⟨_,rfl,⟨aA _,aA _⟩,k2⟩
  ·rw[if_neg c]
   obtain ⟨q,e2,-,k2⟩:=cC (h:=r.2.2) hl k (l:=[0,0,2,2,1,4,3,6,7]) (by simp)
   rw[e2];simp only[aa]
   exact ⟨_,rfl,⟨aA _,aA _⟩,k2⟩
 | d+1,n+1,i,h,hd,h3,hc=>by
  have hp:2 ^ (d+1+1)=2*2 ^ (d+1):=by rw[Nat.pow_succ,Nat.mul_comm]
  have hb:2 ^ (d+1)<=8:=by
   have:d<=2:=by omega
   match d,this with
   | 0,_=>decide
   | 1,_=>decide
   | 2,_=>decide
  rw[bM];simp only
  rw[if_neg (by simp;omega)]
  have hw:IntKind.i64.wrap (((d+1:Nat):Int) - 1)=(d:Int):=by rw[be (by omega) (by omega)];omega
  rw[hw]
  obtain ⟨r,e,-,k⟩:=bS (h:=h) hl hc (n:=6) (by omega)
  rw[e];simp only[aa]
  have two: ∀(t:Tok) (i h:Int),gr xs i-> ∃r:List Tok×Int×Int,((bM n (xs,i,h) (d:Int)).bind fun r7=>(bM n (xs,r7.2.1,r7.2.2) (d:Int)).bind fun r8=>(b0 r7.1 r8.1 t).bind fun r9=>some (r9,r8.2.1,r8.2.2))=some r/\(1<=r.1.length/\r.1.length+1<=2 ^ (d+1+1))/\gr xs r.2.1:=fun t i h hc=>by
   obtain ⟨r7,e7,h7,k7⟩:=wo hl d n i h (by omega) (by omega) hc
   rw[e7];simp only[aa]
   obtain ⟨r8,e8,h8,k8⟩:=wo hl d n r7.2.1 r7.2.2 (by omega) (by omega) k7
   rw[e8];simp only[aa]
   rw[qK (by omega)];simp only[aa]
   refine ⟨_,rfl,?_,k8⟩
   simp only[au,ax,aC]
   omega
  have one: ∀(t:Tok) (i h:Int),gr xs i-> ∃r:List Tok×Int×Int,((bM n (xs,i,h) (d:Int)).bind fun r14=>(b0 r14.1 ([] :List Yq1) t).bind fun r15=>some (r15,r14.2.1,r14.2.2))=some r/\(1<=r.1.length/\r.1.length+1<=2 ^ (d+1+1))/\gr xs r.2.1:=fun t i h hc=>by
   obtain ⟨r7,e7,h7,k7⟩:=wo hl d n i h (by omega) (by omega) hc
   rw[e7];simp only[aa]
   rw[qK (by simp only[aC];omega)];simp only[aa]
   refine ⟨_,rfl,?_,k7⟩
   simp only[au,ax,aC]
   omega
  have if2: ∀(p q:Bool),(if p then (some p) else (some q):Option Bool)=some (p || q):=fun p q=>by cases p <;> rfl
  rw[if2];simp only[aa]
  by_cases c1:(r.1==0 || r.1==1)=true
  ·rw[if_pos c1]
   exact two _ _ _ k
  ·rw[if_neg c1,if2];simp only[aa]
   by_cases c2:(r.1==2 || r.1==3)=true
   ·rw[if_pos c2]
    exact two _ _ _ k
   ·rw[if_neg c2]
    by_cases c3:(r.1==4)=true
    ·rw[if_pos c3]
     exact one _ _ _ k
    ·rw[if_neg c3]
     obtain ⟨q,e2,h2,k2⟩:=bS (h:=r.2.2) hl k (n:=3) (by omega)
     rw[e2];simp only[aa]
     obtain ⟨r7,e7,h7,k7⟩:=wo hl d n q.2.1 q.2.2 (by omega) (by omega) k2
     rw[e7];simp only[aa]
     have w:IntKind.i64.wrap (IntKind.i64.wrap (1+q.1)+1)=q.1+2:=by
      rw[be (n:=1+q.1) (by omega) (by omega),be (by omega) (by omega)];omega
     obtain ⟨u,e3,-,k3⟩:=bS (h:=r7.2.2) hl k7 (n:=q.1+2) (by omega)
     rw[w,e3];simp only[aa]
     rw[qK (by simp only[aC];omega)];simp only[aa]
     refine ⟨_,rfl,?_,k3⟩
     simp only[au,ax,aC]
     omega
theorem Ly (hl:xs.length<=1048576) (hc:gr xs i): ∃r:List Tok×Int×Int,lx (xs,i,h)=some r/\(1<=r.1.length/\r.1.length<=24)/\gr xs r.2.1:=by
 have hF:=nA
 unfold lx
 simp only
 obtain ⟨r,e,k⟩:=ny (h:=h) hl hc (n:=2) (by omega)
 rw[e];simp only[aa]
 by_cases c:r.1=true
 ·rw[if_pos c]
  obtain ⟨q,e2,h2,k2⟩:=JH (h:=r.2.2) hl k
  rw[e2]
  exact ⟨_,rfl,h2,k2⟩
 ·rw[if_neg c]
  obtain ⟨q,e2,h2,k2⟩:=bS (h:=r.2.2) hl k (n:=3) (by omega)
  rw[e2];simp only[aa]
  have w:IntKind.i64.wrap (1+q.1)=(((q.1.toNat+1:Nat)):Int):=by rw[be (by omega) (by omega)];omega
  obtain ⟨u,e3,h3,k3⟩:=wo hl (q.1.toNat+1) iE q.2.1 q.2.2 (by omega) (by omega) k2
  rw[w,e3]
  refine ⟨_,rfl,⟨h3.1,?_⟩,k3⟩
  have:q.1.toNat<=2:=by omega
  have h4:=h3.2
  show u.1.length<=24
  generalize q.1.toNat=z at this h4
  match z,this with
  | 0,_=>simp at h4;omega
  | 1,_=>simp at h4;omega
  | 2,_=>simp at h4;omega
def AutD (a:AutT):Prop:=(1<=a.2.1.length/\a.2.1.length<=12)/\(1<=a.2.2.length/\a.2.2.length<=12)/\ ∀r∈a.2.2,r.length=9
theorem AutD.sm {a:AutT} (h:AutD a):Data.sm a:=⟨trivial,⟨by have:=h.1.2;omega,fun _ _=>trivial⟩,by have:=h.2.1.2;omega,fun r hr=>⟨by rw[h.2.2 r hr];decide,fun _ _=>trivial⟩⟩
theorem VA.autD {a:AutT} {n:Nat} (V:VA a n) (hn:n<=12):AutD a:=by
 have h0:=V.pos
 have h1:=V.len
 have h2:=V.nlen
 exact ⟨by omega,by omega,V.row⟩
theorem MU (hl:xs.length<=1048576) {p:List Int×Int×Int} {r0:Int×Int×Int} (hp:p.1=xs) (hr:0<=r0.1/\r0.1<4) (hc:gr xs i): ∃s,aH (dk p r0) ba (([] :List Int),0,i,h)=some (.brk s)/\s.1.length=9/\gr xs s.2.2.1:=by
 have w:IntKind.i64.wrap (1+r0.1)=1+r0.1:=be (by omega) (by omega)
 obtain ⟨s,e,h1,h2,h3⟩:=jC (f:=dk p r0) (fun j s=>s.2.1=(j:Int)/\s.1.length=j/\gr xs s.2.2.1) 9 (fun j s hj hI=>by
  obtain ⟨h1,h2,h3⟩:=hI
  unfold dk
  rw[h1,hp,if_pos (by simp;omega)]
  obtain ⟨r,e,k⟩:=ny (h:=s.2.2.2) hl h3 (n:=3) (by omega)
  rw[e];simp only[aa]
  have key: ∃q:Int×Int×Int,(if r.1 then (some ((-1),r.2.1,r.2.2)) else ((aN (xs,r.2.1,r.2.2) (IntKind.i64.wrap (1+r0.1))).bind fun r8=>some (r8.1,r8.2.1,r8.2.2)):Option (Int×Int×Int))=some q/\gr xs q.2.1:=by
   by_cases c:r.1=true
   ·rw[if_pos c];exact ⟨_,rfl,k⟩
   ·rw[if_neg c,w]
    obtain ⟨q,e2,-,k2⟩:=bS (h:=r.2.2) hl k (n:=1+r0.1) (by omega)
    rw[e2];exact ⟨_,rfl,k2⟩
  obtain ⟨q,e2,k2⟩:=key
  rw[e2];simp only[aa]
  have e4: ∃z:Int,(if decide ((j:Int)>3) then (some (-1)) else (some q.1):Option Int)=some z:=by
   by_cases c:decide ((j:Int)>3)=true
   ·exact ⟨_,if_pos c⟩
   ·exact ⟨_,if_neg c⟩
  obtain ⟨z,e4⟩:=e4
  rw[e4];simp only[aa]
  rw[aS (by simp only[ax,aC];omega)];simp only[aa]
  refine ⟨_,rfl,?_,?_,k2⟩
  ·show IntKind.i64.wrap ((j:Int)+1)=((j+1:Nat):Int)
   rw[be (by omega) (by omega)];omega
  ·simp only[au,ax,aC];omega) (fun s hI=>by
  unfold dk
  rw[hI.1,if_neg (by simp)]
  obtain ⟨a,b,c,d⟩:=s
  obtain rfl:b=_:=hI.1
  rfl) (s:=(([] :List Int),0,i,h)) ⟨rfl,rfl,hc⟩ (jd (by omega))
 exact ⟨s,e,h2,h3⟩
theorem zu (hl:xs.length<=1048576) (hc:gr xs i): ∃r:AutT×Int×Int,fx (xs,i,h)=some r/\AutD r.1/\gr xs r.2.1:=by
 unfold fx
 simp only
 obtain ⟨r0,e0,h0,k0⟩:=bS (h:=h) hl hc (n:=4) (by omega)
 rw[e0];simp only[aa]
 have w:IntKind.i64.wrap (1+r0.1)=((r0.1.toNat+1:Nat):Int):=by rw[be (by omega) (by omega)];omega
 obtain ⟨r1,e1,-,k1⟩:=bS (h:=r0.2.2) hl k0 (n:=((r0.1.toNat+1:Nat):Int)) (by omega)
 rw[w,e1];simp only[aa]
 obtain ⟨s,e,h1,h2,h3,h4,h5⟩:=jC (f:=eQ (xs,i,h) r0) (fun j s=>s.1=(j:Int)/\s.2.2.1.length=j/\s.2.2.2.1.length=j/\(∀r∈s.2.2.2.1,r.length=9)/\gr xs s.2.2.2.2.1) (r0.1.toNat+1) (fun j s hj hI=>by
  obtain ⟨h1,h2,h3,h4,h5⟩:=hI
  unfold eQ
  rw[h1,w,if_pos (by simp;omega)]
  obtain ⟨q,e,hq,k⟩:=MU (p:=(xs,i,h)) (r0:=r0) (i:=s.2.2.2.2.1) (h:=s.2.2.2.2.2) hl rfl h0 h5
  rw[aG e]
  simp only
  obtain ⟨o,e2,k2⟩:=ny (h:=q.2.2.2) hl k (n:=3) (by omega)
  rw[e2];simp only[aa]
  rw[aS (by simp only[ax,aC];omega)];simp only[aa]
  rw[aS (by simp only[ax,aC];omega)];simp only[aa]
  refine ⟨_,rfl,?_,by simp[h2],by simp[h3],fun r hr=>?_,k2⟩
  ·show IntKind.i64.wrap ((j:Int)+1)=((j+1:Nat):Int)
   rw[be (by omega) (by omega)];omega
  ·rcases aB hr with hr | hr
   ·exact h4 r hr
   ·obtain rfl:=al hr
    exact hq) (fun s hI=>by
  unfold eQ
  rw[hI.1,w,if_neg (by simp)]
  obtain ⟨a,b⟩:=s
  obtain rfl:a=_:=hI.1
  rfl) (s:=(0,r1.1,([] :List Bool),([] :List (List Int)),r1.2.1,r1.2.2)) ⟨rfl,rfl,rfl,fun r hr=>(by cases hr),k1⟩ (jd (by omega))
 rw[aG e]
 refine ⟨_,rfl,⟨?_,?_,h4⟩,h5⟩
 ·show 1<=s.2.2.1.length/\s.2.2.1.length<=12
  omega
 ·show 1<=s.2.2.2.1.length/\s.2.2.2.1.length<=12
  omega
theorem Lz (hl:xs.length<=1048576) (hc:gr xs i): ∃r:AutT×Int×Int,jl (xs,i,h)=some r/\AutD r.1/\gr xs r.2.1:=by
 unfold jl
 simp only
 obtain ⟨r,e,k⟩:=ny (h:=h) hl hc (n:=3) (by omega)
 rw[e];simp only[aa]
 by_cases c:r.1=true
 ·rw[if_pos c]
  obtain ⟨q,e2,h2,k2⟩:=zu (h:=r.2.2) hl k
  rw[e2]
  exact ⟨_,rfl,h2,k2⟩
 ·rw[if_neg c]
  obtain ⟨q,e2,h2,k2⟩:=Ly (h:=r.2.2) hl k
  rw[e2];simp only[aa]
  obtain ⟨p,e3,p1,p2⟩:=xV (e:=q.1) (by omega)
  rw[e3];simp only[aa]
  obtain ⟨a,e4,h4⟩:=Dr (p:=p.1) p1 (by omega)
  have e4:cF (p.1.1,p.1.2.1,p.1.2.2.1,p.1.2.2.2.1,p.1.2.2.2.2) 12=some a:=e4
  rw[e4];simp only[aa]
  by_cases c2:a.2=true
  ·rw[if_pos c2]
   obtain ⟨N,hN,-,-,V⟩:=h4 c2
   exact ⟨_,rfl,V.autD hN,k2⟩
  ·rw[if_neg c2]
   obtain ⟨u,e5,h5,k5⟩:=zu (h:=q.2.2) hl k2
   rw[e5]
   exact ⟨_,rfl,h5,k5⟩
theorem MV (hl:xs.length<=1048576) (hc:gr xs i): ∃r:AutT×Int×Int,jm (xs,i,h)=some r/\Data.sm r.1/\gr xs r.2.1:=by
 unfold jm
 simp only
 obtain ⟨a,e,ha,k⟩:=Lz (h:=h) hl hc
 rw[e];simp only[aa]
 obtain ⟨q,e2,-,k2⟩:=bS (h:=a.2.2) hl k (n:=14) (by omega)
 rw[e2];simp only[aa]
 have hsm:=ha.sm
 obtain ⟨⟨hl1,hl2⟩,⟨hl3,hl4⟩,hr⟩:=ha
 have hg:aU a.1.2.2 0=some (nth a.1.2.2 0):=aE (by omega) (by omega)
 have h9:(nth a.1.2.2 0).length=9:=hr _ (bK (by omega) (by omega))
 by_cases c0:(q.1==0)=true
 ·rw[if_pos c0]
  obtain ⟨r,e3,-,k3⟩:=cC (h:=q.2.2) hl k2 (l:=[(-1),12,1]) (by simp)
  rw[e3];simp only[aa]
  exact ⟨_,rfl,hsm,k3⟩
 ·rw[if_neg c0]
  by_cases c1:(q.1==1)=true
  ·rw[if_pos c1,aS (by simp only[ax,aC];omega)];simp only[aa]
   exact ⟨_,rfl,⟨trivial,⟨by simp;omega,fun _ _=>trivial⟩,hsm.2.2⟩,k2⟩
  ·rw[if_neg c1]
   by_cases c2:(q.1==2)=true
   ·rw[if_pos c2,hg];simp only[aa]
    obtain ⟨r,e3,-,k3⟩:=cC (h:=q.2.2) hl k2 (l:=[(-2),12,0]) (by simp)
    rw[e3];simp only[aa]
    rw[aE (by omega) (by omega)];simp only[aa]
    refine ⟨_,rfl,⟨trivial,hsm.2.1,?_,fun x hx=>?_⟩,k3⟩
    ·show (List.set _ _ _).length<=_
     rw[List.length_set];omega
    ·rcases List.mem_or_eq_of_mem_set hx with hx | rfl
     ·exact hsm.2.2.2 x hx
     ·exact ⟨by rw[List.length_set,h9];decide,fun _ _=>trivial⟩
   ·rw[if_neg c2]
    by_cases c3:(q.1==3)=true
    ·rw[if_pos c3,hg];simp only[aa]
     have hk:chk (0<((a.1.2.2.set 0 ([] :List Int)).length:Int))=some ():=by unfold chk;rw[if_pos (by rw[List.length_set];omega)]
     have hk2:chk (And ((0:Int)<=8) (8<=((nth a.1.2.2 0).length:Int)))=some ():=by unfold chk;rw[if_pos (by rw[h9];decide)]
     rw[hk,hk2];simp only[aa]
     refine ⟨_,rfl,⟨trivial,hsm.2.1,?_,fun x hx=>?_⟩,k2⟩
     ·show (List.set _ _ _).length<=_
      rw[List.length_set];omega
     ·rcases List.mem_or_eq_of_mem_set hx with hx | rfl
      ·exact hsm.2.2.2 x hx
      ·exact ⟨by rw[aD];omega,fun _ _=>trivial⟩
    ·rw[if_neg c3];simp only[aa]
     exact ⟨_,rfl,hsm,k2⟩
end
end D
namespace D
open Go.RowKit
abbrev GrT:=(List Int)×(List Yq1)
theorem JI {R:Type} {f:Int->Option (Out R Int)} (N:Nat) (p:Nat->Prop) [DecidablePred p] (r:R) (hN:N<=9223372036854775807)
  (h: ∀i:Nat,i<N->f (i:Int)=some (if p i then .nxt ((i+1:Nat):Int) else .ret r)) (he:f (N:Int)=some (.brk (N:Int))) :
  (aH f ba 0=some (.brk (N:Int))/\ ∀i,i<N->p i)\/(aH f ba 0=some (.ret r)/\ ¬ ∀i,i<N->p i):=by
 obtain ⟨o,e,hq⟩:=dB (f:=f) (fun i s=>s=(i:Int)/\ ∀j:Nat,j<i->p j) (fun o=>(o= .brk (N:Int)/\ ∀i,i<N->p i)\/(o= .ret r/\ ¬ ∀i,i<N->p i)) N (s:=0) (by
  rintro i s hi ⟨rfl,hp⟩
  by_cases hl:i<N
  ·by_cases c:p i
   ·refine .inl ⟨hl,_,by rw[h i hl,if_pos c],rfl,fun j hj=>?_⟩
    by_cases e:j=i
    ·subst e;exact c
    ·exact hp j (by omega)
   ·exact .inr ⟨_,by rw[h i hl,if_neg c],(fun s' e=>by cases e),.inr ⟨rfl,fun hx=>c (hx i hl)⟩⟩
  ·obtain rfl:i=N:=by omega
   exact .inr ⟨_,he,(fun s' e=>by cases e),.inl ⟨rfl,hp⟩⟩) ⟨rfl,by omega⟩ (jd hN)
 rcases hq with ⟨rfl,hq⟩ | ⟨rfl,hq⟩
 ·exact .inl ⟨e,hq⟩
 ·exact .inr ⟨e,hq⟩
structure GOk (g:GrT):Prop where
 n1:1<=g.1.length
 n5:g.1.length<=5
 m:g.2.length<=12
 val: ∀v∈g.1,0<=v/\v<=2
 edge: ∀e∈g.2,(0<=e.2.1/\e.2.1<g.1.length)/\(0<=e.2.2.1/\e.2.2.1<g.1.length)/\0<=e.2.2.2/\e.2.2.2<=2
 asc: ∀i:Nat,i+1<g.2.length->(nth g.2 i).1<(nth g.2 ((i+1:Nat):Int)).1
def edgeP (e:Int×Int×Int×Int) (n:Int):Prop:=(1<=e.1/\e.1<=99)/\(0<=e.2.1/\e.2.1<=n - 1)/\(0<=e.2.2.1/\e.2.2.1<=n - 1)/\0<=e.2.2.2/\e.2.2.2<=2
instance (e n):Decidable (edgeP e n):=by unfold edgeP;infer_instance
theorem LA (e:Int×Int×Int×Int) {n:Nat} (hn:n<=1048576):jo e (n:Int)=some (decide (edgeP e n)):=by
 unfold jo edgeP
 simp only[Hi,aa,jD (show n<=9223372036854775807 by omega)]
 by_cases c1:1<=e.1/\e.1<=99 <;> by_cases c2:0<=e.2.1/\e.2.1<=(n:Int) - 1 <;> by_cases c3:0<=e.2.2.1/\e.2.2.1<=(n:Int) - 1 <;> simp[c1,c2,c3]
def JJ (g:GrT):Prop:=GOk g/\ ∀e∈g.2,1<=e.1/\e.1<=99
theorem zw (g:GrT) (h1:g.1.length<=1048576) (h2:g.2.length<=1048576): ∃b,bf g=some b/\(b=true↔JJ g):=by
 unfold bf
 have k0:=JI (f:=cg g) g.1.length (fun i=>0<=nth g.1 i/\nth g.1 i<=2) false (by omega) (fun i hi=>by
  unfold cg
  rw[if_pos (by simp;omega),aE (by omega) (by omega)];simp only[aa,Hi,decide_eq_true_eq]
  split
  ·rw[aI (by omega)]
  ·rfl) (by unfold cg;rw[if_neg (by simp)])
 have k1:=JI (f:=bA g) g.2.length (fun i=>edgeP (nth g.2 i) g.1.length/\(0<i->(nth g.2 ((i:Int) - 1)).1<(nth g.2 i).1)) false (by omega) (fun i hi=>by
  unfold bA
  rw[if_pos (by simp;omega),aE (by omega) (by omega)];simp only[aa]
  have e1:=LA (nth g.2 (i:Int)) h1
  have e1:jo ((nth g.2 (i:Int)).1,(nth g.2 (i:Int)).2.1,(nth g.2 (i:Int)).2.2.1,(nth g.2 (i:Int)).2.2.2) (g.1.length:Int)=_:=e1
  rw[e1];simp only[aa,decide_eq_true_eq]
  by_cases c1:edgeP (nth g.2 (i:Int)) g.1.length
  ·rw[if_pos c1]
   by_cases c2:0<i
   ·rw[if_pos (by omega),jD (by omega),aE (by omega) (by omega)];simp only[aa]
    by_cases c3:(nth g.2 ((i:Int) - 1)).1<(nth g.2 (i:Int)).1
    ·rw[if_neg (by omega),if_pos ⟨c1,fun _=>c3⟩,aI (by omega)]
    ·rw[if_pos (by omega),if_neg (fun h=>c3 (h.2 c2))]
   ·rw[if_neg (by omega),if_pos ⟨c1,fun h=>absurd h c2⟩,aI (by omega)]
  ·rw[if_neg c1,if_neg (fun h=>c1 h.1)]) (by unfold bA;rw[if_neg (by simp)])
 rcases k0 with ⟨k0,j0⟩ | ⟨k0,j0⟩
 ·rw[aG k0]
  rcases k1 with ⟨k1,j1⟩ | ⟨k1,j1⟩
  ·rw[aG k1,Hi];simp only[aa,decide_eq_true_eq]
   split
   ·rename_i c
    refine ⟨_,rfl,fun hb=>?_,fun G=>decide_eq_true (by have:=G.1.m;omega)⟩
    have hb:=of_decide_eq_true hb
    refine ⟨⟨by omega,by omega,by omega,fun v hv=>?_,fun e he=>?_,fun i hi=>?_⟩,fun e he=>?_⟩
    rotate_left 3
    ·obtain ⟨i,hi,rfl⟩:=qI he
     exact (j1 i hi).1.1
    ·obtain ⟨i,hi,rfl⟩:=qI hv
     exact j0 i hi
    ·obtain ⟨i,hi,rfl⟩:=qI he
     obtain ⟨a1,a2,a3,a4⟩:=(j1 i hi).1
     exact ⟨⟨a2.1,by omega⟩,⟨a3.1,by omega⟩,a4⟩
    ·have:=(j1 (i+1) hi).2 (by omega)
     rwa [show (((i+1:Nat):Int) - 1)=(i:Int) from by omega] at this
   ·rename_i c
    exact ⟨false,rfl,(fun h=>by cases h),fun G=>absurd (by have:=G.1.n1;have:=G.1.n5;omega) c⟩
  ·rw[dt k1]
   refine ⟨false,rfl,(fun h=>by cases h),fun G=>absurd (fun i hi=>?_) j1⟩
   have hm:=bK (xs:=g.2) (i:=(i:Int)) (by omega) (by omega)
   obtain ⟨e1,e2,e3,e4⟩:=G.1.edge _ hm
   refine ⟨⟨G.2 _ hm,⟨e1.1,by omega⟩,⟨e2.1,by omega⟩,e3,e4⟩,fun h0=>?_⟩
   have:=G.1.asc (i - 1) (by omega)
   rwa [show ((i - 1:Nat):Int)=(i:Int) - 1 from by omega,show (((i - 1)+1:Nat):Int)=(i:Int) from by omega] at this
 ·rw[dt k0]
  exact ⟨false,rfl,(fun h=>by cases h),fun G=>absurd (fun i hi=>G.1.val _ (bK (by omega) (by omega))) j0⟩
theorem GOk.lt {g:GrT} (G:GOk g) {i j:Nat} (h:i<j) (hj:j<g.2.length):(nth g.2 (i:Int)).1<(nth g.2 (j:Int)).1:=by
 induction h with
 | refl=>exact G.asc i hj
 | step h ih =>
  rename_i m
  have h1:=ih (by omega)
  have h2:=G.asc m hj
  exact Int.lt_trans h1 h2
end D
namespace D
open Go.RowKit
section
variable {xs:List Int} {i h:Int}
theorem LB (hl:xs.length<=1048576) {p:List Int×Int×Int} (hp:p.1=xs) (hc:gr xs i) {n:Int} (hn:0<=n/\n<=5): ∃s:Int×Int×Int×List Int×List Yq1,aH (eM p) ba (n,i,h,([] :List Int),([] :List Yq1))=some (.brk s)/\s.2.2.2.1.length=n.toNat/\s.2.2.2.2= [] /\gr xs s.2.1:=by
 obtain ⟨s,e,h1,h2,h3,h4⟩:=jC (f:=eM p) (fun j s=>s.1=n - (j:Int)/\s.2.2.2.1.length=j/\s.2.2.2.2= [] /\gr xs s.2.1) n.toNat (fun j s hj hI=>by
  obtain ⟨h1,h2,h3,h4⟩:=hI
  unfold eM
  rw[h1,hp,if_pos (by simp;omega)]
  obtain ⟨r,e,-,k⟩:=bS (h:=s.2.2.1) hl h4 (n:=3) (by omega)
  rw[e];simp only[aa]
  rw[aS (by simp only[ax,aC];omega)];simp only[aa]
  refine ⟨_,rfl,?_,by simp[h2],h3,k⟩
  show IntKind.i64.wrap (n - (j:Int) - 1)=n - ((j+1:Nat):Int)
  rw[be (by omega) (by omega)];omega) (fun s hI=>by
  unfold eM
  rw[hI.1,if_neg (by simp;omega)]
  obtain ⟨a,b⟩:=s
  obtain rfl:a=_:=hI.1
  rfl) (s:=(n,i,h,([] :List Int),([] :List Yq1))) ⟨by show n=n - 0;omega,rfl,rfl,hc⟩ (jd (by omega))
 exact ⟨s,e,h2,h3,h4⟩
def GrD (g:GrT):Prop:=(1<=g.1.length/\g.1.length<=5)/\g.2.length<=11
theorem GrD.sm {g:GrT} (h:GrD g):Data.sm g:=⟨⟨by have:=h.1.2;omega,fun _ _=>trivial⟩,by have:=h.2;omega,fun _ _=>⟨trivial,trivial,trivial,trivial⟩⟩
theorem Du (hl:xs.length<=1048576) (hc:gr xs i): ∃r:GrT×Int×Int,ij (xs,i,h)=some r/\GrD r.1/\gr xs r.2.1:=by
 unfold ij
 simp only
 obtain ⟨r0,e0,h0,k0⟩:=cC (h:=h) hl hc (l:=[2,3,4,4,5]) (by simp)
 rw[e0];simp only[aa]
 have h0:2<=r0.1/\r0.1<=5:=by simp at h0;omega
 obtain ⟨s,e,h1,h2,h3⟩:=LB (p:=(xs,i,h)) (h:=r0.2.2) hl rfl k0 (n:=r0.1) (by omega)
 rw[aG e]
 obtain ⟨r10,e10,h10,k10⟩:=cC (h:=s.2.2.1) hl h3 (l:=[4,8,11]) (by simp)
 rw[e10];simp only[aa]
 have h10:4<=r10.1/\r10.1<=11:=by simp at h10;omega
 obtain ⟨r11,e11,h11,k11⟩:=bS (h:=r10.2.2) hl k10 (n:=r10.1) (by omega)
 rw[e11];simp only[aa]
 obtain ⟨q,eq,q1,q2,q3,q4⟩:=jC (f:=fS (xs,i,h)) (fun j z=>z.2.1=r11.1 - (j:Int)/\z.2.2.2.2.1=s.2.2.2.1/\z.2.2.2.2.2.length=j/\gr xs z.2.2.1) r11.1.toNat (fun j z hj hI=>by
  obtain ⟨z1,z2,z3,z4⟩:=hI
  unfold fS
  rw[z1,z2,if_pos (by simp;omega)]
  obtain ⟨a,ea,-,ka⟩:=bS (h:=z.2.2.2.1) hl z4 (n:=3) (by omega)
  rw[ea];simp only[aa]
  obtain ⟨b,eb,-,kb⟩:=bS (h:=a.2.2) hl ka (n:=(s.2.2.2.1.length:Int)) (by omega)
  rw[eb];simp only[aa]
  obtain ⟨c,ec,-,kc⟩:=bS (h:=b.2.2) hl kb (n:=(s.2.2.2.1.length:Int)) (by omega)
  rw[ec];simp only[aa]
  obtain ⟨d,ed,-,kd⟩:=cC (h:=c.2.2) hl kc (l:=[0,0,1,2]) (by simp)
  rw[ed];simp only[aa]
  rw[aS (by simp only[ax,aC];omega)];simp only[aa]
  refine ⟨_,rfl,?_,rfl,by simp[z3],kd⟩
  show IntKind.i64.wrap (r11.1 - (j:Int) - 1)=r11.1 - ((j+1:Nat):Int)
  rw[be (by omega) (by omega)];omega) (fun z hI=>by
  unfold fS
  rw[hI.1,if_neg (by simp;omega)]
  obtain ⟨a,b,c⟩:=z
  obtain rfl:b=_:=hI.1
  rfl) (s:=(0,r11.1,r11.2.1,r11.2.2,s.2.2.2.1,s.2.2.2.2)) ⟨by show r11.1=r11.1 - 0;omega,rfl,by rw[h2];rfl,k11⟩ (jd (by omega))
 rw[aG eq]
 refine ⟨_,rfl,⟨?_,?_⟩,q4⟩
 ·show 1<=q.2.2.2.2.1.length/\q.2.2.2.2.1.length<=5
  rw[q2];omega
 ·show q.2.2.2.2.2.length<=11
  omega
theorem LC (hl:xs.length<=1048576) (hc:gr xs i): ∃r:GrT×Int×Int,kI (xs,i,h)=some r/\Data.sm r.1/\gr xs r.2.1:=by
 unfold kI
 simp only
 obtain ⟨g,e,hg,k⟩:=Du (h:=h) hl hc
 rw[e];simp only[aa]
 obtain ⟨q,e2,-,k2⟩:=bS (h:=g.2.2) hl k (n:=14) (by omega)
 rw[e2];simp only[aa]
 have hsm:=hg.sm
 obtain ⟨⟨hl1,hl2⟩,hl3⟩:=hg
 by_cases c0:(q.1==0)=true
 ·rw[if_pos c0]
  obtain ⟨r,e3,-,k3⟩:=cC (h:=q.2.2) hl k2 (l:=[(-1),3,2]) (by simp)
  rw[e3];simp only[aa]
  rw[aE (by omega) (by omega)];simp only[aa]
  exact ⟨_,rfl,⟨⟨by rw[List.length_set];omega,fun _ _=>trivial⟩,hsm.2⟩,k3⟩
 ·rw[if_neg c0]
  by_cases c1:(q.1==1)=true
  ·rw[if_pos c1]
   obtain ⟨r,e3,-,k3⟩:=cC (h:=q.2.2) hl k2 (l:=[0,1,99,100]) (by simp)
   rw[e3];simp only[aa]
   obtain ⟨r4,e4,-,k4⟩:=bS (h:=r.2.2) hl k3 (n:=6) (by omega)
   rw[e4];simp only[aa]
   obtain ⟨r5,e5,-,k5⟩:=bS (h:=r4.2.2) hl k4 (n:=6) (by omega)
   rw[e5];simp only[aa]
   obtain ⟨r6,e6,-,k6⟩:=bS (h:=r5.2.2) hl k5 (n:=4) (by omega)
   rw[e6];simp only[aa]
   rw[aS (by simp only[ax,aC];omega)];simp only[aa]
   exact ⟨_,rfl,⟨hsm.1,by simp;omega,fun _ _=>⟨trivial,trivial,trivial,trivial⟩⟩,k6⟩
  ·rw[if_neg c1]
   by_cases c2:(q.1==2)=true
   ·rw[if_pos c2];simp only[aa]
    exact ⟨_,rfl,⟨⟨Nat.zero_le _,fun _ h=>by cases h⟩,hsm.2⟩,k2⟩
   ·rw[if_neg c2];simp only[aa]
    exact ⟨_,rfl,hsm,k2⟩
theorem LD (hl:xs.length<=1048576) (hc:gr xs i): ∃r:GrT×AutT×Int×Int,jS (xs,i,h)=some r/\Data.sm r.1/\Data.sm r.2.1/\gr xs r.2.2.1:=by
 unfold jS
 simp only
 obtain ⟨g,e,hg,k⟩:=Du (h:=h) hl hc
 rw[e];simp only[aa]
 obtain ⟨a,e1,ha,k1⟩:=Lz (h:=g.2.2) hl k
 rw[e1];simp only[aa]
 obtain ⟨o,e2,k2⟩:=ny (h:=a.2.2) hl k1 (n:=16) (by omega)
 rw[e2];simp only[aa]
 have key: ∃q:Int×Int×List Int×List Yq1,(if o.1 then ((kI (xs,o.2.1,o.2.2)).bind fun r3=>some (r3.2.1,r3.2.2,r3.1.1,r3.1.2)) else (some (o.2.1,o.2.2,g.1.1,g.1.2)):Option (Int×Int×List Int×List Yq1))=some q/\Data.sm ((q.2.2.1,q.2.2.2):GrT)/\gr xs q.1:=by
  by_cases c:o.1=true
  ·rw[if_pos c]
   obtain ⟨u,e3,h3,k3⟩:=LC (h:=o.2.2) hl k2
   rw[e3];exact ⟨_,rfl,h3,k3⟩
  ·rw[if_neg c];exact ⟨_,rfl,hg.sm,k2⟩
 obtain ⟨q,e3,h3,k3⟩:=key
 rw[e3];simp only[aa]
 obtain ⟨o2,e4,k4⟩:=ny (h:=q.2.1) hl k3 (n:=16) (by omega)
 rw[e4];simp only[aa]
 have key: ∃z:Int×Int×Int×List Bool×List (List Int),(if o2.1 then ((jm (xs,o2.2.1,o2.2.2)).bind fun r6=>some (r6.2.1,r6.2.2,r6.1.1,r6.1.2.1,r6.1.2.2)) else (some (o2.2.1,o2.2.2,a.1.1,a.1.2.1,a.1.2.2)):Option (Int×Int×Int×List Bool×List (List Int)))=some z/\Data.sm ((z.2.2.1,z.2.2.2.1,z.2.2.2.2):AutT)/\gr xs z.1:=by
  by_cases c:o2.1=true
  ·rw[if_pos c]
   obtain ⟨u,e5,h5,k5⟩:=MV (h:=o2.2.2) hl k4
   rw[e5];exact ⟨_,rfl,h5,k5⟩
  ·rw[if_neg c];exact ⟨_,rfl,ha.sm,k4⟩
 obtain ⟨z,e5,h5,k5⟩:=key
 rw[e5]
 exact ⟨_,rfl,h3,h5,k5⟩
theorem LF (hl:xs.length<=1048576) (hc:gr xs i) (g:GrT): ∃r:Int×Int×Int,jn (xs,i,h) g=some r/\gr xs r.2.1:=by
 unfold jn
 simp only
 obtain ⟨r,e,k⟩:=ny (h:=h) hl hc (n:=14) (by omega)
 rw[e];simp only[aa]
 by_cases c:r.1=true
 ·rw[if_pos c]
  obtain ⟨q,e2,-,k2⟩:=cC (h:=r.2.2) hl k (l:=[(-1),5,9223372036854775807]) (by simp)
  rw[e2]
  exact ⟨_,rfl,k2⟩
 ·rw[if_neg c]
  obtain ⟨q,e2,-,k2⟩:=bS (h:=r.2.2) hl k (n:=Max.max 1 (g.1.length:Int)) (by omega)
  rw[e2]
  exact ⟨_,rfl,k2⟩
theorem NP (hl:xs.length<=1048576) (hc:gr xs i) (g:GrT): ∃r:Int×Int×Int,na (xs,i,h) g=some r/\gr xs r.2.1:=by
 unfold na
 simp only
 by_cases c:(g.2.length:Int)>0
 ·rw[if_pos (by simpa using c)]
  obtain ⟨r,e,k⟩:=ny (h:=h) hl hc (n:=6) (by omega)
  rw[e];simp only[aa]
  by_cases c2:r.1=true
  ·rw[if_pos c2]
   obtain ⟨q,e2,-,k2⟩:=cC (h:=r.2.2) hl k (l:=[0,1,50,(-1)]) (by simp)
   rw[e2]
   exact ⟨_,rfl,k2⟩
  ·rw[if_neg c2]
   obtain ⟨q,e2,h2,k2⟩:=bS (h:=r.2.2) hl k (n:=(g.2.length:Int)) c
   rw[e2];simp only[aa]
   rw[aE h2.1 h2.2]
   exact ⟨_,rfl,k2⟩
 ·rw[if_neg (by simpa using c)]
  obtain ⟨q,e2,-,k2⟩:=cC (h:=h) hl hc (l:=[0,1,50,(-1)]) (by simp)
  rw[e2]
  exact ⟨_,rfl,k2⟩
end
end D
namespace D
open Go.RowKit
theorem nB (m:Nat):BitVec.ofInt 64 (m:Int)=BitVec.ofNat 64 m:=by simp
theorem Dv {m n:Nat} (hm:m<2 ^ 62) (hn:n<2 ^ 62):lZ (m:Int) (n:Int)=((m &&& n:Nat):Int):=by
 unfold lZ
 rw[nB,nB,BitVec.toNat_and,BitVec.toNat_ofNat,BitVec.toNat_ofNat,Nat.mod_eq_of_lt (by omega),Nat.mod_eq_of_lt (by omega)]
 have:m &&& n<=m:=Nat.and_le_left
 exact be (by omega) (by omega)
theorem Dw {m n:Nat} (hm:m<2 ^ 62) (hn:n<2 ^ 62):orI (m:Int) (n:Int)=((m ||| n:Nat):Int):=by
 unfold orI
 rw[nB,nB,BitVec.toNat_or,BitVec.toNat_ofNat,BitVec.toNat_ofNat,Nat.mod_eq_of_lt (by omega),Nat.mod_eq_of_lt (by omega)]
 have:m ||| n<2 ^ 62:=Nat.or_lt_two_pow hm hn
 exact be (by omega) (by omega)
theorem ui {m i:Nat} (hi:i<64):jc (m:Int) (i:Int)=((m >>> i:Nat):Int):=by
 unfold jc
 rw[show min (i:Int).toNat 64=i from by simp;omega,Nat.shiftRight_eq_div_pow,Int.fdiv_eq_ediv_of_nonneg _ (by exact_mod_cast Nat.zero_le _)]
 simp
theorem uj {i:Nat} (hi:i<62):rC 1 (i:Int)=((2 ^ i:Nat):Int):=by
 unfold rC
 rw[show min (i:Int).toNat 64=i from by simp;omega,Int.one_mul]
 have:2 ^ i<2 ^ 62:=Nat.pow_lt_pow_right (by decide) hi
 rw[show ((2:Int) ^ i)=((2 ^ i:Nat):Int) from by simp]
 generalize 2 ^ i=z at this
 exact be (by omega) (by omega)
theorem xW {m i:Nat} (hm:m<2 ^ 62) (hi:i<64):((lZ (jc (m:Int) (i:Int)) 1)==1)=m.testBit i:=by
 have h1:m >>> i<2 ^ 62:=Nat.lt_of_le_of_lt (by rw[Nat.shiftRight_eq_div_pow];exact Nat.div_le_self _ _) hm
 rw[ui hi,show (1:Int)=((1:Nat):Int) from rfl,Dv h1 (by decide),Nat.testBit,Nat.and_comm]
 have e:m >>> i &&& 1=m >>> i % 2:=Nat.and_one_is_mod _
 rw[Nat.and_comm 1,e]
 rcases Nat.mod_two_eq_zero_or_one (m >>> i) with h | h <;> rw[h] <;> rfl
theorem Gg {m i:Nat} (hm:m<2 ^ 62) (hi:i<64):((lZ (jc (m:Int) (i:Int)) 1)==0)= !m.testBit i:=by
 have h1:m >>> i<2 ^ 62:=Nat.lt_of_le_of_lt (by rw[Nat.shiftRight_eq_div_pow];exact Nat.div_le_self _ _) hm
 rw[ui hi,show (1:Int)=((1:Nat):Int) from rfl,Dv h1 (by decide),Nat.testBit,Nat.and_comm]
 have e:m >>> i &&& 1=m >>> i % 2:=Nat.and_one_is_mod _
 rw[Nat.and_comm 1,e]
 rcases Nat.mod_two_eq_zero_or_one (m >>> i) with h | h <;> rw[h] <;> rfl
def fb (m k:Nat):List Int:=((List.range k).filter fun i=>m.testBit i).map fun (i:Nat)=>(i:Int)
theorem gP (m k:Nat):fb m (k+1)=if m.testBit k then fb m k++ [(k:Int)] else fb m k:=by
 unfold fb
 rw[List.range_succ,List.filter_append,aF]
 by_cases h:m.testBit k=true
 ·simp[h]
 ·simp[h]
theorem lG {m k l:Nat} (h:m<2 ^ k) (hl:k<=l):fb m l=fb m k:=by
 induction hl with
 | refl=>rfl
 | step hl ih =>
  rw[gP,Nat.testBit_lt_two_pow (az h (Nat.pow_le_pow_right (by decide) hl)),ih];rfl
theorem Dx {m k:Nat} {x:Int} :x∈fb m k↔ ∃i:Nat,i<k/\m.testBit i=true/\x=(i:Int):=by
 unfold fb
 simp only[List.mem_map,List.mem_filter,List.mem_range]
 constructor
 ·rintro ⟨i,⟨h1,h2⟩,rfl⟩;exact ⟨i,h1,h2,rfl⟩
 ·rintro ⟨i,h1,h2,rfl⟩;exact ⟨i,⟨h1,h2⟩,rfl⟩
theorem kV (m k:Nat):(fb m k).length<=k:=by
 unfold fb;rw[List.length_map];exact Nat.le_trans (List.length_filter_le _ _) (by simp)
theorem sL {m:Nat} : ∀ {k:Nat},(∀i,i<k->m.testBit i=false)->fb m k= []
 | 0,_=>rfl
 | k+1,h=>by rw[gP,h k (by omega),sL fun i hi=>h i (by omega)];rfl
theorem Dy {s k:Nat} (h:s<k):fb (2 ^ s) k= [(s:Int)]:=by
 rw[lG (k:=s+1) (Nat.pow_lt_pow_right (by decide) (by omega)) h,gP,Nat.testBit_two_pow,sL fun i hi=>by rw[Nat.testBit_two_pow];simp;omega]
 simp
theorem rA (m i j:Nat):(m ||| 2 ^ i).testBit j=(m.testBit j || decide (i=j)):=by
 rw[Nat.testBit_or,Nat.testBit_two_pow]
theorem qN {m i k:Nat} (h:m<2 ^ k) (hi:i<k):m ||| 2 ^ i<2 ^ k:=Nat.or_lt_two_pow h (Nat.pow_lt_pow_right (by decide) hi)
theorem Gh {m i:Nat} (h:m >>> i=0):m<2 ^ i:=by
 rw[Nat.shiftRight_eq_div_pow] at h
 exact (Nat.div_eq_zero_iff_lt (Nat.two_pow_pos i)).1 h
end D
namespace D
open Go.RowKit
theorem p62 {n:Nat} (h:n<=30):2 ^ n<=2 ^ 62:=Nat.pow_le_pow_right (by decide) (by omega)
theorem qO {M:Nat} (hM:M<2 ^ 30):fK (M:Int)=some (fb M 30):=by
 have h62:M<2 ^ 62:=az hM (p62 (by decide))
 obtain ⟨o,e,hq⟩:=dB (f:=jb (M:Int)) (fun i s=>s=(fb M i,(i:Int))) (fun o=> ∃k,o= .brk (fb M 30,k)) 30 (s:=([],0)) (by
  rintro i s hi rfl
  unfold jb
  have e0:chk ((0:Int)<=(i:Int))=some ():=by unfold chk;rw[if_pos (by omega)]
  simp only[e0,aa]
  by_cases c:M >>> i=0
  ·refine .inr ⟨.brk (fb M i,(i:Int)),?_,(fun s' e=>by cases e),(i:Int),by rw[lG (Gh c) hi]⟩
   rw[ui (by omega),c];rfl
  ·have hi':i<30:=by
    rcases Nat.lt_or_ge i 30 with h | h
    ·exact h
    ·exfalso;apply c
     rw[Nat.shiftRight_eq_div_pow]
     exact Nat.div_eq_of_lt (az hM (Nat.pow_le_pow_right (by decide) h))
   refine .inl ⟨hi',(fb M (i+1),((i+1:Nat):Int)),?_,rfl⟩
   have c':((jc (M:Int) (i:Int)) !=0)=true:=by
    rw[ui (by omega)]
    simp only[bne_iff_ne,ne_eq]
    omega
   rw[if_pos c',xW h62 (by omega),gP,aI (by omega)]
   by_cases b:M.testBit i=true
   ·rw[if_pos b,if_pos b,aS (by have:=kV M i;simp;omega)];rfl
   ·rw[if_neg b,if_neg b];rfl) rfl (by unfold ba;omega)
 obtain ⟨k,rfl⟩:=hq
 unfold fK
 exact aG e
def ClI (n:Nat) (i:Nat) (st:Int×Int):Prop:=(-1<=st.2/\st.2<n)/\ ∃(M:Nat) (L:List Int),st.1=(M:Int)/\M<2 ^ n/\L.length=i/\L.Nodup/\(∀x∈L,0<=x/\x<n)/\ ∀j:Nat,M.testBit j=true↔(j:Int)∈L
theorem LG {n:Nat} {L:List Int} (h:L.Nodup) (k: ∀x∈L,0<=x/\x<n):L.length<=n:=by
 have:=h.length_le_of_subset (l₂:=(List.range n).map fun i:Nat=>(i:Int)) (fun x hx=>by
  obtain ⟨h0,h1⟩:=k x hx
  exact List.mem_map.2 ⟨x.toNat,List.mem_range.2 (by omega),by omega⟩)
 simpa using this
section
variable {a:AutT} {n:Nat} (V:VA a n) (hn:n<=12)
include V hn
theorem JK {v:Int} (hv:0<=v/\v<=2) {i:Nat} {st:Int×Int} (h:ClI n i st) :
  (i<n/\ ∃st',bG a v st=some (.nxt st')/\ClI n (i+1) st')\/bG a v st=some (.brk st):=by
 obtain ⟨⟨h1,h2⟩,M,L,e1,hM,hl,hd,hr,hb⟩:=h
 obtain ⟨m,s⟩:=st
 obtain rfl:m=(M:Int):=e1
 have h62:M<2 ^ 62:=az hM (p62 (by omega))
 unfold bG
 by_cases c:s≥0
 ·obtain ⟨k,rfl⟩: ∃k:Nat,s=(k:Int):=⟨s.toNat,by omega⟩
  have hk:k<n:=by simp only at h2;omega
  have e0:chk ((0:Int)<=(k:Int))=some ():=by unfold chk;rw[if_pos (by omega)]
  simp only[e0,aa]
  rw[if_pos (by simp),Gg h62 (by omega)]
  by_cases b:M.testBit k=true
  ·right;rw[if_neg (by simp[b])]
  ·left
   have b':(k:Int)∉L:=fun hh=>b ((hb k).2 hh)
   have hle:=LG (n:=n) (L:=(k:Int)::L) (List.nodup_cons.2 ⟨b',hd⟩) (fun x hx=>by
    rcases aw hx with rfl | hx
    ·omega
    ·exact hr x hx)
   simp only[ax] at hle
   obtain ⟨u,rfl⟩: ∃u:Nat,v=(u:Int):=⟨v.toNat,by omega⟩
   have hu:u<=2:=by omega
   have ew:IntKind.i64.wrap (6+(u:Int))=((6+u:Nat):Int):=by rw[be (by omega) (by omega)];omega
   refine ⟨by omega,(((M ||| 2 ^ k:Nat):Int),mv a (k:Int) (6+u)),?_,?_,M ||| 2 ^ k,(k:Int)::L,rfl,qN hM hk,by simp[hl],List.nodup_cons.2 ⟨b',hd⟩,?_,?_⟩
   ·rw[if_pos (by simp[b]),ew]
    have e2:=zq V (s:=(k:Int)) (k:=6+u) (by omega) (by omega) (by omega)
    have e2:bc (a.1,a.2.1,a.2.2) (k:Int) ((6+u:Nat):Int)=_:=e2
    rw[e2,uj (by omega),Dw h62 (Nat.pow_lt_pow_right (by decide) (by omega))];rfl
   ·exact V.mv (by omega) (by omega) (by omega)
   ·intro x hx
    rcases aw hx with rfl | hx
    ·omega
    ·exact hr x hx
   ·intro j
    rw[rA,Bool.or_eq_true,hb j,List.mem_cons,decide_eq_true_eq]
    constructor
    ·rintro (h | h)
     ·exact .inr h
     ·left;omega
    ·rintro (h | h)
     ·right;omega
     ·exact .inl h
 ·right
  rw[if_neg (by simpa using c)]
theorem wq {s v:Int} (hs:0<=s/\s<n) (hv:0<=v/\v<=2): ∃C:Nat,dW a s v=some (C:Int)/\C<2 ^ n:=by
 have h0:ClI n 0 (0,s):=⟨⟨by simp only;omega,hs.2⟩,0,[],rfl,Nat.two_pow_pos n,rfl,List.nodup_nil,by simp,by simp⟩
 obtain ⟨o,e,C,s',rfl,hC⟩:=dB (f:=bG a v) (ClI n) (fun o=> ∃(C:Nat) (s':Int),o= .brk ((C:Int),s')/\C<2 ^ n) n (s:=(0,s)) (fun i st hi h=>by
  rcases JK V hn hv h with h' | h'
  ·exact .inl h'
  ·obtain ⟨_,M,L,e1,hM,_⟩:=h
   obtain ⟨m,s'⟩:=st
   obtain rfl:m=(M:Int):=e1
   exact .inr ⟨_,h',(fun s' e=>by cases e),M,s',rfl,hM⟩) h0 (by unfold ba;omega)
 exact ⟨C,by unfold dW;exact aG e,hC⟩
end
def cS (a:AutT) (s v:Int):Nat:=((dW a s v).getD 0).toNat
section
variable {a:AutT} {n:Nat} (V:VA a n) (hn:n<=12)
include V hn
theorem nC {s v:Int} (hs:0<=s/\s<n) (hv:0<=v/\v<=2):dW a s v=some (cS a s v:Int)/\cS a s v<2 ^ n:=by
 obtain ⟨C,e,h⟩:=wq V hn hs hv
 unfold cS
 rw[e]
 exact ⟨rfl,by simpa using h⟩
end
def afS (a:AutT) (k:Nat) (C:Nat):Nat->Nat
 | 0=>0
 | q+1=>if C.testBit q=true/\0<=mv a (q:Int) k then afS a k C q ||| 2 ^ (mv a (q:Int) k).toNat else afS a k C q
def afL (a:AutT) (k:Nat) (l:List Int):Nat:=l.foldl (fun m t=>if 0<=mv a t k then m ||| 2 ^ (mv a t k).toNat else m) 0
theorem xX (a:AutT) (k C:Nat): ∀q,afL a k (fb C q)=afS a k C q
 | 0=>rfl
 | q+1=>by
  rw[gP,afS]
  by_cases b:C.testBit q=true
  ·rw[if_pos b]
   unfold afL
   rw[List.foldl_append]
   have:=xX a k C q
   unfold afL at this
   rw[this]
   simp[b]
  ·rw[if_neg b,if_neg (fun h=>b h.1)]
   exact xX a k C q
section
variable {a:AutT} {n:Nat} (V:VA a n) (hn:n<=12)
include V
theorem Dz {k C:Nat} (hk:k<9): ∀q,q<=n->afS a k C q<2 ^ n
 | 0,_=>Nat.two_pow_pos n
 | q+1,hq=>by
  rw[afS]
  have:=Dz (C:=C) hk q (by omega)
  split
  ·rename_i c
   have:=(V.mv (s:=(q:Int)) (by omega) (by omega) hk).2
   exact qN (by assumption) (by omega)
  ·exact this
theorem Ho {k:Nat} (hk:k<9) {l:List Int} (h: ∀x∈l,0<=x/\x<n):afL a k l<2 ^ n:=by
 unfold afL
 have key: ∀(l:List Int) (m:Nat),(∀x∈l,0<=x/\x<n)->m<2 ^ n->l.foldl (fun m t=>if 0<=mv a t k then m ||| 2 ^ (mv a t k).toNat else m) m<2 ^ n:=by
  intro l
  induction l with
  | nil=>intro m _ h;exact h
  | cons x l ih =>
   intro m hx hm
   rw[List.foldl_cons]
   refine ih _ (fun y hy=>hx y (by simp[hy])) ?_
   split
   ·have:=(V.mv (hx x (by simp)).1 (hx x (by simp)).2 hk).2
    exact qN hm (by omega)
   ·exact hm
 exact key l 0 h (Nat.two_pow_pos n)
include hn
theorem uk {C:Nat} (hC:C<2 ^ n): ∀x∈fb C 30,0<=x/\x<(n:Int):=by
 intro x hx
 obtain ⟨i,hi,hb,rfl⟩:=Dx.1 hx
 refine ⟨by omega,?_⟩
 rcases Nat.lt_or_ge i n with h | h
 ·omega
 ·rw[Nat.testBit_lt_two_pow (az hC (Nat.pow_le_pow_right (by decide) h))] at hb;cases hb
theorem AR {k:Nat} (hk:k<6) {l:List Int} (hl: ∀x∈l,0<=x/\x<n) (hlen:l.length<=30):aH (gb a (k:Int) l) ba (0,0)=some (.brk ((afL a k l:Int),(l.length:Int))):=by
 have:=a6 (f:=gb a (k:Int) l) (fun i=>((afL a k (l.take i):Int),(i:Int))) l.length (fun i hi=>by
  unfold gb
  simp only
  have hx:=hl _ (bK (xs:=l) (i:=(i:Int)) (by omega) (by omega))
  rw[if_pos (by simp;omega),aE (by omega) (by omega)];simp only[aa]
  have e2:=zq V (s:=nth l (i:Int)) (k:=k) hx.1 hx.2 (by omega)
  have e2:bc (a.1,a.2.1,a.2.2) (nth l (i:Int)) (k:Int)=_:=e2
  rw[e2,aI (by omega)];simp only[aa]
  have et:l.take (i+1)=l.take i++ [nth l (i:Int)]:=by rw[List.take_add_one,eE hi];simp[hi]
  have ef:afL a k (l.take (i+1))=if 0<=mv a (nth l (i:Int)) k then afL a k (l.take i) ||| 2 ^ (mv a (nth l (i:Int)) k).toNat else afL a k (l.take i):=by
   rw[et];unfold afL;rw[List.foldl_append];rfl
  have hlt:=Ho V (k:=k) (by omega) (l:=l.take i) (fun x hx=>hl x (List.mem_of_mem_take hx))
  have hmv:=(V.mv (s:=nth l (i:Int)) (k:=k) hx.1 hx.2 (by omega)).2
  rw[ef]
  by_cases c:0<=mv a (nth l (i:Int)) k
  ·rw[if_pos (by simpa using c),if_pos c]
   obtain ⟨t,ht⟩: ∃t:Nat,mv a (nth l (i:Int)) k=(t:Int):=⟨_,(Int.toNat_of_nonneg c).symm⟩
   have e0:chk ((0:Int)<=mv a (nth l (i:Int)) k)=some ():=by unfold chk;rw[if_pos c]
   rw[e0,ht,uj (by omega),Dw (az hlt (p62 (by omega))) (Nat.pow_lt_pow_right (by decide) (by omega))];rfl
  ·rw[if_neg (by simpa using c),if_neg c];rfl) (by unfold gb;simp) (jd (by omega))
 simpa [afL] using this
theorem LH {s v:Int} {k:Nat} (hs:0<=s/\s<n) (hv:0<=v/\v<=2) (hk:k<6):kL a (rC 1 s) v (k:Int)=some (afL a k (fb (cS a s v) 30):Int):=by
 obtain ⟨t,rfl⟩: ∃t:Nat,s=(t:Int):=⟨s.toNat,by omega⟩
 obtain ⟨e1,h1⟩:=nC V hn hs hv
 have hC:cS a (t:Int) v<2 ^ 30:=az h1 (Nat.pow_le_pow_right (by decide) (by omega))
 unfold kL
 rw[uj (by omega),qO (Nat.pow_lt_pow_right (by decide) (by omega)),Dy (by omega)];simp only[aa]
 have h0:dX a v (k:Int) [(t:Int)] (0,0)=some (.nxt ((afL a k (fb (cS a (t:Int) v) 30):Int),1)):=by
  unfold dX
  simp only
  rw[if_pos (by simp),show aU [(t:Int)] 0=some (t:Int) from rfl];simp only[aa]
  have e1:dW (a.1,a.2.1,a.2.2) (t:Int) v=_:=e1
  rw[e1];simp only[aa]
  rw[qO hC];simp only[aa]
  rw[AR V hn hk (uk V hn h1) (kV _ _)]
  rfl
 have h1': ∀m:Int,dX a v (k:Int) [(t:Int)] (m,1)=some (.brk (m,1)):=fun m=>by
  unfold dX;rw[if_neg (by simp)]
 have:=a6 (f:=dX a v (k:Int) [(t:Int)]) (fun i=>if i=0 then (0,0) else ((afL a k (fb (cS a (t:Int) v) 30):Int),1)) 1 (fun i hi=>by
  obtain rfl:i=0:=by omega
  exact h0) (h1' _) (by unfold ba;omega)
 have this:aH (dX a v (k:Int) [(t:Int)]) ba (0,0)=some (.brk ((afL a k (fb (cS a (t:Int) v) 30):Int),1)):=this
 rw[this];rfl
end
end D
namespace D
open Go.RowKit
theorem fD {p:Prop} [Decidable p] (h:p):chk p=some ():=by unfold chk;rw[if_pos h]
def rm {α:Type} (N:Nat) (F:Nat->α):List α:=(List.range N).map F
section
variable {α:Type} {N:Nat} {F G:Nat->α}
theorem lX:(rm N F).length=N:=by simp[rm]
theorem gK (h: ∀z,z<N->F z=G z):rm N F=rm N G:=by
 unfold rm
 exact List.map_congr_left fun z hz=>h z (List.mem_range.1 hz)
theorem mz {c:Nat} (h:c<N):aU (rm N F) (c:Int)=some (F c):=by
 rw[bO (by rw[lX];exact h)]
 simp[rm]
theorem DA {c:Nat} {v:α} :(rm N F).set c v=rm N fun z=>if z=c then v else F z:=by
 refine List.ext_getElem (by simp[rm]) fun i h1 h2=>?_
 simp only[rm,List.getElem_set,List.getElem_map,List.getElem_range]
 by_cases e:c=i
 ·subst e;simp
 ·rw[if_neg e,if_neg (fun h=>e h.symm)]
theorem kW {xs:List α} [Inhabited α] {k:Nat} (h:k<xs.length):xs.take (k+1)=xs.take k++ [nth xs (k:Int)]:=by
 rw[List.take_add_one,eE h];simp[h]
end
theorem Hq {α:Type} {b n:Nat} {z:α} (h:n*b<=140737488355328):mkI b (n:Int) z=some (rm n fun _=>z):=by
 have:rm n (fun _=>z)=List.replicate n z:=by
  unfold rm;exact List.ext_getElem (by simp) fun i h1 h2=>by simp
 rw[this,Da h]
abbrev EdT:=Int×Int×Int×Int
abbrev ArT:=(Int×Bool)×Int×Int
def fwd (e:EdT):ArT:=((e.1,false),2*e.2.2.2,e.2.2.1)
def inv (e:EdT):ArT:=((e.1,true),2*e.2.2.2+1,e.2.1)
def Hr (e:EdT) (x:Int):List ArT:=(if e.2.1=x then [fwd e] else [])++(if e.2.2.1=x then [inv e] else [])
def fB (es:List EdT) (x:Nat):List ArT:=es.flatMap fun e=>Hr e x
theorem Gi (e:EdT) (x:Int):(Hr e x).length<=2:=by
 unfold Hr;rw[au];split <;> split <;> simp
theorem kX {α β:Type} {f:α->List β} {B:Nat} : ∀ {xs:List α},(∀x∈xs,(f x).length<=B)->(xs.flatMap f).length<=B*xs.length
 | [],_=>by simp
 | x::xs,h=>by
  rw[List.flatMap_cons,au,ax,Nat.mul_add]
  have:=h x (by simp)
  have:=kX (xs:=xs) fun y hy=>h y (by simp[hy])
  omega
theorem lH (es:List EdT) (x:Nat):(fB es x).length<=2*es.length:=kX fun e _=>Gi e x
theorem DB (e:EdT) (h:0<=e.2.2.2/\e.2.2.2<=2) (b:Bool):kJ e b=some (if b then 2*e.2.2.2+1 else 2*e.2.2.2):=by
 unfold kJ
 rw[be (n:=2*e.2.2.2) (by omega) (by omega),be (by omega) (by omega)]
 cases b <;> rfl
theorem LI {g:GrT} (G:GOk g):nc g=some (rm g.1.length (fB g.2)):=by
 unfold nc
 rw[Hq (by have:=G.n5;omega)];simp only[aa]
 have:=a6 (f:=im g) (fun i=>((i:Int),rm g.1.length (fB (g.2.take i)))) g.2.length (fun i hi=>by
  unfold im
  simp only
  have hm:=G.m
  obtain ⟨⟨a1,a2⟩,⟨b1,b2⟩,c1⟩:=G.edge _ (bK (xs:=g.2) (i:=(i:Int)) (by omega) (by omega))
  rw[if_pos (by simp;omega),aE (by omega) (by omega)];simp only[aa]
  generalize he:nth g.2 (i:Int)=e at a1 a2 b1 b2 c1
  obtain ⟨id,fr,to,lb⟩:=e
  obtain ⟨p,rfl⟩: ∃p:Nat,fr=(p:Int):=⟨fr.toNat,by simp only at a1;omega⟩
  obtain ⟨q,rfl⟩: ∃q:Nat,to=(q:Int):=⟨to.toNat,by simp only at b1;omega⟩
  simp only at a1 a2 b1 b2 c1
  have hp:p<g.1.length:=by omega
  have hq:q<g.1.length:=by omega
  have r1:=DB (id,(p:Int),(q:Int),lb) c1 false
  have r2:=DB (id,(p:Int),(q:Int),lb) c1 true
  have l1:=lH (g.2.take i) p
  have l2:=lH (g.2.take i) q
  have l3:(g.2.take i).length<=12:=by rw[aD];omega
  simp only[mz hp,mz hq,aa,r1,r2,Int.toNat_natCast,DA,Bool.false_eq_true,if_false,if_true]
  rw[aS (by simp;omega)];simp only[aa,DA]
  rw[fD (by rw[lX];omega),fD trivial];simp only[aa]
  rw[aS (by split <;> simp <;> omega)];simp only[aa]
  rw[fD (by rw[lX];omega)];simp only[aa]
  try rw[fD rfl];simp only[aa]
  rw[aI (by omega)]
  congr 3
  refine gK fun z hz=>?_
  rw[kW hi,he]
  unfold fB
  rw[List.flatMap_append]
  simp only[List.flatMap_cons,List.flatMap_nil,List.append_nil,Hr]
  by_cases e1:z=q
  ·subst e1
   by_cases e2:z=p
   ·subst e2;simp[fwd,inv]
   ·simp[e2,fwd,inv,show¬((p:Int)=(z:Int)) from by omega]
  ·by_cases e2:z=p
   ·subst e2;simp[e1,fwd,inv,show¬((q:Int)=(z:Int)) from by omega]
   ·simp[e1,e2,show¬((p:Int)=(z:Int)) from by omega,show¬((q:Int)=(z:Int)) from by omega]) (by unfold im;simp) (jd (by have:=G.m;omega))
 have this:aH (im g) ba (0,rm g.1.length fun _=>[])=_:=this
 rw[this,List.take_length];rfl
end D
namespace D
open Go.RowKit
def behind (a:AutT) (s v k:Int):List Int:=fb (afL a k.toNat (fb (cS a s v) 30)) 30
def nbA (g:GrT) (a:AutT) (x s:Nat) (y:ArT):List Int:=(behind a s (nth g.1 x) y.2.1).map fun t=>y.2.2*(a.2.1.length:Int)+t
def nbV (g:GrT) (a:AutT) (x s:Nat):List Int:=(fB g.2 x).flatMap (nbA g a x s)
def nbC (g:GrT) (a:AutT) (c:Nat):List Int:=nbV g a (c / a.2.1.length) (c % a.2.1.length)
theorem qP {g:GrT} (G:GOk g) {x:Nat} {y:ArT} (h:y∈fB g.2 x):(0<=y.2.1/\y.2.1<6)/\0<=y.2.2/\y.2.2<g.1.length:=by
 obtain ⟨e,he,hy⟩:=List.mem_flatMap.1 h
 obtain ⟨h1,h2,h3⟩:=G.edge e he
 unfold Hr at hy
 rcases aB hy with hy | hy <;> split at hy
 ·obtain rfl:y=fwd e:=by simpa using hy
  exact ⟨⟨by simp[fwd];omega,by simp[fwd];omega⟩,h2⟩
 ·cases hy
 ·obtain rfl:y=inv e:=by simpa using hy
  exact ⟨⟨by simp[inv];omega,by simp[inv];omega⟩,h1⟩
 ·cases hy
section
variable {g:GrT} {a:AutT} (G:GOk g) (V:VA a a.2.1.length) (hn:a.2.1.length<=12)
include G V hn
theorem nD {s v:Int} {k:Int} (hs:0<=s/\s<a.2.1.length) (hv:0<=v/\v<=2) (hk:0<=k/\k<6):(∀t∈behind a s v k,0<=t/\t<(a.2.1.length:Int))/\(behind a s v k).length<=30/\afL a k.toNat (fb (cS a s v) 30)<2 ^ 30:=by
 have h1:=(nC V hn hs hv).2
 have h2:=Ho V (k:=k.toNat) (by omega) (uk V hn h1)
 exact ⟨uk V hn h2,kV _ _,az h2 (Nat.pow_le_pow_right (by decide) (by omega))⟩
theorem Hs {x s:Nat} {y:ArT} (hx:x<g.1.length) (hs:s<a.2.1.length) (hy:y∈fB g.2 x): ∀z∈nbA g a x s y,0<=z/\z<((a.2.1.length*g.1.length:Nat):Int):=by
 intro z hz
 obtain ⟨t,ht,rfl⟩:=List.mem_map.1 hz
 obtain ⟨k1,k2,k3⟩:=qP G hy
 have hv:=G.val _ (bK (xs:=g.1) (i:=(x:Int)) (by omega) (by omega))
 obtain ⟨t0,t1⟩:=(nD G V hn (s:=(s:Int)) ⟨by omega,by omega⟩ hv k1).1 t ht
 obtain ⟨q,hq⟩: ∃q:Nat,y.2.2=(q:Int):=⟨y.2.2.toNat,by omega⟩
 obtain ⟨r,rfl⟩: ∃r:Nat,t=(r:Int):=⟨t.toNat,by omega⟩
 rw[hq] at k3⊢
 have:q*a.2.1.length+r<g.1.length*a.2.1.length:=by
  have:(q+1)*a.2.1.length<=g.1.length*a.2.1.length:=Nat.mul_le_mul_right _ (by omega)
  rw[Nat.add_mul] at this;omega
 rw[Nat.mul_comm a.2.1.length]
 constructor
 ·exact_mod_cast Nat.zero_le _
 ·exact_mod_cast this
theorem LJ {x s:Nat} (hx:x<g.1.length) (hs:s<a.2.1.length): ∀z∈nbV g a x s,0<=z/\z<((a.2.1.length*g.1.length:Nat):Int):=by
 intro z hz
 obtain ⟨y,hy,hz⟩:=List.mem_flatMap.1 hz
 exact Hs G V hn hx hs hy z hz
theorem DC {x s:Nat} {y:ArT} (hx:x<g.1.length) (hs:s<a.2.1.length) (hy:y∈fB g.2 x):(nbA g a x s y).length<=30:=by
 unfold nbA
 rw[List.length_map]
 exact kV _ _
end
section
variable {g:GrT} {a:AutT} {F:Nat->List Int} {N:Nat}
theorem MW {x s:Nat} {o1 o2:List (List Int)} {y:ArT} {T:List Int} (hc:x*a.2.1.length+s<N) (hN:N<=60) (hF:(F (x*a.2.1.length+s)).length<=10000) (hT:T.length<=30) (hy: ∀t∈T,0<=y.2.2*(a.2.1.length:Int)+t/\y.2.2*(a.2.1.length:Int)+t<60/\0<=t/\t<=60) :
  aH (bC a ((x:Int),o1) ((s:Int),o2) y T) ba (0,rm N F)=some (.brk ((T.length:Int),rm N fun z=>if z=x*a.2.1.length+s then F z++T.map fun t=>y.2.2*(a.2.1.length:Int)+t else F z)):=by
 have ec:IntKind.i64.wrap (IntKind.i64.wrap ((x:Int)*(a.2.1.length:Int))+(s:Int))=((x*a.2.1.length+s:Nat):Int):=by
  have:((x:Int)*(a.2.1.length:Int))=((x*a.2.1.length:Nat):Int):=by simp
  rw[this,pg (by omega),be (by omega) (by omega)];rfl
 have:=a6 (f:=bC a ((x:Int),o1) ((s:Int),o2) y T) (fun j=>((j:Int),rm N fun z=>if z=x*a.2.1.length+s then F z++(T.take j).map fun t=>y.2.2*(a.2.1.length:Int)+t else F z)) T.length (fun j hj=>by
  unfold bC
  simp only
  obtain ⟨y0,y1,t0,t1⟩:=hy _ (bK (xs:=T) (i:=(j:Int)) (by omega) (by omega))
  rw[if_pos (by simp;omega),aE (by omega) (by omega)];simp only[aa,ec,mz hc,if_true]
  have ev:IntKind.i64.wrap (IntKind.i64.wrap (y.2.2*(a.2.1.length:Int))+nth T (j:Int))=y.2.2*(a.2.1.length:Int)+nth T (j:Int):=by
   rw[be (n:=y.2.2*(a.2.1.length:Int)) (by omega) (by omega),be (by omega) (by omega)]
  rw[ev,aS (by simp;omega)];simp only[aa,Int.toNat_natCast,DA]
  rw[fD (by rw[lX];omega),fD trivial,aI (by omega)];simp only[aa]
  congr 3
  refine gK fun z hz=>?_
  by_cases e:z=x*a.2.1.length+s
  ·subst e
   rw[if_pos rfl,if_pos rfl,kW hj,aF,ah];rfl
  ·simp only[if_neg e]) (by unfold bC;simp) (jd (by omega))
 rw[List.take_length] at this
 rw[<-this]
 congr 2
 refine gK fun z hz=>?_
 split <;> simp
end
section
variable {g:GrT} {a:AutT} (G:GOk g) (V:VA a a.2.1.length) (hn:a.2.1.length<=12)
include G V hn
theorem nN:a.2.1.length*g.1.length<=60:=by
 have:=Nat.mul_le_mul hn G.n5;omega
theorem cN {x s:Nat} (hx:x<g.1.length) (hs:s<a.2.1.length):x*a.2.1.length+s<a.2.1.length*g.1.length:=by
 have:(x+1)*a.2.1.length<=g.1.length*a.2.1.length:=Nat.mul_le_mul_right _ (by omega)
 rw[Nat.add_mul,Nat.mul_comm g.1.length] at this;omega
theorem MX {F:Nat->List Int} {x s:Nat} {o1 o2:List (List Int)} (hx:x<g.1.length) (hs:s<a.2.1.length) (hF:F (x*a.2.1.length+s)= []) :
  aH (cj g a ((x:Int),o1) (fB g.2 x) ((s:Int),o2)) ba (0,rm (a.2.1.length*g.1.length) F)=some (.brk (((fB g.2 x).length:Int),rm (a.2.1.length*g.1.length) fun z=>if z=x*a.2.1.length+s then nbV g a x s else F z)):=by
 have hl:=lH g.2 x
 have hm:=G.m
 have:=a6 (f:=cj g a ((x:Int),o1) (fB g.2 x) ((s:Int),o2)) (fun j=>((j:Int),rm (a.2.1.length*g.1.length) fun z=>if z=x*a.2.1.length+s then ((fB g.2 x).take j).flatMap (nbA g a x s) else F z)) (fB g.2 x).length (fun j hj=>by
  unfold cj
  simp only
  have hy:=bK (xs:=fB g.2 x) (i:=(j:Int)) (by omega) (by omega)
  obtain ⟨k1,k2,k3⟩:=qP G hy
  have hv:=G.val _ (bK (xs:=g.1) (i:=(x:Int)) (by omega) (by omega))
  obtain ⟨q1,q2,q3⟩:=nD G V hn (s:=(s:Int)) (v:=nth g.1 (x:Int)) (k:=(nth (fB g.2 x) (j:Int)).2.1) ⟨by omega,by omega⟩ hv k1
  rw[if_pos (by simp;omega),aE (by omega) (by omega)];simp only[aa]
  rw[fD (by omega),aE (xs:=g.1) (by omega) (by omega)];simp only[aa]
  obtain ⟨k,hk⟩: ∃k:Nat,(nth (fB g.2 x) (j:Int)).2.1=(k:Int):=⟨_,(Int.toNat_of_nonneg k1.1).symm⟩
  have ea:=LH V hn (s:=(s:Int)) (v:=nth g.1 (x:Int)) (k:=k) ⟨by omega,by omega⟩ hv (by omega)
  have ea:kL (a.1,a.2.1,a.2.2) (rC 1 (s:Int)) (nth g.1 (x:Int)) (k:Int)=_:=ea
  rw[hk,ea];simp only[aa]
  have ek:k=(nth (fB g.2 x) (j:Int)).2.1.toNat:=by rw[hk];rfl
  rw[ek,qO q3];simp only[aa]
  have hb:(((fB g.2 x).take j).flatMap (nbA g a x s)).length<=30*((fB g.2 x).take j).length:=kX fun y hy=>DC G V hn hx hs (List.mem_of_mem_take hy)
  have ht:((fB g.2 x).take j).length<=24:=by rw[aD];omega
  have h3:=MW (F:=fun z=>if z=x*a.2.1.length+s then ((fB g.2 x).take j).flatMap (nbA g a x s) else F z) (o1:=o1) (o2:=o2) (y:=nth (fB g.2 x) (j:Int)) (T:=behind a (s:Int) (nth g.1 (x:Int)) (nth (fB g.2 x) (j:Int)).2.1) (cN G V hn hx hs) (nN G V hn) (by simp only[if_true];omega) q2 (fun t ht=>by
   have h1:=Hs G V hn hx hs hy _ (List.mem_map.2 ⟨t,ht,rfl⟩)
   have h2:=q1 t ht
   have:=nN G V hn
   omega)
  unfold behind at h3
  have h3:aH (bC a ((x:Int),o1) ((s:Int),o2) (nth (fB g.2 x) (j:Int)) (fb (afL a (nth (fB g.2 x) (j:Int)).2.1.toNat (fb (cS a (s:Int) (nth g.1 (x:Int))) 30)) 30)) ba (0,rm (a.2.1.length*g.1.length) fun z=>if z=x*a.2.1.length+s then ((fB g.2 x).take j).flatMap (nbA g a x s) else F z)=_:=h3
  rw[aG h3,aI (by omega)]
  congr 3
  refine gK fun z hz=>?_
  by_cases e:z=x*a.2.1.length+s
  ·subst e
   rw[if_pos rfl,if_pos rfl,kW hj,List.flatMap_append]
   simp[nbA,behind]
  ·simp only[if_neg e]) (by unfold cj;simp) (jd (by omega))
 rw[List.take_length] at this
 rw[show nbV g a x s=(fB g.2 x).flatMap (nbA g a x s) from rfl,<-this]
 congr 2
 refine gK fun z hz=>?_
 split
 ·rename_i e;subst e;rw[hF];simp
 ·rfl
theorem LK {x s:Nat} (hs:s<a.2.1.length):nbC g a (x*a.2.1.length+s)=nbV g a x s:=by
 unfold nbC
 rw[Nat.mul_comm,Nat.mul_add_div (by omega),Nat.mul_add_mod,Nat.div_eq_of_lt hs,Nat.mod_eq_of_lt hs,Nat.add_zero]
theorem MY {x:Nat} {o1:List (List Int)} (hx:x<g.1.length) :
  aH (cm g a ((x:Int),o1) (fB g.2 x)) ba (0,rm (a.2.1.length*g.1.length) fun z=>if z<x*a.2.1.length then nbC g a z else [])=some (.brk ((a.2.1.length:Int),rm (a.2.1.length*g.1.length) fun z=>if z<(x+1)*a.2.1.length then nbC g a z else [])):=by
 have:=a6 (f:=cm g a ((x:Int),o1) (fB g.2 x)) (fun j=>((j:Int),rm (a.2.1.length*g.1.length) fun z=>if z<x*a.2.1.length+j then nbC g a z else [])) a.2.1.length (fun j hj=>by
  unfold cm
  simp only
  rw[if_pos (by simp;omega)]
  have h2:=MX G V hn (F:=fun z=>if z<x*a.2.1.length+j then nbC g a z else []) (o1:=o1) (o2:=rm (a.2.1.length*g.1.length) fun z=>if z<x*a.2.1.length+j then nbC g a z else []) hx hj (by simp)
  rw[aG h2,aI (by omega)]
  congr 3
  refine gK fun z hz=>?_
  by_cases e:z=x*a.2.1.length+j
  ·subst e
   rw[if_pos rfl,if_pos (by omega),LK G V hn hj]
  ·rw[if_neg e]
   by_cases e2:z<x*a.2.1.length+j
   ·rw[if_pos e2,if_pos (by omega)]
   ·rw[if_neg e2,if_neg (by omega)]) (by unfold cm;simp) (jd (by omega))
 rw[Nat.add_mul,Nat.one_mul]
 exact this
theorem JL:bw g a=some (rm (a.2.1.length*g.1.length) (nbC g a)):=by
 have hN:=nN G V hn
 unfold bw
 have ew:IntKind.i64.wrap ((a.2.1.length:Int)*(g.1.length:Int))=((a.2.1.length*g.1.length:Nat):Int):=by
  rw[show ((a.2.1.length:Int)*(g.1.length:Int))=((a.2.1.length*g.1.length:Nat):Int) from by simp,pg (by omega)]
 have ea:=LI G
 have ea:nc (g.1,g.2)=_:=ea
 rw[ew,Hq (by omega),ea];simp only[aa]
 have:=a6 (f:=dg g a (rm g.1.length (fB g.2))) (fun j=>((j:Int),rm (a.2.1.length*g.1.length) fun z=>if z<j*a.2.1.length then nbC g a z else [])) g.1.length (fun j hj=>by
  unfold dg
  simp only
  rw[if_pos (by rw[lX];simp;omega),mz hj];simp only[aa]
  rw[aG (MY G V hn hj),aI (by have:=G.n5;omega)]) (by unfold dg;rw[lX];simp) (jd (by have:=G.n5;omega))
 have e0:(rm (a.2.1.length*g.1.length) fun _=>([] :List Int))=rm (a.2.1.length*g.1.length) fun z=>if z<0*a.2.1.length then nbC g a z else []:=gK fun z hz=>by rw[if_neg (by omega)]
 rw[e0,show (0:Int)=((0:Nat):Int) from rfl,aG this]
 congr 1
 refine gK fun z hz=>?_
 rw[if_pos (by rw[Nat.mul_comm g.1.length];exact hz)]
end
end D
namespace D
open Go.RowKit
def NC {R S T:Type} (φ:S->T):Out R S->Out R T
 | .ret r=>.ret r
 | .nxt s=>.nxt (φ s)
 | .brk s=>.brk (φ s)
theorem wt {R S T:Type} {f:S->Option (Out R S)} {f':T->Option (Out R T)} (φ:S->T) (Inv:S->Prop)
  (h: ∀s,Inv s->f' (φ s)=(f s).map (NC φ)) (hi: ∀s s',Inv s->f s=some (.nxt s')->Inv s'): ∀n s,Inv s->aH f' n (φ s)=(aH f n s).map (NC φ)
 | 0,_,_=>rfl
 | n+1,s,hs=>by
  have e:=h s hs
  unfold aH
  rw[e]
  cases hf:f s with
  | none=>rfl
  | some o =>
   cases o with
   | ret r=>rfl
   | brk s'=>rfl
   | nxt s'=>exact wt φ Inv h hi n s' (hi s s' hs hf)
section
variable {a:AutT} {n:Nat} (V:VA a n) (hn:n<=12)
include V hn
theorem DD {s v:Int} (hs:0<=s/\s<n) (hv:0<=v/\v<=2):eK a s v=some (cS a s v:Int):=by
 have e:=(nC V hn hs hv).1
 have k:=wt (f:=bG a v) (f':=fJ a v) (fun st=>(st.2,st.1)) (fun st=> -1<=st.2/\st.2<n) (by
  rintro ⟨m,s⟩ ⟨h0,h1⟩
  unfold fJ bG
  simp only at h0 h1⊢
  by_cases c:0<=s
  ·simp only[decide_eq_true (show s≥0 from c),if_true,fD c,aa]
   have ew:IntKind.i64.wrap (6+v)=(((6+v).toNat:Nat):Int):=by rw[be (by omega) (by omega)];omega
   have e2:=zq V (s:=s) (k:=(6+v).toNat) c h1 (by omega)
   have e2:bc (a.1,a.2.1,a.2.2) s (((6+v).toNat:Nat):Int)=_:=e2
   rw[ew,e2,V.get c h1];simp only[aa]
   rw[V.get2 c h1 (by omega)];simp only[aa]
   split <;> rfl
  ·simp only[decide_eq_false (show¬s≥0 from c),Bool.false_eq_true,if_false];rfl) (by
  rintro ⟨m,s⟩ ⟨m',s'⟩ ⟨h0,h1⟩ hf
  unfold bG at hf
  simp only at h0 h1 hf⊢
  by_cases c:0<=s
  ·simp only[decide_eq_true (show s≥0 from c),if_true,fD c,aa] at hf
   have ew:IntKind.i64.wrap (6+v)=(((6+v).toNat:Nat):Int):=by rw[be (by omega) (by omega)];omega
   have e2:=zq V (s:=s) (k:=(6+v).toNat) c h1 (by omega)
   have e2:bc (a.1,a.2.1,a.2.2) s (((6+v).toNat:Nat):Int)=_:=e2
   rw[ew,e2] at hf;simp only[aa] at hf
   split at hf
   ·cases hf
    exact V.mv c h1 (by omega)
   ·cases hf
  ·simp only[decide_eq_false (show¬s≥0 from c),Bool.false_eq_true,if_false] at hf;cases hf) ba (0,s) ⟨by simp only;omega,hs.2⟩
 unfold dW at e
 unfold eK
 simp only at k
 rw[k]
 cases hl:aH (bG a v) ba (0,s) with
 | none=>rw[hl] at e;cases e
 | some o =>
  rw[hl] at e
  cases o with
  | ret r=>exact e
  | brk s'=>exact e
  | nxt s'=>cases e
end
def qV (y:ArT):Int×Bool:=y.1
theorem LL {g:GrT} (G:GOk g) {x:Nat} :jk g x=some ((fB g.2 x).map qV):=by
 unfold jk
 have:=a6 (f:=fw g x) (fun i=>((fB (g.2.take i) x).map qV,(i:Int))) g.2.length (fun i hi=>by
  unfold fw
  simp only
  have hm:=G.m
  have l1:=lH (g.2.take i) x
  have l3:(g.2.take i).length<=12:=by rw[aD];omega
  rw[if_pos (by simp;omega),aE (by omega) (by omega)];simp only[aa]
  rw[kW hi,aI (by omega)]
  generalize nth g.2 (i:Int)=e
  have ea:fB (g.2.take i++ [e]) x=fB (g.2.take i) x++Hr e x:=by simp[fB]
  rw[ea,aF]
  generalize hL:(fB (g.2.take i) x).map qV=L
  have hl:L.length<=24:=by rw[<-hL,List.length_map];omega
  unfold Hr
  by_cases c1:e.2.1=(x:Int)
  ·rw[if_pos (by simpa using c1),if_pos c1,aS (by simp;omega)];simp only[aa]
   by_cases c2:e.2.2.1=(x:Int)
   ·rw[if_pos (by simpa using c2),if_pos c2,aS (by simp;omega)];simp[qV,fwd,inv]
   ·rw[if_neg (by simpa using c2),if_neg c2];simp[qV,fwd,inv]
  ·rw[if_neg (by simpa using c1),if_neg c1];simp only[aa]
   by_cases c2:e.2.2.1=(x:Int)
   ·rw[if_pos (by simpa using c2),if_pos c2,aS (by simp;omega)];simp[qV,fwd,inv]
   ·rw[if_neg (by simpa using c2),if_neg c2];simp[qV,fwd,inv]) (by unfold fw;simp) (jd (by have:=G.m;omega))
 have this:aH (fw g x) ba (([] :List (Int×Bool)),0)=_:=this
 rw[this,List.take_length];rfl
theorem zx {g:GrT} (G:GOk g) {j:Nat} (hj:j<g.2.length):bV g (nth g.2 (j:Int)).1=some (j:Int):=by
 unfold bV
 have hm:=G.m
 obtain ⟨o,e,hq⟩:=dB (f:=bP g (nth g.2 (j:Int)).1) (fun i s=>s=(i:Int)/\i<=j) (fun o=>o= .ret (j:Int)) 12 (s:=0) (by
  rintro i s hi ⟨rfl,hij⟩
  unfold bP
  rw[if_pos (by simp;omega),aE (by omega) (by omega)];simp only[aa]
  by_cases c:i=j
  ·subst c
   exact .inr ⟨_,by rw[if_pos (by simp)],(fun s' e=>by cases e),rfl⟩
  ·have h1:=G.lt (i:=i) (j:=j) (by omega) hj
   exact .inl ⟨by omega,_,by rw[if_neg (by simp;omega),aI (by omega)],rfl,by omega⟩) ⟨rfl,by omega⟩ (by unfold ba;omega)
 subst hq
 rw[e];rfl
theorem Gj {g:GrT} (G:GOk g) {x:Nat} {y:ArT} (h:y∈fB g.2 x): ∃(j:Int) (e:EdT),bV g y.1.1=some j/\aU g.2 j=some e/\df e y.1.2=some y.2.1/\hO e y.1.2=some y.2.2:=by
 obtain ⟨e,he,hy⟩:=List.mem_flatMap.1 h
 obtain ⟨j,hj,rfl⟩:=qI he
 obtain ⟨h1,h2,h3⟩:=G.edge _ he
 refine ⟨j,nth g.2 (j:Int),?_,aE (by omega) (by omega),?_,?_⟩
 all_goals
  unfold Hr at hy
  rcases aB hy with hy | hy <;> split at hy
  ·obtain rfl:=al hy
   simp only[fwd]
   first | exact zx G hj | (unfold df;rw[be (n:=2*_) (by omega) (by omega)];rfl) | (unfold hO;rfl)
  ·cases hy
  ·obtain rfl:=al hy
   simp only[inv]
   first | exact zx G hj | (unfold df;rw[be (n:=2*_) (by omega) (by omega),be (by omega) (by omega)];rfl) | (unfold hO;rfl)
  ·cases hy
abbrev Ht:=(Int×Bool)×Int×Int
def stA (g:GrT) (a:AutT) (x s:Nat) (y:ArT):List Ht:=(behind a s (nth g.1 x) y.2.1).map fun t=>(y.1,y.2.2,t)
def stV (g:GrT) (a:AutT) (x s:Nat):List Ht:=(fB g.2 x).flatMap (stA g a x s)
theorem LM (g:GrT) (a:AutT) (x s:Nat):(stV g a x s).map (fun p=>p.2.1*(a.2.1.length:Int)+p.2.2)=nbV g a x s:=by
 unfold stV nbV
 rw[List.map_flatMap]
 congr 1
 funext y
 unfold stA nbA
 rw[List.map_map];rfl
section
variable {g:GrT} {a:AutT} (G:GOk g) (V:VA a a.2.1.length) (hn:a.2.1.length<=12)
include G V hn
theorem JM {x s:Nat} {y:ArT} (hx:x<g.1.length) (hs:s<a.2.1.length) (hy:y∈fB g.2 x):(stA g a x s y).length<=30:=by
 unfold stA;rw[List.length_map]
 exact (nD G V hn (s:=s) ⟨by omega,by omega⟩ (G.val _ (bK (by omega) (by omega))) (qP G hy).1).2.1
theorem MZ {x:Nat} {i:Nat} {e:EdT} {o:List Ht} {y:ArT} {C:Nat} (hC:C<2 ^ a.2.1.length) (hy:y∈fB g.2 x) (hi:aU ((fB g.2 x).map qV) (i:Int)=some (qV y)) (he:df e y.1.2=some y.2.1) :
  aH (dK a (C:Int) ((fB g.2 x).map qV) (o,(i:Int)) e) ba (0,0)=some (.brk ((afS a y.2.1.toNat C a.2.1.length:Int),(a.2.1.length:Int))):=by
 obtain ⟨k0,k1⟩:=(qP G hy).1
 have:=a6 (f:=dK a (C:Int) ((fB g.2 x).map qV) (o,(i:Int)) e) (fun q=>((afS a y.2.1.toNat C q:Int),(q:Int))) a.2.1.length (fun q hq=>by
  unfold dK
  simp only
  have he:df (e.1,e.2.1,e.2.2.1,e.2.2.2) (qV y).2=some y.2.1:=he
  have ek:y.2.1=((y.2.1.toNat:Nat):Int):=by omega
  have em:=V.get2 (s:=(q:Int)) (k:=y.2.1.toNat) (by omega) (by omega) (by omega)
  rw[<-ek] at em
  have hlt:=Dz V (k:=y.2.1.toNat) (C:=C) (by omega) q (by omega)
  have hC':C<2 ^ 62:=az hC (p62 (by omega))
  have hmv:=(V.mv (s:=(q:Int)) (k:=y.2.1.toNat) (by omega) (by omega) (by omega)).2
  rw[if_pos (by simp;omega),V.get (by omega) (by omega)];simp only[aa]
  rw[hi];simp only[aa]
  rw[he];simp only[aa]
  rw[em];simp only[aa]
  rw[fD (by omega),xW hC' (by omega),aI (by omega),afS];simp only[aa]
  by_cases b:C.testBit q=true
  ·rw[if_pos b]
   by_cases c:0<=D.mv a (q:Int) y.2.1.toNat
   ·obtain ⟨t,ht⟩: ∃t:Nat,D.mv a (q:Int) y.2.1.toNat=(t:Int):=⟨_,(Int.toNat_of_nonneg c).symm⟩
    rw[if_pos (by simpa using c),if_pos ⟨b,c⟩,fD c,ht,uj (by omega),Dw (az hlt (p62 (by omega))) (Nat.pow_lt_pow_right (by decide) (by omega))];rfl
   ·rw[if_neg (by simpa using c),if_neg (fun h=>c h.2)];rfl
  ·rw[if_neg b,if_neg (fun h=>b h.1)];rfl) (by unfold dK;simp) (jd (by omega))
 exact this
theorem M0 {x:Nat} {i:Nat} {e:EdT} {o:List Ht} {y:ArT} {m:Nat} (hm:m<2 ^ a.2.1.length) (ho:o.length<=100000) (hi:aU ((fB g.2 x).map qV) (i:Int)=some (qV y)) (he:hO e y.1.2=some y.2.2) {z:Int} :
  aH (dL a ((fB g.2 x).map qV) (o,(i:Int)) e ((m:Int),z)) ba (o,0)=some (.brk (o++(fb m 30).map (fun t=>(y.1,y.2.2,t)),(a.2.1.length:Int))):=by
 have:=a6 (f:=dL a ((fB g.2 x).map qV) (o,(i:Int)) e ((m:Int),z)) (fun q=>(o++(fb m q).map (fun t=>(y.1,y.2.2,t)),(q:Int))) a.2.1.length (fun q hq=>by
  unfold dL
  simp only
  have he:hO (e.1,e.2.1,e.2.2.1,e.2.2.2) (qV y).2=some y.2.2:=he
  have hm':m<2 ^ 62:=az hm (p62 (by omega))
  have hl:=kV m q
  rw[if_pos (by simp;omega),fD (by omega),xW hm' (by omega),aI (by omega),gP];simp only[aa]
  by_cases b:m.testBit q=true
  ·rw[if_pos b,if_pos b,hi];simp only[aa]
   rw[he];simp only[aa]
   rw[aS (by simp;omega)];simp only[aa,aF,ah];rfl
  ·rw[if_neg b,if_neg b];rfl) (by unfold dL;simp) (jd (by omega))
 rw[lG hm (show a.2.1.length<=30 by omega)]
 simpa [fb] using this
theorem JN {x s:Nat} (hx:x<g.1.length) (hs:s<a.2.1.length):c8 g a x s=some (stV g a x s):=by
 have hv:=G.val _ (bK (xs:=g.1) (i:=(x:Int)) (by omega) (by omega))
 have ec:=DD V hn (s:=(s:Int)) ⟨by omega,by omega⟩ hv
 have hC:=(nC V hn (s:=(s:Int)) ⟨by omega,by omega⟩ hv).2
 unfold c8
 rw[aE (by omega) (by omega)];simp only[aa]
 have ec:eK (a.1,a.2.1,a.2.2) (s:Int) (nth g.1 (x:Int))=_:=ec
 have ef:jk (g.1,g.2) (x:Int)=_:=LL G
 rw[ec,ef];simp only[aa]
 generalize hCC:cS a (s:Int) (nth g.1 (x:Int))=C at hC
 have l1:=lH g.2 x
 have hm:=G.m
 have:=a6 (f:=dM g a (C:Int) ((fB g.2 x).map qV)) (fun i=>(((fB g.2 x).take i).flatMap (stA g a x s),(i:Int))) (fB g.2 x).length (fun i hi=>by
  unfold dM
  simp only
  have hy:=List.getElem_mem hi
  generalize hyy:(fB g.2 x)[i] =y at hy
  have hi2:aU ((fB g.2 x).map qV) (i:Int)=some (qV y):=by rw[bO (by simpa using hi)];simp[hyy]
  obtain ⟨j,e,e1,e2,e3,e4⟩:=Gj G hy
  obtain ⟨k0,k1⟩:=(qP G hy).1
  rw[if_pos (by simp;omega),hi2];simp only[aa]
  have e1:bV (g.1,g.2) (qV y).1=_:=e1
  rw[e1];simp only[aa]
  rw[e2];simp only[aa]
  rw[aG (MZ G V hn hC hy hi2 e3)]
  have hlt:=Dz V (k:=y.2.1.toNat) (C:=C) (by omega) a.2.1.length (aA _)
  have hol:=kX (f:=stA g a x s) (B:=30) (xs:=(fB g.2 x).take i) fun z hz=>JM G V hn hx hs (List.mem_of_mem_take hz)
  have hol2:((fB g.2 x).take i).length<=24:=by rw[aD];omega
  rw[aG (M0 G V hn hlt (by omega) hi2 e4),aI (by omega)]
  congr 3
  have et:(fB g.2 x).take (i+1)=(fB g.2 x).take i++ [y]:=by rw[List.take_add_one];simp[hi,hyy]
  rw[et,List.flatMap_append]
  congr 1
  simp only[List.flatMap_cons,List.flatMap_nil,List.append_nil]
  unfold stA behind
  rw[hCC,lG hC (show a.2.1.length<=30 by omega),xX]) (by unfold dM;simp) (jd (by omega))
 rw[List.take_length] at this
 have this:aH (dM g a (C:Int) ((fB g.2 x).map qV)) ba (([] :List Ht),0)=_:=this
 rw[aG this];rfl
end
end D
namespace D
open Go.RowKit
abbrev BfT:=List Int×List Int
def Hu (d:Int) (s:BfT) (x:Int):BfT:=if nth s.1 x<0 then (s.1.set x.toNat d,s.2++ [x]) else s
def sM (d:Int) (s:BfT) (xs:List Int):BfT:=xs.foldl (Hu d) s
theorem wu (d:Int) (s:BfT) (xs:List Int) (x:Int):sM d s (xs++ [x])=Hu d (sM d s xs) x:=by simp[sM]
structure BI (N:Nat) (s:BfT):Prop where
 len:s.1.length=N
 nd:s.2.Nodup
 rng: ∀x∈s.2,0<=x/\x<N
 seen: ∀x:Int,0<=x->x<N->(nth s.1 x<0↔x∉s.2)
 top: ∀x:Int,0<=x->x<N-> -1<=nth s.1 x/\nth s.1 x<s.2.length
theorem BI.le {N:Nat} {s:BfT} (h:BI N s):s.2.length<=N:=by
 have:=h.nd.length_le_of_subset (l₂:=(List.range N).map fun i:Nat=>(i:Int)) (fun x hx=>by
  obtain ⟨h0,h1⟩:=h.rng x hx
  exact List.mem_map.2 ⟨x.toNat,List.mem_range.2 (by omega),by omega⟩)
 simpa using this
theorem BI.one {N:Nat} {s:BfT} (h:BI N s) {d x:Int} (hx:0<=x/\x<N) (hd:0<=d/\d<=s.2.length):BI N (Hu d s x)/\s.2 <+:(Hu d s x).2/\ ∀y,0<=y->0<=nth s.1 y->nth (Hu d s x).1 y=nth s.1 y:=by
 unfold Hu
 split
 ·rename_i hn
  have hnot:=(h.seen x hx.1 hx.2).1 hn
  refine ⟨⟨by simp[h.len],?_,?_,?_,?_⟩,List.prefix_append _ _,?_⟩
  ·exact List.nodup_append.2 ⟨h.nd,by simp,by rintro a ha b hb rfl;simp at hb;exact hnot (hb ▸ ha)⟩
  ·intro y hy
   rcases aB hy with hy | hy
   ·exact h.rng y hy
   ·obtain rfl:y=x:=by simpa using hy
    exact hx
  ·intro y h0 h1
   by_cases e:x=y
   ·subst e
    rw[da hx.1 (by rw[h.len];exact hx.2)]
    simp;omega
   ·rw[c7 hx.1 h0 e,h.seen y h0 h1]
    simp;omega
  ·intro y h0 h1
   by_cases e:x=y
   ·subst e
    rw[da hx.1 (by rw[h.len];exact hx.2)]
    simp;omega
   ·rw[c7 hx.1 h0 e]
    have:=h.top y h0 h1
    simp;omega
  ·intro y h0 h1
   refine c7 hx.1 h0 ?_
   rintro rfl
   omega
 ·exact ⟨h,List.prefix_refl _,fun y _ _=>rfl⟩
theorem BI.all {N:Nat} {d:Int} : ∀ {xs:List Int} {s:BfT},BI N s->(∀x∈xs,0<=x/\x<N)->(0<=d/\d<=s.2.length)->BI N (sM d s xs)/\s.2 <+:(sM d s xs).2/\ ∀y,0<=y->0<=nth s.1 y->nth (sM d s xs).1 y=nth s.1 y
 | [],s,h,_,_=>⟨h,List.prefix_refl _,fun _ _ _=>rfl⟩
 | x::xs,s,h,hx,hd=>by
  obtain ⟨h1,h2,h3⟩:=h.one (hx x (by simp)) hd
  have hl:=h2.length_le
  obtain ⟨k1,k2,k3⟩:=BI.all (xs:=xs) h1 (fun y hy=>hx y (by simp[hy])) ⟨hd.1,by omega⟩
  refine ⟨k1,h2.trans k2,fun y h0 hy=>?_⟩
  have e:=h3 y h0 hy
  exact (k3 y h0 (by rw[e];exact hy)).trans e
def bsS (nx:Int->List Int) (N:Nat) (v:Int):Nat->BfT
 | 0=>((List.replicate N (-1)).set v.toNat 0,[v])
 | i+1=>match (bsS nx N v i).2[i]? with
  | some x=>sM (nth (bsS nx N v i).1 x+1) (bsS nx N v i) (nx x)
  | none=>bsS nx N v i
section
variable {nx:Int->List Int} {N:Nat} {v:Int} (hv:0<=v/\v<N) (hn: ∀x:Int,0<=x->x<N-> ∀y∈nx x,0<=y/\y<N)
include hv
theorem JO {x:Int} (h0:0<=x) (h1:x<N):nth (List.replicate N (-1:Int)) x= -1:=by
 have:x.toNat<N:=by omega
 simp[nth,List.getD_eq_getElem?_getD,List.getElem?_replicate,this]
theorem BI.zero:BI N (bsS nx N v 0):=by
 refine ⟨by simp[bsS],by simp[bsS],fun x hx=>?_,fun x h0 h1=>?_,fun x h0 h1=>?_⟩
 ·obtain rfl:x=v:=by simpa [bsS] using hx
  exact hv
 all_goals
  unfold bsS
  by_cases e:v=x
  ·subst e
   rw[da hv.1 (by simpa using hv.2)]
   simp
  ·rw[c7 hv.1 h0 e,JO hv h0 h1]
   first | omega | (simp;omega) | simp
include hn
theorem um {i:Nat} (h:BI N (bsS nx N v i)):BI N (bsS nx N v (i+1))/\(bsS nx N v i).2 <+:(bsS nx N v (i+1)).2:=by
 rw[bsS]
 split
 ·rename_i x hx
  have hm:=List.mem_of_getElem? hx
  obtain ⟨x0,x1⟩:=h.rng x hm
  have hp: ¬nth (bsS nx N v i).1 x<0:=fun c=>(h.seen x x0 x1).1 c hm
  have ht:=h.top x x0 x1
  obtain ⟨k1,k2,_⟩:=h.all (xs:=nx x) (d:=nth (bsS nx N v i).1 x+1) (hn x x0 x1) ⟨by omega,by omega⟩
  exact ⟨k1,k2⟩
 ·exact ⟨h,List.prefix_refl _⟩
theorem qQ: ∀i,BI N (bsS nx N v i)
 | 0=>BI.zero hv
 | i+1=>(um hv hn (qQ i)).1
theorem xY: ∃K,K<=N/\K=(bsS nx N v K).2.length/\ ∀i,i<K->i<(bsS nx N v i).2.length:=by
 have key: ∀m i,i+m=N->(∀j,j<i->j<(bsS nx N v j).2.length)-> ∃K,K<=N/\K=(bsS nx N v K).2.length/\ ∀i,i<K->i<(bsS nx N v i).2.length:=by
  have hge: ∀i,(∀j,j<i->j<(bsS nx N v j).2.length)->i<=(bsS nx N v i).2.length:=by
   intro i hj
   cases i with
   | zero=>omega
   | succ i =>
    have:=hj i (by omega)
    have hp:=(um hv hn (qQ hv hn i)).2.length_le
    omega
  intro m
  induction m with
  | zero =>
   intro i hi hj
   have h1:=(qQ hv hn i).le
   have h2:=hge i hj
   exact ⟨i,by omega,by omega,hj⟩
  | succ m ih =>
   intro i hi hj
   by_cases h:i<(bsS nx N v i).2.length
   ·exact ih (i+1) (by omega) fun j hj'=>by
     by_cases e:j=i
     ·subst e;exact h
     ·exact hj j (by omega)
   ·have h2:=hge i hj
    exact ⟨i,by omega,by omega,hj⟩
 exact key N 0 (by omega) (by omega)
end
end D
namespace D
open Go.RowKit
theorem JP:(List.range 61).all (fun N=>decide (bs [-1] (N:Int)=some (List.replicate N (-1))))=true:=by kernel_rfl
theorem LN {N:Nat} (h:N<=60):bs [-1] (N:Int)=some (List.replicate N (-1)):=
 of_decide_eq_true (List.all_eq_true.1 JP N (List.mem_range.2 (by omega)))
theorem Gk {α:Type} {xs:List α} {i:Nat} {x:α} (h:i<=xs.length):(xs++ [x]).drop i=xs.drop i++ [x]:=List.drop_append_of_le_length h
theorem sN {α:Type} {xs:List α} {i:Nat} {x:α} (h:xs[i]? =some x):aU (xs.drop i) 0=some x:=by
 unfold aU
 rw[if_pos (by decide)]
 simpa using h
section
variable {nx:Int->List Int} {N:Nat} {v:Int} (hN:N<=60) (hv:0<=v/\v<N) (hn: ∀x:Int,0<=x->x<N-> ∀y∈nx x,0<=y/\y<N) (hl: ∀x,(nx x).length<=100000)
include hN hv hn hl
theorem JQ {i:Nat} {x:Int} (hx:(bsS nx N v i).2[i]? =some x) (j:Nat) :
  BI N (sM (nth (bsS nx N v i).1 x+1) (bsS nx N v i) ((nx x).take j))/\(sM (nth (bsS nx N v i).1 x+1) (bsS nx N v i) ((nx x).take j)).2[i]? =some x/\nth (sM (nth (bsS nx N v i).1 x+1) (bsS nx N v i) ((nx x).take j)).1 x=nth (bsS nx N v i).1 x/\(0<=x/\x<N)/\(0<=nth (bsS nx N v i).1 x/\nth (bsS nx N v i).1 x<60)/\i<(sM (nth (bsS nx N v i).1 x+1) (bsS nx N v i) ((nx x).take j)).2.length:=by
 have h:=qQ hv hn i
 have hm:=List.mem_of_getElem? hx
 obtain ⟨x0,x1⟩:=h.rng x hm
 have hp: ¬nth (bsS nx N v i).1 x<0:=fun c=>(h.seen x x0 x1).1 c hm
 have ht:=h.top x x0 x1
 have hle:=h.le
 obtain ⟨k1,k2,k3⟩:=h.all (xs:=(nx x).take j) (d:=nth (bsS nx N v i).1 x+1) (fun y hy=>hn x x0 x1 y (List.mem_of_mem_take hy)) ⟨by omega,by omega⟩
 obtain ⟨t,ht'⟩:=k2
 have hi:=(List.getElem?_eq_some_iff.1 hx).1
 have e:(sM (nth (bsS nx N v i).1 x+1) (bsS nx N v i) ((nx x).take j)).2[i]? =some x:=by
  rw[<-ht',List.getElem?_append_left hi,hx]
 exact ⟨k1,e,k3 x x0 (by omega),⟨x0,x1⟩,⟨by omega,by omega⟩,(List.getElem?_eq_some_iff.1 e).1⟩
theorem M1 {i:Nat} {x:Int} (hx:(bsS nx N v i).2[i]? =some x) :
  aH (bY (nx x)) ba ((bsS nx N v i).2.drop i,0,(bsS nx N v i).1)=some (.brk ((bsS nx N v (i+1)).2.drop i,((nx x).length:Int),(bsS nx N v (i+1)).1)):=by
 have:=a6 (f:=bY (nx x)) (fun j=>((sM (nth (bsS nx N v i).1 x+1) (bsS nx N v i) ((nx x).take j)).2.drop i,(j:Int),(sM (nth (bsS nx N v i).1 x+1) (bsS nx N v i) ((nx x).take j)).1)) (nx x).length (fun j hj=>by
  have hlx:=hl x
  obtain ⟨k1,k2,k3,⟨x0,x1⟩,k4,k5⟩:=JQ hN hv hn hl hx j
  have hy:=hn x x0 x1 _ (bK (xs:=nx x) (i:=(j:Int)) (by omega) (by omega))
  unfold bY
  simp only
  rw[kW hj,wu]
  generalize sM (nth (bsS nx N v i).1 x+1) (bsS nx N v i) ((nx x).take j)=s at k1 k2 k3 k5
  have hle:=k1.le
  have hlen:=k1.len
  rw[if_pos (by simp;omega),aE (by omega) (by omega)];simp only[aa]
  rw[aE (xs:=s.1) hy.1 (by omega)];simp only[aa]
  rw[sN k2];simp only[aa]
  rw[aE (xs:=s.1) x0 (by omega)];simp only[aa]
  rw[aS (by simp;omega),aI (by omega),k3,be (by omega) (by omega)]
  unfold Hu
  by_cases c:nth s.1 (nth (nx x) (j:Int))<0
  ·rw[if_pos (by simpa using c),if_pos c,Gk (by omega)];rfl
  ·rw[if_neg (by simpa using c),if_neg c];rfl) (by unfold bY;simp) (jd (by have:=hl x;omega))
 rw[List.take_length] at this
 have e:bsS nx N v (i+1)=sM (nth (bsS nx N v i).1 x+1) (bsS nx N v i) (nx x):=by rw[bsS,hx]
 rw[e]
 exact this
theorem zy {K:Nat} (hK:K<=N) (hE:K=(bsS nx N v K).2.length) (hR: ∀i,i<K->i<(bsS nx N v i).2.length):gN (rm N fun z=>nx (z:Int)) [v] =some (bsS nx N v K).1:=by
 unfold gN
 rw[lX,LN hN];simp only[aa]
 have e0:aH (bX [v]) ba (([] :List Int),0,List.replicate N (-1))=some (.brk ([v],1,(bsS nx N v 0).1)):=by
  have:=a6 (f:=bX [v]) (fun j=>if j=0 then (([] :List Int),(0:Int),List.replicate N (-1:Int)) else ([v],1,(bsS nx N v 0).1)) 1 (fun j hj=>by
   obtain rfl:j=0:=by omega
   unfold bX
   simp only[if_true]
   rw[if_pos (by simp),show aU [v] 0=some v from rfl];simp only[aa]
   rw[aE (xs:=List.replicate N (-1)) hv.1 (by simpa using hv.2)];simp only[aa]
   rw[aS (by simp)];rfl) (by unfold bX;simp) (by unfold ba;omega)
  exact this
 rw[aG e0]
 have:=a6 (f:=cz (rm N fun z=>nx (z:Int))) (fun i=>((bsS nx N v i).2.drop i,(bsS nx N v i).1)) K (fun i hi=>by
  have hi2:=hR i hi
  obtain ⟨x,hx⟩: ∃x,(bsS nx N v i).2[i]? =some x:=⟨_,List.getElem?_eq_getElem hi2⟩
  obtain ⟨k1,k2,k3,⟨x0,x1⟩,k4,k5⟩:=JQ hN hv hn hl hx 0
  unfold cz
  simp only
  rw[if_pos (by simp;omega),sN hx];simp only[aa]
  obtain ⟨z,rfl⟩: ∃z:Nat,x=(z:Int):=⟨_,(Int.toNat_of_nonneg x0).symm⟩
  rw[mz (by omega)];simp only[aa]
  rw[aG (M1 hN hv hn hl hx)]
  have hp:=(um hv hn (qQ hv hn i)).2.length_le
  rw[fD (by simp;omega)];simp only[aa]
  rw[List.drop_drop]) (by
  unfold cz
  rw[if_neg (by simp;omega)]) (jd (by omega))
 have this:aH (cz (rm N fun z=>nx (z:Int))) ba ([v],(bsS nx N v 0).1)=_:=this
 rw[aG this]
end
end D
namespace D
open Go.RowKit
theorem uo {n:Nat} {r:List Int} :(∀t∈r,-1<=t/\t<=(n:Int) - 1)↔ ∀t∈r,-1<=t/\t<(n:Int):=forall_congr' fun t=>forall_congr' fun _=>and_congr Iff.rfl (by omega)
theorem LO (a:AutT) (h1:a.2.1.length<=9223372036854775807) (h2:a.2.2.length<=9223372036854775807): ∃b,hY a=some b/\(b=true↔VA a a.2.1.length):=by
 unfold hY
 rw[Kh];simp only[aa,jD h1]
 by_cases c1:0<=a.1/\a.1<=(a.2.1.length:Int) - 1
 case neg=>exact ⟨false,by rw[if_neg (by simpa using c1)],by simp;exact fun h=>c1 ⟨h.start.1,by have:=h.start.2;omega⟩⟩
 rw[if_pos (by simpa using c1)]
 by_cases c2:a.2.2.length=a.2.1.length
 case neg=>exact ⟨false,by rw[if_pos (by simp;omega)],by simp;exact fun h=>c2 h.nlen⟩
 rw[if_neg (by simp;omega)]
 have inner: ∀i:Nat,i<a.2.2.length->(nth a.2.2 i).length=9->(aH (dw a i) ba 0=some (.brk 9)/\ ∀t∈nth a.2.2 (i:Int),-1<=t/\t<=(a.2.1.length:Int) - 1)\/(aH (dw a i) ba 0=some (.ret false)/\ ¬ ∀t∈nth a.2.2 (i:Int),-1<=t/\t<=(a.2.1.length:Int) - 1):=by
  intro i hi hr
  have:=scan (f:=dw a i) (nth a.2.2 (i:Int)) (fun t=> -1<=t/\t<=(a.2.1.length:Int) - 1) false (by omega) (fun j hj=>by
   unfold dw
   rw[if_pos (by simp;omega),aE (by omega) (by omega)];simp only[aa]
   rw[aE (by omega) (by omega)];simp only[aa,jD h1]
   rw[Kh];simp only[aa,aI (show j<9223372036854775807 by omega)]
   by_cases c: -1<=nth (nth a.2.2 (i:Int)) (j:Int)/\nth (nth a.2.2 (i:Int)) (j:Int)<=(a.2.1.length:Int) - 1
   ·rw[if_pos (by simpa using c),if_pos c]
   ·rw[if_neg (by simpa using c),if_neg c]) (by unfold dw;rw[if_neg (by simp[hr])])
  rwa [hr] at this
 have outer:=scan (f:=fO a) a.2.2 (fun r=>r.length=9/\ ∀t∈r,-1<=t/\t<=(a.2.1.length:Int) - 1) false h2 (fun i hi=>by
  unfold fO
  rw[if_pos (by simp;omega),aE (by omega) (by omega)];simp only[aa]
  by_cases c:(nth a.2.2 (i:Int)).length=9
  ·rw[if_neg (by simp;omega)]
   rcases inner i hi c with ⟨e,k⟩ | ⟨e,k⟩
   ·rw[aG e,if_pos ⟨c,k⟩,aI (show i<9223372036854775807 by omega)]
   ·rw[dt e,if_neg (fun h=>k h.2)]
  ·rw[if_pos (by simp;omega),if_neg (fun h=>c h.1)]) (by unfold fO;rw[if_neg (by simp;omega)])
 rcases outer with ⟨e,k⟩ | ⟨e,k⟩
 ·exact ⟨true,by rw[aG e],by simp;exact ⟨rfl,⟨c1.1,by omega⟩,c2,fun r hr=>(k r hr).1,fun r hr=>uo.1 (k r hr).2⟩⟩
 ·exact ⟨false,by rw[dt e],by simp;exact fun h=>k fun r hr=>⟨h.row r hr,uo.2 (h.ent r hr)⟩⟩
theorem JR (a:AutT) (h1:a.2.1.length<=9223372036854775807) (h2:a.2.2.length<=9223372036854775807): ∃b,bt a=some b/\(b=true↔a.2.1.length<=12/\VA a a.2.1.length):=by
 unfold bt
 by_cases c:a.2.1.length<=12
 ·rw[if_pos (by simp;omega)]
  obtain ⟨b,e,hb⟩:=LO a h1 h2
  exact ⟨b,by show (hY a).bind _=_;rw[e];rfl,by rw[hb];simp[c]⟩
 ·exact ⟨false,by rw[if_neg (by simp;omega)],by simp;exact fun h=>absurd h c⟩
theorem JS (a:AutT) (h1:a.2.1.length<=9223372036854775807) (h2:a.2.2.length<=9223372036854775807) (h3: ∀r∈a.2.2,r.length<=9223372036854775807): ∃b,bu a=some b/\(b=true↔a.2.1.length<=12/\VA a a.2.1.length):=by
 unfold bu
 rw[Hi];simp only[aa,jD h1]
 by_cases c0:1<=(a.2.1.length:Int)/\(a.2.1.length:Int)<=12
 case neg=>exact ⟨false,by rw[if_neg (by simpa using c0)],by simp;exact fun h h'=>c0 ⟨by have:=h'.start;omega,by omega⟩⟩
 rw[if_pos (by simpa using c0),Hi];simp only[aa]
 by_cases c1:0<=a.1/\a.1<=(a.2.1.length:Int) - 1
 case neg=>exact ⟨false,by rw[if_neg (by simpa using c1)],by simp;exact fun _ h=>c1 ⟨h.start.1,by have:=h.start.2;omega⟩⟩
 rw[if_pos (by simpa using c1)]
 by_cases c2:a.2.2.length=a.2.1.length
 case neg=>exact ⟨false,by rw[if_pos (by simp;omega)],by simp;exact fun _ h=>c2 h.nlen⟩
 rw[if_neg (by simp;omega)]
 have inner: ∀x:List Int,x.length<=9223372036854775807->(aH (bh a x) ba 0=some (.brk (x.length:Int))/\ ∀t∈x,-1<=t/\t<=(a.2.1.length:Int) - 1)\/(aH (bh a x) ba 0=some (.ret false)/\ ¬ ∀t∈x,-1<=t/\t<=(a.2.1.length:Int) - 1):=by
  intro x hx
  refine scan (f:=bh a x) x (fun t=> -1<=t/\t<=(a.2.1.length:Int) - 1) false hx (fun j hj=>?_) (by unfold bh;rw[if_neg (by simp)])
  unfold bh
  rw[if_pos (by simp;omega),aE (by omega) (by omega)];simp only[aa,jD h1]
  rw[Hi];simp only[aa,aI (show j<9223372036854775807 by omega)]
  by_cases c: -1<=nth x (j:Int)/\nth x (j:Int)<=(a.2.1.length:Int) - 1
  ·rw[if_pos (by simpa using c),if_pos c]
  ·rw[if_neg (by simpa using c),if_neg c]
 have outer:=scan (f:=bW a) a.2.2 (fun r=>(∀t∈r,-1<=t/\t<=(a.2.1.length:Int) - 1)/\r.length=9) false h2 (fun i hi=>by
  unfold bW
  rw[if_pos (by simp;omega),aE (by omega) (by omega)];simp only[aa]
  rcases inner (nth a.2.2 (i:Int)) (h3 _ (bK (by omega) (by omega))) with ⟨e,k⟩ | ⟨e,k⟩
  ·rw[aG e]
   by_cases c:(nth a.2.2 (i:Int)).length=9
   ·rw[if_neg (by simp;omega),if_pos ⟨k,c⟩,aI (show i<9223372036854775807 by omega)]
   ·rw[if_pos (by simp;omega),if_neg (fun h=>c h.2)]
  ·rw[dt e,if_neg (fun h=>k h.1)]) (by unfold bW;rw[if_neg (by simp)])
 rcases outer with ⟨e,k⟩ | ⟨e,k⟩
 ·exact ⟨true,by rw[aG e],by simp;exact ⟨by omega,rfl,⟨c1.1,by omega⟩,c2,fun r hr=>(k r hr).2,fun r hr=>uo.1 (k r hr).1⟩⟩
 ·exact ⟨false,by rw[dt e],by simp;exact fun _ h=>k fun r hr=>⟨uo.2 (h.ent r hr),h.row r hr⟩⟩
end D
namespace D
open Go.RowKit
theorem wv (g:GrT):bQ g=bf g:=by
 have h0:hZ g=cg g:=rfl
 have h1:eX g=bA g:=by
  funext s
  unfold eX bA
  split
  ·cases hx:aU g.2 s with
   | none=>rfl
   | some x=>rfl
  ·rfl
 unfold bQ bf
 rw[h0,h1];rfl
def GOOD (g:GrT) (a:AutT):Prop:=GOk g/\a.2.1.length<=12/\VA a a.2.1.length
theorem JT (g:GrT) (a:AutT) (hg:Data.sm g) (ha:Data.sm a): ∃b c,bQ g=some b/\bf g=some b/\bt a=some c/\bu a=some c/\(b=true↔JJ g)/\(c=true↔a.2.1.length<=12/\VA a a.2.1.length):=by
 obtain ⟨b,e1,k1⟩:=zw g (fA hg.1).1 (fA hg.2).1
 have hb:=(fA ha.2.1).1
 have hn:=fA ha.2.2
 obtain ⟨c,e2,k2⟩:=JS a (by omega) (by omega) (fun r hr=>by have:=(fA (hn.2 r hr)).1;omega)
 obtain ⟨c',e3,k3⟩:=JR a (by omega) (by omega)
 have hc:c'=c:=by
  cases c <;> cases c' <;> simp_all
 subst hc
 exact ⟨b,c',by rw[wv,e1],e1,e3,e2,k1,k2⟩
theorem zz (g:GrT) (a:AutT) (hg:Data.sm g) (ha:Data.sm a) (x:Int): ∃b,eY g a x 0=some b/\cU g a [x] =some b/\(b=true↔(JJ g/\GOOD g a)/\0<=x/\x<g.1.length):=by
 obtain ⟨b,c,e1,e2,e3,e4,k1,k2⟩:=JT g a hg ha
 have hl:=(fA hg.1).1
 have hla:=(fA ha.2.1).1
 have ew:IntKind.i64.wrap ((g.1.length:Int) - 1)=(g.1.length:Int) - 1:=be (by omega) (by omega)
 have ew2:IntKind.i64.wrap ((a.2.1.length:Int) - 1)=(a.2.1.length:Int) - 1:=be (by omega) (by omega)
 have es:eY g a x 0=some (b&&(c&&(decide (0<=x/\x<=(g.1.length:Int) - 1)))):=by
  unfold eY
  have e1:bQ (g.1,g.2)=_:=e1
  have e3:bt (a.1,a.2.1,a.2.2)=_:=e3
  rw[e1,e3,Kh,Kh,ew,ew2];simp only[aa]
  cases b <;> cases c <;> simp only[Bool.false_eq_true,if_false,if_true,Bool.false_and,Bool.true_and]
  by_cases h:0<=x/\x<=(g.1.length:Int) - 1
  ·have:=(k2.1 rfl).2.start
   simp only[h,and_self,decide_true,if_true]
   rw[decide_eq_true (by omega)]
  ·rw[decide_eq_false h];rfl
 have ei:cU g a [x] =some (b&&(c&&(decide (0<=x/\x<=(g.1.length:Int) - 1)))):=by
  unfold cU
  have e2:bf (g.1,g.2)=_:=e2
  have e4:bu (a.1,a.2.1,a.2.2)=_:=e4
  rcases JI (f:=gC g [x]) 1 (fun _=>0<=x/\x<=(g.1.length:Int) - 1) false (by decide) (fun i hi=>by
   obtain rfl:i=0:=by omega
   unfold gC
   rw[if_pos (by simp),show aU [x] ((0:Nat):Int)=some x from rfl];simp only[aa]
   rw[Hi,ew];simp only[aa,decide_eq_true_eq]
   split <;> rfl) (by unfold gC;simp) with ⟨k,h⟩ | ⟨k,h⟩
  ·rw[aG k,e2,e4];simp only[aa]
   rw[decide_eq_true (h 0 (by decide))]
   cases b <;> cases c <;> rfl
  ·rw[dt k,decide_eq_false (fun c=>h fun _ _=>c)]
   cases b <;> cases c <;> rfl
 refine ⟨_,es,ei,fun hb=>?_,fun hb=>?_⟩
 ·simp only[af,decide_eq_true_eq] at hb
  obtain ⟨h1,h2,h3⟩:=hb
  exact ⟨⟨k1.1 h1,(k1.1 h1).1,(k2.1 h2).1,(k2.1 h2).2⟩,h3.1,by omega⟩
 ·simp only[af,decide_eq_true_eq]
  exact ⟨k1.2 hb.1.1,k2.2 hb.1.2.2,hb.2.1,by have:=hb.2.2;omega⟩
theorem DE (g:GrT) (a:AutT) (hg:Data.sm g) (ha:Data.sm a) (x:Int): ∃b,eY g a x 0=some b/\cU g a [x] =some b/\(b=true->GOOD g a/\0<=x/\x<g.1.length):=by
 obtain ⟨b,h1,h2,h3⟩:=zz g a hg ha x
 exact ⟨b,h1,h2,fun h=>⟨(h3.1 h).1.2,(h3.1 h).2⟩⟩
def nxC (g:GrT) (a:AutT) (z:Int):List Int:=nbC g a z.toNat
section
variable {g:GrT} {a:AutT} (H:GOOD g a)
include H
theorem GOOD.divmod {x:Int} (h0:0<=x) (h1:x<(a.2.1.length*g.1.length:Nat)):x.toNat / a.2.1.length<g.1.length/\x.toNat % a.2.1.length<a.2.1.length:=by
 have hp:=H.2.2.pos
 exact ⟨(Nat.div_lt_iff_lt_mul hp).2 (by rw[Nat.mul_comm];omega),Nat.mod_lt _ hp⟩
theorem LP (x:Int) (h0:0<=x) (h1:x<(a.2.1.length*g.1.length:Nat)): ∀y∈nxC g a x,0<=y/\y<(a.2.1.length*g.1.length:Nat):=by
 obtain ⟨k1,k2⟩:=H.divmod h0 h1
 exact LJ H.1 H.2.2 H.2.1 k1 k2
theorem JU {x:Int} (h0:0<=x) (h1:x<(a.2.1.length*g.1.length:Nat)):(nxC g a x).length<=720:=by
 obtain ⟨k1,k2⟩:=H.divmod h0 h1
 have:=kX (f:=nbA g a (x.toNat / a.2.1.length) (x.toNat % a.2.1.length)) (B:=30) (xs:=fB g.2 (x.toNat / a.2.1.length)) fun y hy=>DC H.1 H.2.2 H.2.1 k1 k2 hy
 have l1:=lH g.2 (x.toNat / a.2.1.length)
 have:=H.1.m
 show (nbV g a _ _).length<=720
 unfold nbV
 omega
end
def nxN (g:GrT) (a:AutT) (z:Int):List Int:=if 0<=z/\z<(a.2.1.length*g.1.length:Nat) then nxC g a z else []
section
variable {g:GrT} {a:AutT} (H:GOOD g a)
include H
theorem fE: ∀x:Int,0<=x->x<(a.2.1.length*g.1.length:Nat)-> ∀y∈nxN g a x,0<=y/\y<(a.2.1.length*g.1.length:Nat):=fun x h0 h1=>by
 unfold nxN;rw[if_pos ⟨h0,h1⟩];exact LP H x h0 h1
theorem j3 (x:Int):(nxN g a x).length<=720:=by
 unfold nxN;split
 ·rename_i h;exact JU H h.1 h.2
 ·simp
theorem DF:bw g a=some (rm (a.2.1.length*g.1.length) fun z=>nxN g a (z:Int)):=by
 rw[JL H.1 H.2.2 H.2.1]
 congr 1
 refine gK fun z hz=>?_
 unfold nxN
 rw[if_pos ⟨by omega,by omega⟩];rfl
theorem zA {x:Int} (h0:0<=x) (h1:x<(a.2.1.length*g.1.length:Nat)): ∃l:List Ht,c8 g a (A3 x (a.2.1.length:Int)) (Int.tmod x (a.2.1.length:Int))=some l/\l.map (fun p=>p.2.1*(a.2.1.length:Int)+p.2.2)=nxN g a x/\ ∀p∈l,(0<=p.2.1/\p.2.1<60)/\0<=p.2.2/\p.2.2<60:=by
 obtain ⟨k1,k2⟩:=H.divmod h0 h1
 have hp:=H.2.2.pos
 have hN:=nN H.1 H.2.2 H.2.1
 have e1:A3 x (a.2.1.length:Int)=((x.toNat / a.2.1.length:Nat):Int):=by
  unfold A3
  have:x.tdiv (a.2.1.length:Int)=((x.toNat / a.2.1.length:Nat):Int):=by
   rw[Int.tdiv_eq_ediv_of_nonneg h0]
   rw[show x / (a.2.1.length:Int)=((x.toNat:Nat):Int) / (a.2.1.length:Int) from by rw[Int.toNat_of_nonneg h0]]
   simp
  rw[this,pg (by have:=H.1.n5;omega)]
 have e2:Int.tmod x (a.2.1.length:Int)=((x.toNat % a.2.1.length:Nat):Int):=by
  rw[Int.tmod_eq_emod_of_nonneg h0]
  rw[show x % (a.2.1.length:Int)=((x.toNat:Nat):Int) % (a.2.1.length:Int) from by rw[Int.toNat_of_nonneg h0]]
  simp
 refine ⟨_,by rw[e1,e2];exact JN H.1 H.2.2 H.2.1 k1 k2,?_,fun p hp=>?_⟩
 ·rw[LM];unfold nxN;rw[if_pos ⟨h0,h1⟩];rfl
 ·obtain ⟨y,hy,hp⟩:=List.mem_flatMap.1 hp
  obtain ⟨t,ht,rfl⟩:=List.mem_map.1 hp
  have h2:=(qP H.1 hy).2
  have h3:=(nD H.1 H.2.2 H.2.1 (s:=((x.toNat % a.2.1.length:Nat):Int)) ⟨by omega,by omega⟩ (H.1.val _ (bK (xs:=g.1) (i:=((x.toNat / a.2.1.length:Nat):Int)) (Int.natCast_nonneg _) (Int.ofNat_lt.2 k1))) (qP H.1 hy).1).1 t ht
  have:=H.1.n5
  have:=H.2.1
  exact ⟨⟨h2.1,by simp only;omega⟩,h3.1,by simp only;omega⟩
end
def RKs (g:GrT) (a:AutT) (v:Int):List Int:=(bsS (nxN g a) (a.2.1.length*g.1.length) v (a.2.1.length*g.1.length)).1
theorem po {nx:Int->List Int} {N:Nat} {v:Int} (hv:0<=v/\v<N) (hn: ∀x:Int,0<=x->x<N-> ∀y∈nx x,0<=y/\y<N) {K:Nat} (hE:K=(bsS nx N v K).2.length): ∀d,bsS nx N v (K+d)=bsS nx N v K
 | 0=>rfl
 | d+1=>by
  have ih:=po hv hn hE d
  rw[<-Nat.add_assoc,bsS,ih]
  have:(bsS nx N v K).2[K+d]? =none:=List.getElem?_eq_none (by omega)
  rw[this]
section
variable {g:GrT} {a:AutT} (H:GOOD g a) {x:Int} (hx:0<=x/\x<g.1.length)
include H hx
theorem AZ:0<=x*(a.2.1.length:Int)+a.1/\x*(a.2.1.length:Int)+a.1<(a.2.1.length*g.1.length:Nat):=by
 obtain ⟨z,rfl⟩: ∃z:Nat,x=(z:Int):=⟨_,(Int.toNat_of_nonneg hx.1).symm⟩
 have hs:=H.2.2.start
 obtain ⟨s,hs'⟩: ∃s:Nat,a.1=(s:Int):=⟨_,(Int.toNat_of_nonneg hs.1).symm⟩
 rw[hs'] at hs⊢
 have:=cN H.1 H.2.2 H.2.1 (x:=z) (s:=s) (by omega) (by omega)
 constructor
 ·exact Int.add_nonneg (Int.mul_nonneg (by omega) (by omega)) (by omega)
 ·exact_mod_cast this
theorem Hv:IntKind.i64.wrap ((IntKind.i64.wrap (x*(a.2.1.length:Int)))+a.1)=x*(a.2.1.length:Int)+a.1:=by
 have h:=AZ H hx
 have hN:=nN H.1 H.2.2 H.2.1
 have hs:=H.2.2.start
 have hn:=H.2.1
 have h5:=H.1.n5
 rw[be (n:=x*(a.2.1.length:Int)) (by omega) (by omega),be (by omega) (by omega)]
theorem LQ:BI (a.2.1.length*g.1.length) (bsS (nxN g a) (a.2.1.length*g.1.length) (x*(a.2.1.length:Int)+a.1) (a.2.1.length*g.1.length)):=qQ (AZ H hx) (fE H) _
theorem zB:(RKs g a (x*(a.2.1.length:Int)+a.1)).length=a.2.1.length*g.1.length:=(LQ H hx).len
theorem Hw {i:Int} (h0:0<=i) (h1:i<(a.2.1.length*g.1.length:Nat)): -1<=nth (RKs g a (x*(a.2.1.length:Int)+a.1)) i/\nth (RKs g a (x*(a.2.1.length:Int)+a.1)) i<60:=by
 have h:=LQ H hx
 have ht:=h.top i h0 h1
 have hl:=h.le
 have hN:=nN H.1 H.2.2 H.2.1
 unfold RKs
 omega
theorem LR (e:cU g a [x] =some true):b7 g a x=some (RKs g a (x*(a.2.1.length:Int)+a.1)):=by
 unfold b7
 have e:cU (g.1,g.2) (a.1,a.2.1,a.2.2) [x] =_:=e
 rw[e];simp only[aa,if_true]
 have e2:bw (g.1,g.2) (a.1,a.2.1,a.2.2)=_:=DF H
 rw[e2];simp only[aa]
 have hN:=nN H.1 H.2.2 H.2.1
 obtain ⟨K,hK,hE,hR⟩:=xY (AZ H hx) (fE H)
 rw[Hv H hx,zy hN (AZ H hx) (fE H) (fun x=>by have:=j3 H x;omega) hK hE hR];simp only[aa]
 have hk:bsS (nxN g a) (a.2.1.length*g.1.length) (x*(a.2.1.length:Int)+a.1) K=bsS (nxN g a) (a.2.1.length*g.1.length) (x*(a.2.1.length:Int)+a.1) (a.2.1.length*g.1.length):=by
  have:=po (AZ H hx) (fE H) hE (a.2.1.length*g.1.length - K)
  rw[show K+(a.2.1.length*g.1.length - K)=a.2.1.length*g.1.length from by omega] at this
  exact this.symm
 have hl:=zB H hx
 rw[hk]
 show ((chk _).bind fun _=>_).bind _=_
 have hv:=AZ H hx
 rw[fD (by rw[show (bsS _ _ _ _).1.length=_ from hl];omega)];rfl
theorem M2 {o1 o2:List Int} {i:Nat} {z:Int} {l:List Ht} (hz:(bsS (nxN g a) (a.2.1.length*g.1.length) (x*(a.2.1.length:Int)+a.1) i).2[i]? =some z)
  (hl:l.map (fun p=>p.2.1*(a.2.1.length:Int)+p.2.2)=nxN g a z) (hp: ∀p∈l,(0<=p.2.1/\p.2.1<60)/\0<=p.2.2/\p.2.2<60) :
  aH (dO a (o1,o2,(i:Int)) l) ba ((bsS (nxN g a) (a.2.1.length*g.1.length) (x*(a.2.1.length:Int)+a.1) i).1,(bsS (nxN g a) (a.2.1.length*g.1.length) (x*(a.2.1.length:Int)+a.1) i).2,0)=some (.brk ((bsS (nxN g a) (a.2.1.length*g.1.length) (x*(a.2.1.length:Int)+a.1) (i+1)).1,(bsS (nxN g a) (a.2.1.length*g.1.length) (x*(a.2.1.length:Int)+a.1) (i+1)).2,(l.length:Int))):=by
 have hN:=nN H.1 H.2.2 H.2.1
 have hv:=AZ H hx
 have hnn:=H.2.1
 generalize hV:x*(a.2.1.length:Int)+a.1=v at hz hv⊢
 have hlen:l.length<=720:=by have:=j3 H z;rw[<-hl,List.length_map] at this;exact this
 have e:bsS (nxN g a) (a.2.1.length*g.1.length) v (i+1)=sM (nth (bsS (nxN g a) (a.2.1.length*g.1.length) v i).1 z+1) (bsS (nxN g a) (a.2.1.length*g.1.length) v i) (nxN g a z):=by rw[bsS,hz]
 have:=a6 (f:=dO a (o1,o2,(i:Int)) l) (fun j=>((sM (nth (bsS (nxN g a) (a.2.1.length*g.1.length) v i).1 z+1) (bsS (nxN g a) (a.2.1.length*g.1.length) v i) ((nxN g a z).take j)).1,(sM (nth (bsS (nxN g a) (a.2.1.length*g.1.length) v i).1 z+1) (bsS (nxN g a) (a.2.1.length*g.1.length) v i) ((nxN g a z).take j)).2,(j:Int))) l.length (fun j hj=>by
  obtain ⟨k1,k2,k3,⟨x0,x1⟩,k4,k5⟩:=JQ hN hv (fE H) (fun x=>by have:=j3 H x;omega) hz j
  have hjn:j<(nxN g a z).length:=by rw[<-hl,List.length_map];exact hj
  have hy:=fE H z x0 x1 _ (bK (xs:=nxN g a z) (i:=(j:Int)) (by omega) (by omega))
  have hq:=hp _ (bK (xs:=l) (i:=(j:Int)) (by omega) (by omega))
  have hyl:nth (nxN g a z) (j:Int)=(nth l (j:Int)).2.1*(a.2.1.length:Int)+(nth l (j:Int)).2.2:=by rw[<-hl,Dc (by omega) (by omega)]
  unfold dO
  simp only
  rw[kW hjn,wu]
  generalize sM (nth (bsS (nxN g a) (a.2.1.length*g.1.length) v i).1 z+1) (bsS (nxN g a) (a.2.1.length*g.1.length) v i) ((nxN g a z).take j)=s at k1 k2 k3 k5
  have hle:=k1.le
  have hsl:=k1.len
  rw[if_pos (by simp;omega),aE (by omega) (by omega)];simp only[aa]
  rw[be (n:=(nth l (j:Int)).2.1*(a.2.1.length:Int)) (by omega) (by omega),<-hyl,be (by omega) (by omega)]
  rw[aE (xs:=s.1) hy.1 (by omega)];simp only[aa]
  rw[show aU s.2 (i:Int)=some z from by unfold aU;rw[if_pos (by omega)];exact k2];simp only[aa]
  rw[aE (xs:=s.1) x0 (by omega)];simp only[aa]
  rw[aS (by simp;omega),aI (by omega),k3,be (by omega) (by omega)]
  unfold Hu
  by_cases c:nth s.1 (nth (nxN g a z) (j:Int))<0
  ·rw[if_pos (by simpa using c),if_pos c];rfl
  ·rw[if_neg (by simpa using c),if_neg c];rfl) (by unfold dO;simp) (jd (by omega))
 have et:(nxN g a z).take l.length=nxN g a z:=by
  have:l.length=(nxN g a z).length:=by rw[<-hl,List.length_map]
  rw[this,List.take_length]
 rw[et] at this
 rw[e]
 exact this
theorem JV:fZ g a x=some (RKs g a (x*(a.2.1.length:Int)+a.1)):=by
 have hN:=nN H.1 H.2.2 H.2.1
 have hv:=AZ H hx
 have hpos:=H.2.2.pos
 unfold fZ
 have ew:IntKind.i64.wrap ((g.1.length:Int)*(a.2.1.length:Int))=((a.2.1.length*g.1.length:Nat):Int):=by
  rw[show ((g.1.length:Int)*(a.2.1.length:Int))=((a.2.1.length*g.1.length:Nat):Int) from by rw[Nat.mul_comm];simp,pg (by omega)]
 have e0:aH (dN g a) ba (([] :List Int),0)=some (.brk (List.replicate (a.2.1.length*g.1.length) (-1),((a.2.1.length*g.1.length:Nat):Int))):=by
  have:=a6 (f:=dN g a) (fun i=>(List.replicate i (-1),(i:Int))) (a.2.1.length*g.1.length) (fun i hi=>by
   unfold dN
   simp only
   rw[ew,if_pos (by simp only[decide_eq_true_eq];omega),aS (by simp;omega),aI (by omega)];simp only[aa]
   rw[List.replicate_succ']) (by unfold dN;simp only;rw[ew,if_neg (by simp)]) (jd (by omega))
  exact this
 rw[aG e0,Hv H hx]
 simp only
 generalize hV:x*(a.2.1.length:Int)+a.1=v at hv
 rw[show aU [v] 0=some v from rfl];simp only[aa]
 rw[aE (xs:=List.replicate _ (-1:Int)) hv.1 (by simpa using hv.2)];simp only[aa]
 obtain ⟨K,hK,hE,hR⟩:=xY hv (fE H)
 have:=a6 (f:=dP g a) (fun i=>((bsS (nxN g a) (a.2.1.length*g.1.length) v i).1,(bsS (nxN g a) (a.2.1.length*g.1.length) v i).2,(i:Int))) K (fun i hi=>by
  have hi2:=hR i hi
  obtain ⟨z,hz⟩: ∃z,(bsS (nxN g a) (a.2.1.length*g.1.length) v i).2[i]? =some z:=⟨_,List.getElem?_eq_getElem hi2⟩
  obtain ⟨z0,z1⟩:=(qQ hv (fE H) i).rng z (List.mem_of_getElem? hz)
  obtain ⟨l,es,hl,hp⟩:=zA H z0 z1
  have es:c8 (g.1,g.2) (a.1,a.2.1,a.2.2) (A3 z (a.2.1.length:Int)) (Int.tmod z (a.2.1.length:Int))=_:=es
  unfold dP
  simp only
  rw[if_pos (by simp only[decide_eq_true_eq];omega)]
  rw[show aU (bsS (nxN g a) (a.2.1.length*g.1.length) v i).2 (i:Int)=some z from by unfold aU;rw[if_pos (by omega)];exact hz];simp only[aa]
  rw[fD (by omega),es];simp only[aa]
  have h2:=M2 H hx (o1:=(bsS (nxN g a) (a.2.1.length*g.1.length) v i).1) (o2:=(bsS (nxN g a) (a.2.1.length*g.1.length) v i).2) (by rw[hV];exact hz) hl hp
  rw[hV] at h2
  rw[aG h2,aI (by omega)]) (by unfold dP;simp only;rw[if_neg (by simp;omega)]) (jd (by omega))
 have this:aH (dP g a) ba ((List.replicate (a.2.1.length*g.1.length) (-1)).set v.toNat 0,[v],0)=_:=this
 rw[aG this]
 simp only
 have:=po hv (fE H) hE (a.2.1.length*g.1.length - K)
 rw[show K+(a.2.1.length*g.1.length - K)=a.2.1.length*g.1.length from by omega] at this
 unfold RKs
 rw[this]
end
end D
namespace D
open Go.RowKit
section
variable {a:AutT} {n:Nat}
end
end D
namespace D
open Go.RowKit
end D
open Go.ChangeShapes Go.WideShapes Go.ChangeAt Go.RowKit
theorem own:ownKnob Tryz.prog.godebug=none:=by kernel_rfl
theorem laidOut:laidOutB Tryz.prog=true:=by kernel_rfl
theorem nE {H:Type} {enc:TypeId×Value->H} {P:Program} (hl:laidOutB P=true) {W W':World} (hb:Below W.heap.size W W') :
  ∀ {ts:List TypeId} {vs:List Value} {ds:List (DataW H)} {ps:List MemPlace},(∀t∈ts,P.readableRec t=true/\t<P.types.size)->
   DataW.TrodAll enc P W 0 (fun _=>true) true ts vs ds ps->(∀x∈ps,x.block<W.heap.size)->DataW.TrodAll enc P W' 0 (fun b=>decide (b<W.heap.size)) true ts vs ds ps
 | [],[],[],ps,_,h,_=>h
 | t::ts,v::vs,d::ds,ps,hr,⟨p,q,h1,h2,h3⟩,hlt=>by
  subst h3
  exact ⟨p,q,Below.trod hl (hr t (by simp)).1 (hr t (by simp)).2 h1 hb fun x hx=>hlt x (by simp[hx]),nE hl hb (fun t ht=>hr t (by simp[ht])) h2 fun x hx=>hlt x (by simp[hx]),rfl⟩
 | [],_::_,_,_,_,h,_=>h.elim
 | [],[],_::_,_,_,h,_=>h.elim
 | _::_,[],_,_,_,h,_=>h.elim
 | _::_,_::_,[],_,_,h,_=>h.elim
theorem Gl {H:Type} {enc:TypeId×Value->H} {f:Func} {s:ChangeSpec} {W W':World} {args:Array Value} {ds:List (DataW H)} {before:List MemPlace} (tb:TypeId)
  (hb:Tryz.prog.underlying tb=some .bool) (hr:f.resultTypes= #[tb]) (hp:(f.params.toList.all fun t=>Tryz.prog.readableRec t&&decide (t<Tryz.prog.types.size))=true) (hv:s.vars= [])
  (hW:DataW.Whole enc Tryz.prog f.params.toList s.vars false W args.toList ds [] before) (hres:(s.fn H (ds++ [])).results= [.lit (.bool true)]) (hargs:(s.fn H (ds++ [])).args=ds) (hvars:(s.fn H (ds++ [])).vars= [])
  (hbel:Below W.heap.size W W'):s.post enc Tryz.prog f false true false false W args (.bool true) W':=by
 obtain ⟨p,q,h1,h2,h3,h4,h5⟩:=hW
 have hW':DataW.Whole enc Tryz.prog f.params.toList s.vars false W args.toList ds [] before:=⟨p,q,h1,h2,h3,h4,h5⟩
 have hq:q= []:=by rw[hv] at h2;exact h2
 subst hq
 simp only[List.append_nil] at h3
 subst h3
 refine ⟨ds,[],before,[],before,[],hW',?_,?_,?_,hbel.frame _,fun h=>by cases h⟩
 ·rw[hres,hr]
  exact trodAll_mk1 (shut_bool hb true)
 ·rw[hargs]
  exact nE laidOut hbel (fun t ht=>by have:=List.all_eq_true.1 hp t ht;simpa using this) h1 fun x hx=>by simpa using hW'.lt x hx
 ·rw[hvars,hv];rfl
namespace D
open Go.RowKit
theorem xZ (x y:AutT) (hx:Data.sm x):cW x y=some (decide (x=y)):=by
 obtain ⟨-,⟨ha,-⟩,hn,hr⟩:=hx
 unfold cW
 by_cases c1:x.1=y.1
 case neg=>rw[if_pos (by simpa using c1)];simp[Prod.ext_iff,c1]
 rw[if_neg (by simpa using c1)]
 by_cases c2:x.2.1.length=y.2.1.length
 case neg=>rw[if_pos (by simp;omega)];simp[Prod.ext_iff];exact fun _ e=>absurd (by rw[e]) c2
 rw[if_neg (by simp;omega)]
 by_cases c3:x.2.2.length=y.2.2.length
 case neg=>rw[if_pos (by simp;omega)];simp[Prod.ext_iff];exact fun _ _ e=>absurd (by rw[e]) c3
 rw[if_neg (by simp;omega)]
 rw[eqB (f:=cL x y) x.2.1 y.2.1 (by omega) c2 (fun i h h'=>by
  simp only[cL,jB h,if_true,bO h,bO h',aa,aI (show i<9223372036854775807 by omega)]
  by_cases c:x.2.1[i] =y.2.1[i] <;> simp[c]) (by simp only[cL,iC];rfl)]
 by_cases c4:x.2.1=y.2.1
 case neg=>rw[if_neg c4];simp[Prod.ext_iff,c4]
 rw[if_pos c4]
 rw[eqB (f:=cM x y) x.2.2 y.2.2 (by omega) c3 (fun i h h'=>by
  obtain ⟨r,e,hr'⟩:=xU x.2.2[i] y.2.2[i] ((hr _ (List.getElem_mem h)).1)
  simp only[cM,jB h,if_true,bO h,bO h',aa,aI (show i<9223372036854775807 by omega),e]
  by_cases c:x.2.2[i] =y.2.2[i]
  ·rw[if_neg (by simpa using hr'.2 c),if_pos c]
  ·rw[if_pos (by simpa using fun e=>c (hr'.1 e)),if_neg c]) (by simp only[cM,iC];rfl)]
 by_cases c5:x.2.2=y.2.2
 ·rw[if_pos c5];simp[Prod.ext_iff,c1,c4,c5]
 ·rw[if_neg c5];simp[Prod.ext_iff,c5]
theorem Gm (xs ys:List Bool) (hN:xs.length<=9223372036854775807):bZ xs ys=some (decide (xs=ys)):=
 eqL (f:=bj xs ys) xs ys hN (fun i h h'=>by
  simp only[bj,jB h,if_true,bO h,bO h',aa,aI (show i<9223372036854775807 by omega)]
  by_cases c:xs[i] =ys[i] <;> simp[c]) (by simp only[bj,iC];rfl)
theorem ya (x y:AutT) (hx:Data.sm x):cV x y=some (decide (x=y)):=by
 obtain ⟨-,⟨ha,-⟩,hn,hr⟩:=hx
 unfold cV
 by_cases c1:x.1=y.1
 case neg=>rw[if_neg (by simpa using c1)];simp[Prod.ext_iff,c1]
 rw[if_pos (by simpa using c1),Gm _ _ (by omega)];simp only[aa]
 by_cases c2:x.2.1=y.2.1
 case neg=>rw[if_neg (by simpa using c2)];simp[Prod.ext_iff,c2]
 rw[if_pos (by simpa using c2)]
 have:aY x.2.2 y.2.2 (fun a0 a1=>dh a0 a1)=some (decide (x.2.2=y.2.2)):=
  eqL (f:=aO x.2.2 y.2.2 _) x.2.2 y.2.2 (by omega) (fun i h h'=>by
   simp only[aO,jB h,if_true,bO h,bO h',aa,aI (show i<9223372036854775807 by omega),dh]
   rw[qL _ _ (by have:x.2.2[i].length<=1048576:=(hr _ (List.getElem_mem h)).1;omega)];simp only[aa]
   by_cases c:x.2.2[i] =y.2.2[i] <;> simp[c]) (by simp only[aO,iC];rfl)
 rw[this]
 by_cases c3:x.2.2=y.2.2 <;> simp[Prod.ext_iff,c1,c2,c3]
end D
set_option synthInstance.maxSize 20000
set_option synthInstance.maxHeartbeats 2000000
namespace D
open Go.RowKit
end D
set_option synthInstance.maxSize 20000
set_option synthInstance.maxHeartbeats 2000000
namespace D
open Go.RowKit
abbrev NQ:=Int×(List GrT)
theorem JW (g:GrT) (hg:Data.sm g):ju g=some g:=by
 have h1:=(fA hg.1).1
 have h2:=(fA hg.2).1
 unfold ju
 rw[aS (by simp;omega)];simp only[aa,List.nil_append]
 rw[aS (by simp;omega)];rfl
theorem JX (g:GrT) (hg:Data.sm g):gA g=some g:=by
 have h1:=(fA hg.1).1
 have h2:=(fA hg.2).1
 unfold gA cy
 rw[aS (by simp;omega)];simp only[aa,List.nil_append]
 rw[aS (by simp;omega)];rfl
def okG (h:NQ) (g:GrT):Prop:=bf g=some true/\g.1=(nth h.2 0).1
instance (h g):Decidable (okG h g):=by unfold okG;infer_instance
end D
namespace D
abbrev Pr:=Int×Int
def ltP (a b:Pr):Prop:=a.1<b.1\/a.1=b.1/\a.2<b.2
instance (a b:Pr):Decidable (ltP a b):=inferInstanceAs (Decidable (_\/_))
end D
namespace D
open Go.RowKit
theorem DG {α R:Type} {f:Int->Option (Out R Int)} (l:List α) (b:α->Bool) (r:Nat->R) (hN:l.length<=9223372036854775807) (h: ∀i (hi:i<l.length),f (i:Int)=some (if b l[i] then .ret (r i) else .nxt ((i+1:Nat):Int))) (he:f (l.length:Int)=some (.brk (l.length:Int))) :
  (∃(i:Nat) (hi:i<l.length),b l[i] =true/\(∀j (hj:j<i),b (l[j]'(by omega))=false)/\aH f ba 0=some (.ret (r i)))\/((∀x,x∈l->b x=false)/\aH f ba 0=some (.brk (l.length:Int))):=by
 obtain ⟨o,e,hQ⟩:=dB (f:=f) (fun i s=>s=(i:Int)/\ ∀j (hj:j<l.length),j<i->b l[j] =false) (fun o=>(∃(i:Nat) (hi:i<l.length),b l[i] =true/\(∀j (hj:j<i),b (l[j]'(by omega))=false)/\o= .ret (r i))\/((∀x,x∈l->b x=false)/\o= .brk (l.length:Int))) l.length (fun i s hi hI=>by
  obtain ⟨rfl,hI⟩:=hI
  by_cases h1:i<l.length
  ·cases hb:b l[i] with
   | true=>exact .inr ⟨_,by rw[h i h1,hb,if_pos rfl],fun s' hh=>by simp at hh,.inl ⟨i,h1,hb,fun j hj=>hI j (by omega) hj,by simp⟩⟩
   | false=>exact .inl ⟨h1,_,by rw[h i h1,hb,if_neg (by simp)],rfl,fun j hj hji=>by
     by_cases c:j=i
     ·subst c;exact hb
     ·exact hI j hj (by omega)⟩
  ·obtain rfl:i=l.length:=by omega
   exact .inr ⟨_,he,fun s' hh=>by simp at hh,.inr ⟨fun x hx=>by
    obtain ⟨j,hj,rfl⟩:=List.getElem_of_mem hx
    exact hI j hj hj,rfl⟩⟩) (s:=0) ⟨rfl,fun j hj h0=>by omega⟩ (oQ _ hN)
 rcases hQ with ⟨i,hi,h1,h2,rfl⟩ | ⟨h1,rfl⟩
 ·exact .inl ⟨i,hi,h1,h2,e⟩
 ·exact .inr ⟨h1,e⟩
section
variable {l m:List Pr} {p:Pr}
end
end D
namespace D
open Go.RowKit
structure Dst (N:Nat) (nx:Int->Int->Prop) (src:Int->Prop) (o:List Int):Prop where
 len:o.length=N
 rng: ∀t:Int,0<=t->t<N-> -1<=nth o t
 zero: ∀t:Int,0<=t->t<N->(nth o t=0↔src t)
 pred: ∀t:Int,0<=t->t<N->0<nth o t-> ∃u:Int,0<=u/\u<N/\nx u t/\nth o u=nth o t - 1
 next: ∀u t:Int,0<=u->u<N->0<=t->t<N->nx u t->0<=nth o u->0<=nth o t/\nth o t<=nth o u+1
def cntN (o:List Int):Nat:=o.countP fun x=>decide (0<=x)
theorem DH (o:List Int):cntN o<=o.length:=List.countP_le_length
theorem zC {o:List Int} {k:Int} {v:Int} (h0:0<=k) (h1:k<o.length) (hk:nth o k<0) (hv:0<=v):cntN (o.set k.toNat v)=cntN o+1:=by
 have hl:k.toNat<o.length:=by omega
 have e:nth o k=o[k.toNat]:=by
  have:=eE (xs:=o) (i:=k.toNat) hl
  rwa [show ((k.toNat:Nat):Int)=k by omega] at this
 unfold cntN
 rw[List.countP_set hl,<-e,if_neg (by simpa using hk),if_pos (by simpa using hv)];omega
structure DI (N:Nat) (nx:Int->List Int) (src:Int->Prop) (Q o:List Int) (i:Nat) (b:Int):Prop where
 len:o.length=N
 q: ∀t∈Q,(0<=t/\t<N)/\0<=nth o t
 rng: ∀t:Int,0<=t->t<N-> -1<=nth o t/\nth o t<=b
 zero: ∀t:Int,0<=t->t<N->(nth o t=0↔src t)
 pred: ∀t:Int,0<=t->t<N->0<nth o t-> ∃u:Int,0<=u/\u<N/\t∈nx u/\nth o u=nth o t - 1
 closed: ∀u:Int,0<=u->u<N->0<=nth o u->u∈Q\/ ∀t∈nx u,0<=nth o t/\nth o t<=nth o u+1
 sorted:Q.Pairwise fun x y=>nth o x<=nth o y
 span: ∀h:Int,Q.head? =some h-> ∀t:Int,0<=t->t<N->nth o t<=nth o h+1
 all:i+Q.length=cntN o
section
variable {N:Nat} {nx:Int->List Int} {src:Int->Prop} (hn: ∀x:Int,0<=x->x<N-> ∀y∈nx x,0<=y/\y<N)
include hn
theorem DI.turn {s k:Int} {Q o:List Int} {i:Nat} {b:Int} (H:DI N nx src (s::Q) o i b) (hk:k∈nx s) (hb:nth o k<0) (hs:nth o s+1<=b):DI N nx src (s::(Q++ [k])) (o.set k.toNat (nth o s+1)) i b:=by
 obtain ⟨⟨s0,s1⟩,sm⟩:=H.q s (List.mem_cons_self ..)
 obtain ⟨k0,k1⟩:=hn s s0 s1 k hk
 have hl:=H.len
 have hk':nth (o.set k.toNat (nth o s+1)) k=nth o s+1:=da k0 (by omega)
 have ho: ∀t,0<=t->0<=nth o t->nth (o.set k.toNat (nth o s+1)) t=nth o t:=fun t t0 ht=>c7 k0 t0 (by rintro rfl;omega)
 have hne: ∀t,0<=t->k≠t->nth (o.set k.toNat (nth o s+1)) t=nth o t:=fun t t0 e=>c7 k0 t0 e
 have hcase: ∀t,0<=t->(t=k/\nth (o.set k.toNat (nth o s+1)) t=nth o s+1)\/(k≠t/\nth (o.set k.toNat (nth o s+1)) t=nth o t):=fun t t0=>by
  by_cases e:k=t
  ·subst e;exact .inl ⟨rfl,hk'⟩
  ·exact .inr ⟨e,hne t t0 e⟩
 have hsp: ∀t:Int,0<=t->t<N->nth o t<=nth o s+1:=H.span s rfl
 refine ⟨by rw[List.length_set];exact hl,fun t ht=>?_,fun t t0 t1=>?_,fun t t0 t1=>?_,fun t t0 t1 ht=>?_,fun u u0 u1 hu=>?_,?_,fun h hh t t0 t1=>?_,?_⟩
 ·rcases aw ht with rfl | ht
  ·exact ⟨⟨s0,s1⟩,by rw[ho _ s0 sm];exact sm⟩
  ·rcases aB ht with ht | ht
   ·obtain ⟨⟨u0,u1⟩,u2⟩:=H.q t (aV _ ht)
    exact ⟨⟨u0,u1⟩,by rw[ho _ u0 u2];exact u2⟩
   ·obtain rfl:=al ht
    exact ⟨⟨k0,k1⟩,by rw[hk'];omega⟩
 ·have:=H.rng t t0 t1
  rcases hcase t t0 with ⟨-,e⟩ | ⟨-,e⟩ <;> rw[e] <;> omega
 ·rcases hcase t t0 with ⟨rfl,e⟩ | ⟨-,e⟩
  ·rw[e]
   have:=H.zero t t0 t1
   constructor
   ·intro h;omega
   ·intro h;have:=this.2 h;omega
  ·rw[e];exact H.zero t t0 t1
 ·rcases hcase t t0 with ⟨rfl,e⟩ | ⟨-,e⟩
  ·exact ⟨s,s0,s1,hk,by rw[e,ho s s0 sm];omega⟩
  ·rw[e] at ht⊢
   obtain ⟨u,u0,u1,h1,h2⟩:=H.pred t t0 t1 ht
   exact ⟨u,u0,u1,h1,by rw[ho u u0 (by omega)];exact h2⟩
 ·rcases hcase u u0 with ⟨rfl,e⟩ | ⟨-,e⟩
  ·exact .inl (aV _ (List.mem_append.2 (.inr (List.mem_singleton.2 rfl))))
  ·rw[e] at hu⊢
   rcases H.closed u u0 u1 hu with h | h
   ·refine .inl ?_
    rcases aw h with rfl | h
    ·exact List.mem_cons_self ..
    ·exact aV _ (List.mem_append.2 (.inl h))
   ·refine .inr fun t ht=>?_
    have h2:=h t ht
    have ht0:=hn u u0 u1 t ht
    rw[ho t ht0.1 h2.1];exact h2
 ·have hs':=H.sorted
  rw[show s::(Q++ [k])=(s::Q)++ [k] from rfl]
  refine List.pairwise_append.2 ⟨hs'.imp_of_mem fun {x y} hx hy h=>?_,List.pairwise_singleton _ _,fun x hx y hy=>?_⟩
  ·rw[ho x (H.q x hx).1.1 (H.q x hx).2,ho y (H.q y hy).1.1 (H.q y hy).2];exact h
  ·obtain rfl:=al hy
   rw[hk',ho x (H.q x hx).1.1 (H.q x hx).2]
   exact hsp x (H.q x hx).1.1 (H.q x hx).1.2
 ·obtain rfl:s=h:=by simpa using hh
  rw[ho s s0 sm]
  rcases hcase t t0 with ⟨-,e⟩ | ⟨-,e⟩ <;> rw[e]
  ·omega
  ·exact hsp t t0 t1
 ·have:=H.all
  rw[zC k0 (by omega) hb (by omega)]
  simp at this⊢
  omega
theorem Gn (hN:N<=1000) (hl: ∀x,(nx x).length<=100000) {s:Int} {Q o:List Int} {i:Nat} {b:Int} (hb:b<=1000000) (H:DI N nx src (s::Q) o i b) (hs:nth o s+1<=b) :
  ∃Q' o',aH (bY (nx s)) ba (s::Q,0,o)=some (.brk (s::Q',((nx s).length:Int),o'))/\DI N nx src (s::Q') o' i b/\nth o' s=nth o s/\ ∀t∈nx s,0<=nth o' t:=by
 obtain ⟨⟨s0,s1⟩,sm⟩:=H.q s (List.mem_cons_self ..)
 have hls:=hl s
 obtain ⟨st,e,Q',o',rfl,H',hs',hp⟩:=jC (f:=bY (nx s)) (fun j st=> ∃Q' o',st=(s::Q',(j:Int),o')/\DI N nx src (s::Q') o' i b/\nth o' s=nth o s/\ ∀t∈(nx s).take j,0<=nth o' t) (nx s).length (by
  rintro j st hj ⟨Q1,o1,rfl,H1,e1,hp⟩
  have hk:=List.getElem_mem hj
  obtain ⟨k0,k1⟩:=hn s s0 s1 _ hk
  have hl1:=H1.len
  have hall:=H1.all
  have hc:=DH o1
  unfold bY
  simp only
  rw[jB hj,if_pos rfl,bO hj];simp only[aa,aI (show j<9223372036854775807 by omega)]
  rw[aE k0 (by omega),show aU (s::Q1) 0=some s from rfl];simp only[aa]
  rw[aE s0 (by omega),e1];simp only[aa]
  rw[be (by omega) (by omega),aS (by simp at hall⊢;omega)];simp only[aa]
  by_cases c:nth o1 (nx s)[j] < 0
  ·rw[if_pos (decide_eq_true c)]
   have H2:=H1.turn hn hk c (by omega)
   rw[e1] at H2
   refine ⟨_,rfl,Q1++ [(nx s)[j]],o1.set (nx s)[j].toNat (nth o s+1),rfl,H2,?_,fun t ht=>?_⟩
   ·rw[c7 k0 s0 (by intro e;rw[e] at c;omega)];exact e1
   ·rw[List.take_succ_eq_append_getElem hj] at ht
    rcases aB ht with ht | ht
    ·have h3:=hp t ht
     have ht0:=hn s s0 s1 t (List.mem_of_mem_take ht)
     rw[c7 k0 ht0.1 (by intro e;rw[e] at c;omega)];exact h3
    ·obtain rfl:=al ht
     rw[da k0 (by omega)];omega
  ·rw[if_neg (by simpa using c)]
   refine ⟨_,rfl,Q1,o1,rfl,H1,e1,fun t ht=>?_⟩
   rw[List.take_succ_eq_append_getElem hj] at ht
   rcases aB ht with ht | ht
   ·exact hp t ht
   ·obtain rfl:=al ht
    omega) (by
  rintro st ⟨Q1,o1,rfl,-⟩
  unfold bY
  simp only
  rw[iC];rfl) (s:=(s::Q,0,o)) ⟨Q,o,rfl,H,rfl,fun t ht=>by simp at ht⟩ (jd (by omega))
 rw[List.take_of_length_le (aA _)] at hp
 exact ⟨Q',o',e,H',hs',hp⟩
theorem DJ (hN:N<=1000) (hl: ∀x,(nx x).length<=100000) {Q o:List Int} (H:DI N nx src Q o 0 0) :
  ∃o',aH (cz (rm N fun z=>nx (z:Int))) ba (Q,o)=some (.brk ([],o'))/\Dst N (fun u t=>t∈nx u) src o':=by
 obtain ⟨r,e,o',rfl,hD⟩:=dB (f:=cz (rm N fun z=>nx (z:Int))) (fun i st=>DI N nx src st.1 st.2 i (i:Int)) (fun r=> ∃o',r= .brk ([],o')/\Dst N (fun u t=>t∈nx u) src o') N (s:=(Q,o)) (by
  rintro i ⟨Q,o⟩ hi H
  have H:DI N nx src Q o i (i:Int):=H
  unfold cz
  simp only
  cases Q with
  | nil =>
   right
   refine ⟨_,by rw[if_neg (by simp)],fun s' e=>(by cases e),o,rfl,H.len,fun t t0 t1=>(H.rng t t0 t1).1,H.zero,H.pred,fun u t u0 u1 t0 t1 h hu=>?_⟩
   rcases H.closed u u0 u1 hu with h1 | h1
   ·cases h1
   ·exact h1 t h
  | cons s Q =>
   left
   have hall:=H.all
   have hc:=DH o
   have hlen:=H.len
   obtain ⟨⟨s0,s1⟩,sm⟩:=H.q s (List.mem_cons_self ..)
   have hrs:=H.rng s s0 s1
   simp at hall
   refine ⟨by omega,?_⟩
   have H0:DI N nx src (s::Q) o i ((i+1:Nat):Int):= { H with rng:=fun t t0 t1=>by have:=H.rng t t0 t1;omega }
   obtain ⟨Q',o',e,H',hs',hp⟩:=Gn hn hN hl (by omega) H0 (by omega)
   obtain ⟨z,rfl⟩: ∃z:Nat,s=(z:Int):=⟨_,(Int.toNat_of_nonneg s0).symm⟩
   rw[if_pos (by simp),show aU ((z:Int)::Q) 0=some (z:Int) from rfl];simp only[aa]
   rw[mz (by omega)];simp only[aa]
   rw[aG e];simp only
   rw[fD (by simp;omega)];simp only[aa]
   have hsp:=H'.span _ rfl
   refine ⟨_,rfl,H'.len,fun t ht=>H'.q t (aV _ ht),H'.rng,H'.zero,H'.pred,fun u u0 u1 hu=>?_,(List.pairwise_cons.1 H'.sorted).2,fun h hh t t0 t1=>?_,?_⟩
   ·rcases H'.closed u u0 u1 hu with h | h
    ·rcases aw h with rfl | h
     ·refine .inr fun t ht=>⟨hp t ht,?_⟩
      have ht0:=hn _ s0 s1 t ht
      exact hsp t ht0.1 ht0.2
     ·exact .inl h
    ·exact .inr h
   ·have h1:=(List.pairwise_cons.1 H'.sorted).1 h (by
     have hh:Q'.head? =some h:=hh
     exact List.mem_of_head? hh)
    have:=hsp t t0 t1
    show nth o' t<=nth o' h+1
    omega
   ·have:=H'.all
    simp at this⊢
    omega) H (jd (by omega))
 exact ⟨o',e,hD⟩
omit hn in
theorem yc {vs:List Int} (hN:N<=1000) (hv: ∀v∈vs,0<=v/\v<N) (hd:vs.Nodup) :
  ∃o,aH (bX vs) ba ([],0,List.replicate N (-1))=some (.brk (vs,(vs.length:Int),o))/\DI N nx (· ∈ vs) vs o 0 0:=by
 have hle:vs.length<=N:=by
  have:=hd.length_le_of_subset (l₂:=(List.range N).map fun i:Nat=>(i:Int)) (fun x hx=>by
   obtain ⟨h0,h1⟩:=hv x hx
   exact List.mem_map.2 ⟨x.toNat,List.mem_range.2 (by omega),by omega⟩)
  simpa using this
 have hrep: ∀t:Int,0<=t->t<N->nth (List.replicate N (-1:Int)) t= -1:=fun t t0 t1=>by
  have:t.toNat<N:=by omega
  simp[nth,List.getD_eq_getElem?_getD,List.getElem?_replicate,this]
 obtain ⟨st,e,o,rfl,hl,hz,hc⟩:=jC (f:=bX vs) (fun j st=> ∃o,st=(vs.take j,(j:Int),o)/\o.length=N/\(∀t:Int,0<=t->t<N->nth o t=if t∈vs.take j then 0 else -1)/\j=cntN o) vs.length (by
  rintro j st hj ⟨o,rfl,hl,hz,hc⟩
  obtain ⟨v0,v1⟩:=hv _ (List.getElem_mem hj)
  have hnot:vs[j] ∉ vs.take j:=fun h=>by
   obtain ⟨q,hq,e⟩:=List.getElem_of_mem h
   rw[aD] at hq
   rw[List.getElem_take] at e
   have:=(List.getElem_inj hd).1 e
   omega
  unfold bX
  simp only
  rw[jB hj,if_pos rfl,bO hj];simp only[aa]
  rw[aE v0 (by omega),aS (by simp;omega),aI (by omega)];simp only[aa]
  refine ⟨_,rfl,o.set vs[j].toNat 0,?_,by rw[List.length_set];exact hl,fun t t0 t1=>?_,?_⟩
  ·rw[List.take_succ_eq_append_getElem hj]
  ·by_cases e:vs[j] =t
   ·subst e
    rw[da v0 (by omega),if_pos (by rw[List.take_succ_eq_append_getElem hj];exact List.mem_append.2 (.inr (List.mem_singleton.2 rfl)))]
   ·rw[c7 v0 t0 e,hz t t0 t1]
    have:t∈vs.take (j+1)↔t∈vs.take j:=by
     rw[List.take_succ_eq_append_getElem hj,List.mem_append,List.mem_singleton]
     exact ⟨fun h=>h.resolve_right fun h=>e h.symm,.inl⟩
    simp only[this]
  ·rw[zC v0 (by omega) (by rw[hz _ v0 v1,if_neg hnot];omega) (by omega),<-hc]) (by
  rintro st ⟨o,rfl,-⟩
  unfold bX
  simp only
  rw[iC];rfl) (s:=([],0,List.replicate N (-1))) ⟨List.replicate N (-1),by simp,by simp,fun t t0 t1=>by rw[hrep t t0 t1];simp,by
   unfold cntN
   symm
   rw[List.countP_eq_zero]
   intro x hx
   obtain ⟨-,rfl⟩:=List.mem_replicate.1 hx
   simp⟩ (jd (by omega))
 rw[List.take_of_length_le (aA _)] at e hz
 have hin: ∀t∈vs,nth o t=0:=fun t ht=>by rw[hz t (hv t ht).1 (hv t ht).2,if_pos ht]
 have hval: ∀t:Int,0<=t->t<N->(nth o t=0/\t∈vs)\/(nth o t= -1/\t∉vs):=fun t t0 t1=>by
  rw[hz t t0 t1]
  by_cases h:t∈vs
  ·exact .inl ⟨if_pos h,h⟩
  ·exact .inr ⟨if_neg h,h⟩
 refine ⟨o,e,hl,fun t ht=>⟨hv t ht,by rw[hin t ht];omega⟩,fun t t0 t1=>?_,fun t t0 t1=>?_,fun t t0 t1 h=>?_,fun u u0 u1 hu=>.inl ?_,?_,fun h hh t t0 t1=>?_,by omega⟩
 ·rcases hval t t0 t1 with ⟨h,-⟩ | ⟨h,-⟩ <;> omega
 ·rcases hval t t0 t1 with ⟨h,h2⟩ | ⟨h,h2⟩
  ·exact ⟨fun _=>h2,fun _=>h⟩
  ·exact ⟨fun h3=>by omega,fun h3=>absurd h3 h2⟩
 ·rcases hval t t0 t1 with ⟨h2,-⟩ | ⟨h2,-⟩ <;> omega
 ·rcases hval u u0 u1 with ⟨-,h2⟩ | ⟨h2,-⟩
  ·exact h2
  ·omega
 ·exact List.Pairwise.imp_of_mem (fun {x y} hx hy _=>by rw[hin x hx,hin y hy];omega) hd
 ·have:h∈vs:=List.mem_of_head? hh
  have:=hin h this
  rcases hval t t0 t1 with ⟨h2,-⟩ | ⟨h2,-⟩ <;> omega
theorem M3 {vs:List Int} (hN:N<=60) (hl: ∀x,(nx x).length<=100000) (hv: ∀v∈vs,0<=v/\v<N) (hd:vs.Nodup): ∃o,gN (rm N fun z=>nx (z:Int)) vs=some o/\Dst N (fun u t=>t∈nx u) (· ∈ vs) o:=by
 obtain ⟨o,e1,H⟩:=yc (nx:=nx) (by omega) hv hd
 obtain ⟨o',e2,hD⟩:=DJ hn (by omega) hl H
 unfold gN
 rw[lX,LN hN];simp only[aa]
 rw[aG e1];simp only
 rw[aG e2]
 exact ⟨o',rfl,hD⟩
end
end D
set_option synthInstance.maxSize 20000
set_option synthInstance.maxHeartbeats 2000000
namespace D
open Go.RowKit
theorem JY (a:AutT) (ha:Data.sm a):hH a=some a:=by
 obtain ⟨-,⟨hb,-⟩,hn,hr⟩:=ha
 unfold hH
 rw[aS (by simp;omega)];simp only[aa,List.nil_append]
 have:=a6 (f:=eJ a) (fun i=>((i:Int),a.1,a.2.1,a.2.2.take i)) a.2.2.length (fun i hi=>by
  unfold eJ
  have h1:eg 8 ([] :List Int) a.2.2[i] =some a.2.2[i]:=by rw[aS (by have:a.2.2[i].length<=1048576:=(hr _ (List.getElem_mem hi)).1;simp;omega)];rfl
  simp only[jB hi,if_true,bO hi,aa,h1,aI (show i<9223372036854775807 by omega)]
  rw[aS (by simp;omega)]
  simp only[aa]
  rw[List.take_succ_eq_append_getElem hi]) (by
  unfold eJ
  simp only[iC,Bool.false_eq_true,if_false]) (oQ _ (by omega))
 have e:aH (eJ a) ba (0,a.1,a.2.1,[])=_:=this
 rw[e]
 simp only[aZ,List.take_length]
theorem DK (a:AutT) (ha:Data.sm a):bB a=some a:=by
 obtain ⟨-,⟨hb,-⟩,hn,hr⟩:=ha
 unfold bB
 rw[aS (by simp;omega)];simp only[aa,List.nil_append]
 have:=a6 (f:=bU a) (fun i=>((i:Int),a.1,a.2.1,a.2.2.take i)) a.2.2.length (fun i hi=>by
  unfold bU cy
  have h1:eg 8 ([] :List Int) a.2.2[i] =some a.2.2[i]:=by rw[aS (by have:a.2.2[i].length<=1048576:=(hr _ (List.getElem_mem hi)).1;simp;omega)];rfl
  simp only[jB hi,if_true,bO hi,aa,h1,aI (show i<9223372036854775807 by omega)]
  rw[aS (by simp;omega)]
  simp only[aa]
  rw[List.take_succ_eq_append_getElem hi]) (by
  unfold bU
  simp only[iC,Bool.false_eq_true,if_false]) (oQ _ (by omega))
 have e:aH (bU a) ba (0,a.1,a.2.1,[])=_:=this
 rw[e]
 simp only[aZ,List.take_length]
end D
namespace D
open Go.RowKit
abbrev ViT:=Yq2×Int×(List Int)×(List Int)
def ur (R:List Int) (i:Int) (S:List Int) (k:Int):List Int:=if 0<=nth R i/\nth R i=nth R k - 1 then S.set k.toNat (nth S k+1) else S
def uu (R:List Int) (i:Int) (S:List Int) (l:List Int):List Int:=l.foldl (ur R i) S
theorem wx (R:List Int) (i:Int) (S:List Int) (l:List Int) (k:Int):uu R i S (l++ [k])=ur R i (uu R i S l) k:=by simp[uu]
def pq (nx:Int->List Int) (N:Nat) (R:List Int):Nat->List Int
 | 0=>List.replicate N 0
 | i+1=>uu R (i:Int) (pq nx N R i) (nx (i:Int))
structure SB (N:Nat) (c:Int) (S:List Int):Prop where
 len:S.length=N
 rng: ∀k:Int,0<=k->k<N->0<=nth S k/\nth S k<=c
theorem SB.one {N:Nat} {c:Int} {S:List Int} (h:SB N c S) {R:List Int} {i k:Int} (hk:0<=k/\k<N):SB N (c+1) (ur R i S k):=by
 unfold ur
 have hl:=h.len
 split
 ·refine ⟨by simp[h.len],fun q h0 h1=>?_⟩
  by_cases e:k=q
  ·subst e
   rw[da hk.1 (by omega)]
   have:=h.rng k h0 h1
   omega
  ·rw[c7 hk.1 h0 e]
   have:=h.rng q h0 h1
   omega
 ·exact ⟨hl,fun q h0 h1=>by have:=h.rng q h0 h1;omega⟩
theorem SB.all {N:Nat} {R:List Int} {i:Int} : ∀ {l:List Int} {c:Int} {S:List Int},SB N c S->(∀k∈l,0<=k/\k<N)->SB N (c+l.length) (uu R i S l)
 | [],c,S,h,_=>by simpa [uu] using h
 | k::l,c,S,h,hk=>by
  have h1:=h.one (R:=R) (i:=i) (hk k (by simp))
  have h2:=SB.all (R:=R) (i:=i) (l:=l) h1 (fun q hq=>hk q (by simp[hq]))
  rw[ax,show c+((l.length+1:Nat):Int)=c+1+l.length from by omega]
  exact h2
theorem zD {R:List Int} {i:Int} (h:nth R i<0): ∀(l:List Int) (S:List Int),uu R i S l=S
 | [],_=>rfl
 | k::l,S=>by
  have:ur R i S k=S:=by unfold ur;rw[if_neg (by omega)]
  show uu R i (ur R i S k) l=S
  rw[this];exact zD h l S
section
variable {g:GrT} {a:AutT} (H:GOOD g a) {R:List Int} (hR:R.length=a.2.1.length*g.1.length) (hr: ∀i:Int,0<=i->i<(a.2.1.length*g.1.length:Nat)-> -1<=nth R i/\nth R i<60)
include H
theorem qR: ∀i:Nat,i<=a.2.1.length*g.1.length->SB (a.2.1.length*g.1.length) (720*(i:Int)) (pq (nxN g a) (a.2.1.length*g.1.length) R i)
 | 0,_=>⟨by simp[pq],fun k h0 h1=>by
   have:k.toNat<a.2.1.length*g.1.length:=by omega
   simp[pq,nth,List.getD_eq_getElem?_getD,List.getElem?_replicate,this]⟩
 | i+1,hi=>by
  have h:=(qR i (by omega)).all (R:=R) (i:=(i:Int)) (l:=nxN g a (i:Int)) (fE H _ (by omega) (by omega))
  have hl:=j3 H (i:Int)
  exact ⟨h.len,fun k h0 h1=>by have:=h.rng k h0 h1;unfold pq;omega⟩
include hR hr
theorem Hx {i:Nat} (hi:i<a.2.1.length*g.1.length) (j:Nat):SB (a.2.1.length*g.1.length) (43200+720) (uu R (i:Int) (pq (nxN g a) (a.2.1.length*g.1.length) R i) ((nxN g a (i:Int)).take j)):=by
 have h:=(qR H (R:=R) i (by omega)).all (R:=R) (i:=(i:Int)) (l:=(nxN g a (i:Int)).take j) (fun k hk=>fE H _ (by omega) (by omega) k (List.mem_of_mem_take hk))
 have hl:=j3 H (i:Int)
 have hl2:((nxN g a (i:Int)).take j).length<=(nxN g a (i:Int)).length:=by rw[aD];omega
 have hN:=nN H.1 H.2.2 H.2.1
 exact ⟨h.len,fun k h0 h1=>by have:=h.rng k h0 h1;omega⟩
theorem M4 {i:Nat} (hi:i<a.2.1.length*g.1.length) {o:List Int} :aH (dm R ((i:Int),o) (nxN g a (i:Int))) ba (0,pq (nxN g a) (a.2.1.length*g.1.length) R i)=some (.brk (((nxN g a (i:Int)).length:Int),pq (nxN g a) (a.2.1.length*g.1.length) R (i+1))):=by
 have hN:=nN H.1 H.2.2 H.2.1
 have hlen:=j3 H (i:Int)
 have:=a6 (f:=dm R ((i:Int),o) (nxN g a (i:Int))) (fun j=>((j:Int),uu R (i:Int) (pq (nxN g a) (a.2.1.length*g.1.length) R i) ((nxN g a (i:Int)).take j))) (nxN g a (i:Int)).length (fun j hj=>by
  have hb:=Hx H hR hr hi j
  have hk:=fE H (i:Int) (by omega) (by omega) _ (bK (xs:=nxN g a (i:Int)) (i:=(j:Int)) (by omega) (by omega))
  unfold dm
  simp only
  rw[kW hj,wx]
  rw[if_pos (by simp;omega),aE (xs:=nxN g a (i:Int)) (by omega) (by omega)];simp only[aa]
  generalize uu R (i:Int) (pq (nxN g a) (a.2.1.length*g.1.length) R i) ((nxN g a (i:Int)).take j)=S at hb
  have hsl:=hb.len
  generalize nth (nxN g a (i:Int)) (j:Int)=k at hk⊢
  have hs:=hb.rng k hk.1 hk.2
  have r1:=hr (i:Int) (by omega) (by omega)
  have r2:=hr k hk.1 hk.2
  rw[aE (xs:=R) (i:=(i:Int)) (by omega) (by omega),aE (xs:=R) hk.1 (by omega),aE (xs:=S) hk.1 (by omega),aI (by omega)];simp only[aa]
  rw[be (n:=nth R k - 1) (by omega) (by omega),be (n:=nth S k+1) (by omega) (by omega)]
  unfold ur
  by_cases c:0<=nth R (i:Int)
  ·rw[if_pos (by simpa using c)]
   by_cases d:nth R (i:Int)=nth R k - 1
   ·rw[if_pos (by simpa using d),if_pos ⟨c,d⟩];rfl
   ·rw[if_neg (by simpa using d),if_neg (fun h=>d h.2)];rfl
  ·rw[if_neg (by simpa using c),if_neg (fun h=>c h.1)];rfl) (by unfold dm;simp) (jd (by omega))
 rw[List.take_length] at this
 exact this
theorem M5 {x:Int} {i:Nat} (hi:i<a.2.1.length*g.1.length) {o:List Int} {l:List Ht} (hl:l.map (fun p=>p.2.1*(a.2.1.length:Int)+p.2.2)=nxN g a (i:Int)) (hp: ∀p∈l,(0<=p.2.1/\p.2.1<60)/\0<=p.2.2/\p.2.2<60) :
  ∃j:Int,aH (b9 a ((i:Int),a.1,a.2.1,a.2.2,x,R,o) l) ba (0,a.1,a.2.1,a.2.2,x,R,pq (nxN g a) (a.2.1.length*g.1.length) R i)=some (.brk (j,a.1,a.2.1,a.2.2,x,R,pq (nxN g a) (a.2.1.length*g.1.length) R (i+1))):=by
 have hN:=nN H.1 H.2.2 H.2.1
 have hnn:=H.2.1
 have hlen:l.length<=720:=by have:=j3 H (i:Int);rw[<-hl,List.length_map] at this;exact this
 have r1:=hr (i:Int) (by omega) (by omega)
 have eR:=aE (xs:=R) (i:=(i:Int)) (by omega) (by omega)
 by_cases c:0<=nth R (i:Int)
 ·have:=a6 (f:=b9 a ((i:Int),a.1,a.2.1,a.2.2,x,R,o) l) (fun j=>((j:Int),a.1,a.2.1,a.2.2,x,R,uu R (i:Int) (pq (nxN g a) (a.2.1.length*g.1.length) R i) ((nxN g a (i:Int)).take j))) l.length (fun j hj=>by
   have hb:=Hx H hR hr hi j
   have hjn:j<(nxN g a (i:Int)).length:=by rw[<-hl,List.length_map];exact hj
   have hk:=fE H (i:Int) (by omega) (by omega) _ (bK (xs:=nxN g a (i:Int)) (i:=(j:Int)) (by omega) (by omega))
   have hq:=hp _ (bK (xs:=l) (i:=(j:Int)) (by omega) (by omega))
   have hyl:nth (nxN g a (i:Int)) (j:Int)=(nth l (j:Int)).2.1*(a.2.1.length:Int)+(nth l (j:Int)).2.2:=by rw[<-hl,Dc (by omega) (by omega)]
   unfold b9
   simp only
   rw[kW hjn,wx]
   rw[if_pos (by simp;omega),eR];simp only[aa]
   rw[if_pos (by simpa using c),aE (xs:=l) (by omega) (by omega)];simp only[aa]
   rw[be (n:=(nth l (j:Int)).2.1*(a.2.1.length:Int)) (by omega) (by omega),<-hyl,be (n:=nth (nxN g a (i:Int)) (j:Int)) (by omega) (by omega)]
   generalize uu R (i:Int) (pq (nxN g a) (a.2.1.length*g.1.length) R i) ((nxN g a (i:Int)).take j)=S at hb
   have hsl:=hb.len
   generalize nth (nxN g a (i:Int)) (j:Int)=k at hk⊢
   have hs:=hb.rng k hk.1 hk.2
   have r2:=hr k hk.1 hk.2
   rw[aE (xs:=R) hk.1 (by omega),aE (xs:=S) hk.1 (by omega),aI (by omega)];simp only[aa]
   rw[be (n:=nth R (i:Int)+1) (by omega) (by omega),be (n:=nth S k+1) (by omega) (by omega)]
   unfold ur
   by_cases d:nth R (i:Int)=nth R k - 1
   ·rw[if_pos (by simp;omega),if_pos ⟨c,d⟩];rfl
   ·rw[if_neg (by simp;omega),if_neg (fun h=>d h.2)];rfl) (by unfold b9;simp) (jd (by omega))
  have et:(nxN g a (i:Int)).take l.length=nxN g a (i:Int):=by
   have:l.length=(nxN g a (i:Int)).length:=by rw[<-hl,List.length_map]
   rw[this,List.take_length]
  rw[et] at this
  exact ⟨_,this⟩
 ·have e:pq (nxN g a) (a.2.1.length*g.1.length) R (i+1)=pq (nxN g a) (a.2.1.length*g.1.length) R i:=by
   show uu R (i:Int) _ _=_
   exact zD (by omega) _ _
  rw[e]
  refine ⟨0,?_⟩
  have:=a6 (f:=b9 a ((i:Int),a.1,a.2.1,a.2.2,x,R,o) l) (fun _=>((0:Int),a.1,a.2.1,a.2.2,x,R,pq (nxN g a) (a.2.1.length*g.1.length) R i)) 0 (fun j hj=>absurd hj (Nat.not_lt_zero _)) (by
   unfold b9
   simp only
   split
   ·rw[eR];simp only[aa]
    rw[if_neg (by simpa using c)]
   ·rfl) (by unfold ba;omega)
  exact this
end
def bF (g:GrT) (a:AutT) (x:Int):ViT:=((a.1,a.2.1,a.2.2),x,RKs g a (x*(a.2.1.length:Int)+a.1),pq (nxN g a) (a.2.1.length*g.1.length) (RKs g a (x*(a.2.1.length:Int)+a.1)) (a.2.1.length*g.1.length))
section
variable {g:GrT} {a:AutT} (H:GOOD g a) {x:Int} (hx:0<=x/\x<g.1.length) (ha:Data.sm a)
include H hx ha
theorem DL:c9 g a x=some (bF g a x):=by
 have hN:=nN H.1 H.2.2 H.2.1
 have hp:=H.2.2.pos
 unfold c9
 have e1:hH (a.1,a.2.1,a.2.2)=_:=JY a ha
 have e2:fZ (g.1,g.2) (a.1,a.2.1,a.2.2) x=_:=JV H hx
 rw[e1,e2];simp only[aa]
 have hR:=zB H hx
 have hr:=fun i h0 h1=>Hw H hx (i:=i) h0 h1
 unfold bF
 generalize RKs g a (x*(a.2.1.length:Int)+a.1)=R at hR hr
 rw[hR,Da (by omega)];simp only[aa]
 have:=a6 (f:=dQ g a) (fun i=>((i:Int),a.1,a.2.1,a.2.2,x,R,pq (nxN g a) (a.2.1.length*g.1.length) R i)) (a.2.1.length*g.1.length) (fun i hi=>by
  obtain ⟨l,es,hl,hpp⟩:=zA H (x:=(i:Int)) (by omega) (by omega)
  have es:c8 (g.1,g.2) (a.1,a.2.1,a.2.2) (A3 (i:Int) (a.2.1.length:Int)) (Int.tmod (i:Int) (a.2.1.length:Int))=_:=es
  unfold dQ
  simp only
  rw[if_pos (by simp only[decide_eq_true_eq];omega),fD (by omega)];simp only[aa]
  rw[es];simp only[aa]
  obtain ⟨j,e⟩:=M5 H hR hr (x:=x) hi (o:=pq (nxN g a) (a.2.1.length*g.1.length) R i) hl hpp
  rw[aG e,aI (by omega)]) (by unfold dQ;simp only;rw[if_neg (by simp;omega)]) (jd (by omega))
 have this:aH (dQ g a) ba (0,a.1,a.2.1,a.2.2,x,R,List.replicate (a.2.1.length*g.1.length) 0)=_:=this
 rw[aG this]
theorem DM (e:cU g a [x] =some true):a8 g a x=some (bF g a x,true):=by
 have hN:=nN H.1 H.2.2 H.2.1
 have hp:=H.2.2.pos
 have h1:=H.1.n1
 have hpp:0<a.2.1.length*g.1.length:=Nat.mul_pos hp (by omega)
 unfold a8
 have e1:bB (a.1,a.2.1,a.2.2)=_:=DK a ha
 have e2:b7 (g.1,g.2) (a.1,a.2.1,a.2.2) x=_:=LR H hx e
 have e3:bw (g.1,g.2) (a.1,a.2.1,a.2.2)=_:=DF H
 rw[e1,e2,e3];simp only[aa]
 have hR:=zB H hx
 have hr:=fun i h0 h1=>Hw H hx (i:=i) h0 h1
 unfold bF
 generalize RKs g a (x*(a.2.1.length:Int)+a.1)=R at hR hr
 rw[hR,Da (by omega),if_neg (by simp only[decide_eq_true_eq];omega),fD (by omega)];simp only[aa]
 have:=a6 (f:=dn R (rm (a.2.1.length*g.1.length) fun z=>nxN g a (z:Int))) (fun i=>((i:Int),pq (nxN g a) (a.2.1.length*g.1.length) R i)) (a.2.1.length*g.1.length) (fun i hi=>by
  unfold dn
  simp only
  rw[if_pos (by rw[lX];simp only[decide_eq_true_eq];omega),mz hi];simp only[aa]
  rw[aG (M4 H hR hr hi),aI (by omega)]) (by unfold dn;rw[lX];simp) (jd (by omega))
 have this:aH (dn R (rm (a.2.1.length*g.1.length) fun z=>nxN g a (z:Int))) ba (0,List.replicate (a.2.1.length*g.1.length) 0)=_:=this
 rw[aG this]
end
theorem M6 (g:GrT) (a:AutT) (x:Int) (e:cU g a [x] =some false):a8 g a x=some (((0,[],[]),0,[],[]),false):=by
 unfold a8 b7
 have e:cU (g.1,g.2) (a.1,a.2.1,a.2.2) [x] =_:=e
 rw[e];rfl
theorem qS (g:GrT) (a:AutT) (hg:Data.sm g) (ha:Data.sm a) (x:Int):(bg g a x=some (((0,[],[]),0,[],[]),false)/\a8 g a x=some (((0,[],[]),0,[],[]),false))\/(GOOD g a/\(0<=x/\x<g.1.length)/\bg g a x=some (bF g a x,true)/\a8 g a x=some (bF g a x,true)):=by
 obtain ⟨b,es,ei,hb⟩:=DE g a hg ha x
 have es':eY (g.1,g.2) (a.1,a.2.1,a.2.2) x 0=_:=es
 cases b with
 | false=>exact .inl ⟨by unfold bg;rw[es'];rfl,M6 g a x ei⟩
 | true =>
  obtain ⟨H,hx⟩:=hb rfl
  refine .inr ⟨H,hx,?_,DM H hx ha ei⟩
  unfold bg
  rw[es'];simp only[aa,if_true]
  have e:c9 (g.1,g.2) (a.1,a.2.1,a.2.2) x=_:=DL H hx ha
  rw[e];rfl
theorem lI {g:GrT} {a:AutT} (H:GOOD g a) {x:Int} (hx:0<=x/\x<g.1.length):(bF g a x).2.2.1.length=a.2.1.length*g.1.length/\(bF g a x).2.2.2.length=a.2.1.length*g.1.length/\a.2.1.length*g.1.length<=60:=
 ⟨zB H hx,(qR H _ (aA _)).len,nN H.1 H.2.2 H.2.1⟩
end D
set_option synthInstance.maxSize 20000
set_option synthInstance.maxHeartbeats 2000000
namespace D
open Go.RowKit
theorem AS (g:GrT) (v:ViT) (hg:Data.sm g) (hv:Data.sm v): ∃k:Int,gE g v=some k/\gD g v=some k:=by
 unfold gE gD
 obtain ⟨a,x,R,S⟩:=v
 rcases qS g a hg hv.1 x with ⟨es,ei⟩ | ⟨H,hx,es,ei⟩
 ·have es:bg (g.1,g.2) (a.1,a.2.1,a.2.2) x=_:=es
  have ei:a8 (g.1,g.2) (a.1,a.2.1,a.2.2) x=_:=ei
  rw[es,ei]
  exact ⟨-2,rfl,rfl⟩
 ·have es:bg (g.1,g.2) (a.1,a.2.1,a.2.2) x=_:=es
  have ei:a8 (g.1,g.2) (a.1,a.2.1,a.2.2) x=_:=ei
  rw[es,ei];simp only[aa,if_true]
  obtain ⟨l1,l2,l3⟩:=lI H hx
  generalize bF g a x=w at l1 l2
  generalize a.2.1.length*g.1.length=N at l1 l2 l3
  by_cases c1:R.length=N
  ·by_cases c2:S.length=N
   ·have h0:j8 (a,x,R,S) (w,true)=eT (a,x,R,S) (w,true):=rfl
    rw[h0,l1,l2,c1,c2]
    simp only[bne_self_eq_false,Bool.false_eq_true,if_false]
    obtain ⟨o,e,hq⟩:=dB (f:=eT (a,x,R,S) (w,true)) (fun i s=>s=(i:Int)/\i<=N) (fun o=>(∃r,o= .ret r)\/ ∃r,o= .brk r) N (s:=0) (by
     rintro i s hi ⟨rfl,-⟩
     unfold eT
     by_cases hl:i<N
     ·rw[if_pos (by simp only[decide_eq_true_eq];omega)]
      simp only
      rw[aE (xs:=w.2.2.1) (by omega) (by omega),aE (xs:=R) (by omega) (by omega),aE (xs:=w.2.2.2) (by omega) (by omega),aE (xs:=S) (by omega) (by omega),aI (by omega)];simp only[aa]
      split
      ·exact .inr ⟨_,rfl,(fun s' e=>by cases e),.inl ⟨_,rfl⟩⟩
      ·split
       ·exact .inr ⟨_,rfl,(fun s' e=>by cases e),.inl ⟨_,rfl⟩⟩
       ·exact .inl ⟨hl,_,rfl,rfl,by omega⟩
     ·rw[if_neg (by simp only[decide_eq_true_eq];omega)]
      exact .inr ⟨_,rfl,(fun s' e=>by cases e),.inr ⟨_,rfl⟩⟩) ⟨rfl,by omega⟩ (jd (by omega))
    rw[e]
    rcases hq with ⟨r,rfl⟩ | ⟨r,rfl⟩
    ·exact ⟨r,rfl,rfl⟩
    ·exact ⟨-1,rfl,rfl⟩
   ·refine ⟨-2,?_,?_⟩
    ·rw[if_neg (by simp;omega),if_pos (by simp;omega)]
    ·rw[if_neg (by simp;omega),if_pos (by simp;omega)]
  ·refine ⟨-2,?_,?_⟩
   ·rw[if_pos (by simp;omega)]
   ·rw[if_pos (by simp;omega)]
end D
set_option synthInstance.maxSize 20000
set_option synthInstance.maxHeartbeats 2000000
namespace D
open Go.RowKit
theorem Gp (g:GrT) (id:Int) (hl:g.2.length<=1048576): ∃k:Int,bV g id=some k/\gB g id=some k/\(k= -1\/ ∃(i:Nat) (hi:i<g.2.length),k=(i:Int)):=by
 have hs:=DG (f:=bP g id) g.2 (fun u=>u.1==id) (fun i=>(i:Int)) (by omega) (fun i hi=>by
  unfold bP
  rw[jB hi,if_pos rfl,bO hi]
  simp only[aa,aI (show i<9223372036854775807 by omega)]
  split <;> rfl) (by
  unfold bP
  rw[iC];rfl)
 have e2:cf g.2 (fun a0=>il a0 id)=bP g id:=by
  funext s;rfl
 unfold bV gB bz
 rw[e2]
 rcases hs with ⟨i,hi1,h1,h2,e1⟩ | ⟨h1,e1⟩
 ·rw[dt e1]
  exact ⟨_,rfl,rfl,.inr ⟨i,hi1,rfl⟩⟩
 ·rw[aG e1]
  exact ⟨_,rfl,rfl,.inl rfl⟩
theorem LS {α:Type} [Data α] {xs:List α} (h:Data.sm xs) (i:Nat):Data.sm (xs.take i++xs.drop (i+1)):=by
 obtain ⟨h1,h2⟩:=fA h
 refine ⟨by rw[au,aD,aR];omega,fun x hx=>?_⟩
 rcases aB hx with hx | hx
 ·exact h2 x (List.mem_of_mem_take hx)
 ·exact h2 x (List.mem_of_mem_drop hx)
theorem cut_ok {g:GrT} (G:JJ g) (i:Nat):JJ (g.1,g.2.take i++g.2.drop (i+1)):=by
 have hsub:(g.2.take i++g.2.drop (i+1)).Sublist g.2:=by
  rw[<-List.eraseIdx_eq_take_drop_succ]
  exact List.eraseIdx_sublist g.2 i
 have hp:g.2.Pairwise (fun a b=>a.1<b.1):=by
  rw[List.pairwise_iff_getElem]
  intro p q hp hq hpq
  have:=G.1.lt hpq hq
  rwa [eE hp,eE hq] at this
 have hp2:=hp.sublist hsub
 refine ⟨⟨G.1.n1,G.1.n5,?_,G.1.val,fun e he=>G.1.edge e (hsub.subset he),fun j hj=>?_⟩,fun e he=>G.2 e (hsub.subset he)⟩
 ·have:=hsub.length_le
  have:=G.1.m
  show (g.2.take i++g.2.drop (i+1)).length<=12
  omega
 ·have hj:j+1<(g.2.take i++g.2.drop (i+1)).length:=hj
  have:=List.pairwise_iff_getElem.1 hp2 j (j+1) (by omega) hj (by omega)
  show (nth (g.2.take i++g.2.drop (i+1)) (j:Int)).1<(nth (g.2.take i++g.2.drop (i+1)) ((j+1:Nat):Int)).1
  rw[eE (by omega),eE hj];exact this
def ND (h g:GrT):Prop:=h.1=g.1/\ ∀e∈h.2,e∈g.2
theorem Gq (x:GrT) (hx:Data.sm x) (id:Int): ∃r:GrT×Bool,fV x id=some r/\fT x id=some r/\Data.sm r.1/\(r.2=true->JJ r.1/\ND r.1 x):=by
 obtain ⟨h1,h1'⟩:=fA hx.1
 obtain ⟨h2,h2'⟩:=fA hx.2
 obtain ⟨b,ev,kv⟩:=zw x h1 h2
 obtain ⟨k,k1,k2,hk⟩:=Gp x id h2
 unfold fV fT
 simp only[wD,wv,ev,JW x hx,JX x hx,k1,k2,aa]
 by_cases c:decide (k<0)=true
 ·simp only[if_pos c]
  cases b with
  | false=>exact ⟨(x,false),rfl,rfl,hx,fun h=>by cases h⟩
  | true=>exact ⟨(x,false),rfl,rfl,hx,fun h=>by cases h⟩
 ·simp only[if_neg c]
  cases b with
  | false=>exact ⟨(x,false),rfl,rfl,hx,fun h=>by cases h⟩
  | true =>
   rcases hk with rfl | ⟨i,hi,rfl⟩
   ·exact absurd rfl c
   ·have hw:IntKind.i64.wrap ((i:Int)+1)=((i+1:Nat):Int):=aI (by omega)
    have c1:(0:Int)<=(i:Int)/\(i:Int)<=(x.2.length:Int):=by omega
    have c2:(0:Int)<=((i+1:Nat):Int)/\((i+1:Nat):Int)<=(x.2.length:Int):=by omega
    have c3:(0:Int)<=(i:Int)/\(i:Int)<=((i+1:Nat):Int)/\((i+1:Nat):Int)<=(x.2.length:Int):=by omega
    have q1:(chk (0<=(i:Int)/\(i:Int)<=(x.2.length:Int)))=some ():=if_pos c1
    have q2:(chk (0<=((i+1:Nat):Int)/\((i+1:Nat):Int)<=(x.2.length:Int)))=some ():=if_pos c2
    have q3:(chk (0<=(i:Int)/\(i:Int)<=((i+1:Nat):Int)/\((i+1:Nat):Int)<=(x.2.length:Int)))=some ():=if_pos c3
    have a0:eg 8 ([] :List Int) x.1=some x.1:=by rw[aS (by simp only[aC];omega)];rfl
    have a1:eg 32 ([] :List Yq1) (x.2.take i)=some (x.2.take i):=by rw[aS (by simp only[aC,aD];omega)];rfl
    have a2:eg 32 (x.2.take i) (x.2.drop (i+1))=some (x.2.take i++x.2.drop (i+1)):=aS (by simp only[aD,aR];omega)
    have a4:bp x.2 (i:Int) ((i+1:Nat):Int)=some (x.2.take i++x.2.drop (i+1)):=by
     unfold bp R.Mk
     rw[q3];rfl
    simp only[if_true,hw,q1,q2,aa,Int.toNat_natCast,a0,a1,a2,a4]
    refine ⟨_,rfl,rfl,⟨hx.1,LS hx.2 i⟩,fun _=>⟨cut_ok (kv.1 rfl) i,rfl,fun e he=>?_⟩⟩
    rcases aB he with he | he
    ·exact List.mem_of_mem_take he
    ·exact List.mem_of_mem_drop he
theorem JZ {h g:GrT} (a:AutT) (H:ND h g) (z:Int): ∀y∈nxN h a z,y∈nxN g a z:=fun y hy=>by
 obtain ⟨h1,h2⟩:=H
 unfold nxN at hy⊢
 rw[h1] at hy
 split at hy
 ·rename_i c
  rw[if_pos c]
  unfold nxC nbC nbV at hy⊢
  obtain ⟨u,hu,hy⟩:=List.mem_flatMap.1 hy
  refine List.mem_flatMap.2 ⟨u,?_,?_⟩
  ·unfold fB at hu⊢
   obtain ⟨e,he,hu⟩:=List.mem_flatMap.1 hu
   exact List.mem_flatMap.2 ⟨e,h2 e he,hu⟩
  ·unfold nbA at hy⊢
   rw[h1] at hy;exact hy
 ·cases hy
theorem Dst.mono {N:Nat} {nx nx':Int->Int->Prop} {src:Int->Prop} {o p:List Int} (A:Dst N nx' src o) (B:Dst N nx src p) (h: ∀u t,nx' u t->nx u t): ∀(d:Nat) (t:Int),0<=t->t<N->nth o t=(d:Int)->0<=nth p t/\nth p t<=(d:Int)
 | 0,t,t0,t1,e=>by
  have:=(B.zero t t0 t1).2 ((A.zero t t0 t1).1 e)
  omega
 | d+1,t,t0,t1,e=>by
  obtain ⟨u,u0,u1,hn,hu⟩:=A.pred t t0 t1 (by omega)
  have ih:=Dst.mono A B h d u u0 u1 (by omega)
  have:=B.next u t u0 u1 t0 t1 (h u t hn) ih.1
  omega
section
variable {g:GrT} {a:AutT} (H:GOOD g a) {x:Int} (hx:0<=x/\x<g.1.length)
include H hx
theorem DN:Dst (a.2.1.length*g.1.length) (fun u t=>t∈nxN g a u) (· ∈ [x*(a.2.1.length:Int)+a.1]) (RKs g a (x*(a.2.1.length:Int)+a.1)):=by
 have hN:=nN H.1 H.2.2 H.2.1
 obtain ⟨K,hK,hE,hR⟩:=xY (AZ H hx) (fE H)
 have e1:=zy hN (AZ H hx) (fE H) (fun x=>by have:=j3 H x;omega) hK hE hR
 have hk:bsS (nxN g a) (a.2.1.length*g.1.length) (x*(a.2.1.length:Int)+a.1) K=bsS (nxN g a) (a.2.1.length*g.1.length) (x*(a.2.1.length:Int)+a.1) (a.2.1.length*g.1.length):=by
  have:=po (AZ H hx) (fE H) hE (a.2.1.length*g.1.length - K)
  rw[show K+(a.2.1.length*g.1.length - K)=a.2.1.length*g.1.length from by omega] at this
  exact this.symm
 obtain ⟨o,e2,hD⟩:=M3 (nx:=nxN g a) (fE H) hN (fun x=>by have:=j3 H x;omega) (vs:=[x*(a.2.1.length:Int)+a.1]) (fun v hv=>by obtain rfl:=al hv;exact AZ H hx) (by simp)
 rw[e1,hk] at e2
 rw[show RKs g a (x*(a.2.1.length:Int)+a.1)=o from ae e2]
 exact hD
end
def J4 (R:List Int) (i k:Int):Prop:=0<=nth R i/\nth R i=nth R k - 1
theorem J5 {R S:List Int} {i q k:Int} {N:Nat} (hS:S.length=N) (hq:0<=q/\q<N) (hk:0<=k):(nth (ur R i S q) k=nth S k\/nth (ur R i S q) k=nth S k+1)/\(q=k->J4 R i k->nth (ur R i S q) k=nth S k+1)/\(¬(q=k/\J4 R i k)->nth (ur R i S q) k=nth S k):=by
 unfold ur J4
 by_cases e:q=k
 ·subst e
  split
  ·rename_i c
   rw[da hq.1 (by omega)]
   exact ⟨.inr rfl,fun _ _=>rfl,fun h=>absurd ⟨rfl,c⟩ h⟩
  ·rename_i c
   exact ⟨.inl rfl,fun _ h=>absurd h c,fun _=>rfl⟩
 ·split
  ·rw[c7 hq.1 hk e]
   exact ⟨.inl rfl,fun h=>absurd h e,fun _=>rfl⟩
  ·exact ⟨.inl rfl,fun h=>absurd h e,fun _=>rfl⟩
theorem zE {R:List Int} {i k:Int} {N:Nat} (hk:0<=k): ∀(l:List Int) (S:List Int),S.length=N->(∀q∈l,0<=q/\q<N)->0<=nth S k->0<=nth (uu R i S l) k/\(0<nth (uu R i S l) k↔0<nth S k\/(k∈l/\J4 R i k))
 | [],S,_,_,h0=>⟨h0,by show 0<nth S k↔_;simp⟩
 | q::l,S,hS,hl,h0=>by
  obtain ⟨h1,h2,h3⟩:=J5 (R:=R) (i:=i) hS (hl q (by simp)) hk
  have hlen:(ur R i S q).length=N:=by unfold ur;split <;> simp[hS]
  obtain ⟨h4,h5⟩:=zE hk l (ur R i S q) hlen (fun p hp=>hl p (by simp[hp])) (by omega)
  refine ⟨h4,?_⟩
  show 0<nth (uu R i (ur R i S q) l) k↔_
  rw[h5]
  by_cases c:q=k/\J4 R i k
  ·have:=h2 c.1 c.2
   constructor
   ·intro _;exact .inr ⟨by rw[c.1];simp,c.2⟩
   ·intro _;exact .inl (by omega)
  ·have:=h3 c
   rw[this]
   constructor
   ·rintro (h | ⟨h,h'⟩)
    ·exact .inl h
    ·exact .inr ⟨by simp[h],h'⟩
   ·rintro (h | ⟨h,h'⟩)
    ·exact .inl h
    ·rcases aw h with rfl | h
     ·exact absurd ⟨rfl,h'⟩ c
     ·exact .inr ⟨h,h'⟩
section
variable {g:GrT} {a:AutT} (H:GOOD g a) {R:List Int}
include H
theorem zF {k:Int} (hk:0<=k/\k<(a.2.1.length*g.1.length:Nat)): ∀i:Nat,i<=a.2.1.length*g.1.length->(0<nth (pq (nxN g a) (a.2.1.length*g.1.length) R i) k↔ ∃j:Nat,j<i/\k∈nxN g a (j:Int)/\J4 R (j:Int) k)
 | 0,_=>by
  have h0:=(qR (R:=R) H 0 (Nat.zero_le _)).rng k hk.1 hk.2
  constructor
  ·intro h;simp at h0;omega
  ·rintro ⟨j,hj,-⟩;omega
 | i+1,hi=>by
  have hb:=qR (R:=R) H i (by omega)
  obtain ⟨h1,h2⟩:=zE (R:=R) (i:=(i:Int)) hk.1 (nxN g a (i:Int)) (pq (nxN g a) (a.2.1.length*g.1.length) R i) hb.len (fE H _ (by omega) (by omega)) (hb.rng k hk.1 hk.2).1
  show 0<nth (uu R (i:Int) _ _) k↔_
  rw[h2,zF hk i (by omega)]
  constructor
  ·rintro (⟨j,hj,h⟩ | h)
   ·exact ⟨j,by omega,h⟩
   ·exact ⟨i,by omega,h⟩
  ·rintro ⟨j,hj,h⟩
   by_cases c:j=i
   ·subst c;exact .inr h
   ·exact .inl ⟨j,by omega,h⟩
theorem J6 {x:Int} (hx:0<=x/\x<g.1.length) {k:Int} (hk:0<=k/\k<(a.2.1.length*g.1.length:Nat)):0<nth (bF g a x).2.2.1 k↔0<nth (bF g a x).2.2.2 k:=by
 have hD:=DN H hx
 show 0<nth (RKs g a _) k↔0<nth (pq _ _ (RKs g a _) _) k
 rw[zF H hk _ (aA _)]
 unfold J4
 constructor
 ·intro h
  obtain ⟨u,u0,u1,hn,hu⟩:=hD.pred k hk.1 hk.2 h
  refine ⟨u.toNat,by omega,?_⟩
  rw[show ((u.toNat:Nat):Int)=u from by omega]
  exact ⟨hn,by omega,hu⟩
 ·rintro ⟨j,hj,hn,h0,h1⟩
  omega
end
theorem Gr (x y:ViT) (hx:Data.sm x):eO x y=some (decide (x=y)):=by
 obtain ⟨ha,-,hr,hs⟩:=hx
 unfold eO
 have e1:cW (x.1.1,x.1.2.1,x.1.2.2) (y.1.1,y.1.2.1,y.1.2.2)=_:=xZ x.1 y.1 ha
 obtain ⟨r1,e2,k1⟩:=xU x.2.2.1 y.2.2.1 hr.1
 obtain ⟨r2,e3,k2⟩:=xU x.2.2.2 y.2.2.2 hs.1
 rw[e1];simp only[aa]
 by_cases c1:x.1=y.1
 ·rw[if_pos (by simpa using c1)]
  by_cases c2:x.2.1=y.2.1
  ·rw[if_pos (by simpa using c2),e2];simp only[aa]
   by_cases c3:x.2.2.1=y.2.2.1
   ·rw[if_pos (by simpa using k1.2 c3),e3];simp only[aa]
    by_cases c4:x.2.2.2=y.2.2.2
    ·have:x=y:=Prod.ext c1 (Prod.ext c2 (Prod.ext c3 c4))
     rw[decide_eq_true this,k2.2 c4];rfl
    ·rw[decide_eq_false (fun h:x=y=>c4 (by rw[h]))]
     simp only[Option.some.injEq,beq_eq_false_iff_ne,ne_eq]
     exact fun h=>c4 (k2.1 h)
   ·rw[if_neg (by simpa using fun h=>c3 (k1.1 h)),decide_eq_false (fun h:x=y=>c3 (by rw[h]))]
  ·rw[if_neg (by simpa using c2),decide_eq_false (fun h:x=y=>c2 (by rw[h]))]
 ·rw[if_neg (by simpa using c1),decide_eq_false (fun h:x=y=>c1 (by rw[h]))]
theorem Gs (x y:ViT) (hx:Data.sm x):eN x y=some (decide (x=y)):=by
 obtain ⟨ha,-,hr,hs⟩:=hx
 unfold eN
 have e1:cV (x.1.1,x.1.2.1,x.1.2.2) (y.1.1,y.1.2.1,y.1.2.2)=_:=ya x.1 y.1 ha
 have l1:=hr.1
 have l2:=hs.1
 rw[e1,qL x.2.2.1 y.2.2.1 (by omega),qL x.2.2.2 y.2.2.2 (by omega)];simp only[aa]
 by_cases c1:x.1=y.1
 ·rw[if_pos (by simpa using c1)]
  by_cases c2:x.2.1=y.2.1
  ·rw[if_pos (by simpa using c2)]
   by_cases c3:x.2.2.1=y.2.2.1
   ·rw[if_pos (by simpa using c3)]
    by_cases c4:x.2.2.2=y.2.2.2
    ·have:x=y:=Prod.ext c1 (Prod.ext c2 (Prod.ext c3 c4))
     rw[decide_eq_true this,decide_eq_true c4]
    ·rw[decide_eq_false c4,decide_eq_false (fun h:x=y=>c4 (by rw[h]))]
   ·rw[if_neg (by simpa using c3),decide_eq_false (fun h:x=y=>c3 (by rw[h]))]
  ·rw[if_neg (by simpa using c2),decide_eq_false (fun h:x=y=>c2 (by rw[h]))]
 ·rw[if_neg (by simpa using c1),decide_eq_false (fun h:x=y=>c1 (by rw[h]))]
theorem wz {g:GrT} {a:AutT} (H:GOOD g a) (ha:Data.sm a) {x:Int} (hx:0<=x/\x<g.1.length):Data.sm (bF g a x):=by
 obtain ⟨h1,h2,h3⟩:=lI H hx
 exact ⟨ha,trivial,⟨by omega,fun _ _=>trivial⟩,by omega,fun _ _=>trivial⟩
theorem qT (g:GrT) (v:ViT) (hg:Data.sm g) (hv:Data.sm v): ∃b,cX g v=some b/\cn g v=some b/\(b=true->GOOD g v.1/\(0<=v.2.1/\v.2.1<g.1.length)/\v=bF g v.1 v.2.1):=by
 unfold cX cn
 rcases qS g v.1 hg hv.1 v.2.1 with ⟨es,ei⟩ | ⟨H,hx,es,ei⟩
 ·have es:bg (g.1,g.2) (v.1.1,v.1.2.1,v.1.2.2) v.2.1=_:=es
  have ei:a8 (g.1,g.2) (v.1.1,v.1.2.1,v.1.2.2) v.2.1=_:=ei
  rw[es,ei]
  exact ⟨false,rfl,rfl,fun h=>by cases h⟩
 ·have es:bg (g.1,g.2) (v.1.1,v.1.2.1,v.1.2.2) v.2.1=_:=es
  have ei:a8 (g.1,g.2) (v.1.1,v.1.2.1,v.1.2.2) v.2.1=_:=ei
  rw[es,ei];simp only[aa,if_true]
  have hs:=wz H hv.1 hx
  have e1:eO (((bF g v.1 v.2.1).1.1,(bF g v.1 v.2.1).1.2.1,(bF g v.1 v.2.1).1.2.2),(bF g v.1 v.2.1).2.1,(bF g v.1 v.2.1).2.2.1,(bF g v.1 v.2.1).2.2.2) ((v.1.1,v.1.2.1,v.1.2.2),v.2.1,v.2.2.1,v.2.2.2)=_:=Gr (bF g v.1 v.2.1) v hs
  have e2:eN (((bF g v.1 v.2.1).1.1,(bF g v.1 v.2.1).1.2.1,(bF g v.1 v.2.1).1.2.2),(bF g v.1 v.2.1).2.1,(bF g v.1 v.2.1).2.2.1,(bF g v.1 v.2.1).2.2.2) ((v.1.1,v.1.2.1,v.1.2.2),v.2.1,v.2.2.1,v.2.2.2)=_:=Gs (bF g v.1 v.2.1) v hs
  rw[e1,e2];simp only[aa]
  exact ⟨_,rfl,rfl,fun h=>⟨H,hx,(of_decide_eq_true h).symm⟩⟩
theorem wA {l:List Int} (h:l.length<=1048576):cy l=some l:=by
 unfold cy
 rw[aS (by simp only[aC];omega)];rfl
theorem J7 (v:ViT) (hv:Data.sm v):fg v=some v:=by
 obtain ⟨ha,-,hr,hs⟩:=hv
 unfold fg
 have e1:bB (v.1.1,v.1.2.1,v.1.2.2)=_:=DK v.1 ha
 rw[e1,wA hr.1,wA hs.1];rfl
theorem Gt {g h:GrT} {v:ViT} (hg:Data.sm g) (hv:Data.sm v) (hh:Data.sm h) {ok:Bool} (hok:ok=true->JJ h/\h.1=g.1): ∃b,cn g v=some b/\jr g v h ok=some (if ok&&b then (bF h v.1 v.2.1,true) else (v,false))/\(ok=true->b=true->GOOD h v.1/\(0<=v.2.1/\v.2.1<h.1.length)):=by
 obtain ⟨b,e1,e2,hb⟩:=qT g v hg hv
 refine ⟨b,e2,?_,fun h1 h2=>?_⟩
 ·unfold jr
  have e2:cn (g.1,g.2) ((v.1.1,v.1.2.1,v.1.2.2),v.2.1,v.2.2.1,v.2.2.2)=_:=e2
  have ec:fg ((v.1.1,v.1.2.1,v.1.2.2),v.2.1,v.2.2.1,v.2.2.2)=_:=J7 v hv
  cases ok with
  | false =>
   rw[if_neg (by simp),ec];rfl
  | true =>
   rw[if_pos rfl,e2];simp only[aa]
   cases b with
   | false=>rw[if_neg (by simp),ec];rfl
   | true =>
    obtain ⟨H,hx,-⟩:=hb rfl
    obtain ⟨G,hn⟩:=hok rfl
    have H2:GOOD h v.1:=⟨G.1,H.2.1,H.2.2⟩
    have hx2:0<=v.2.1/\v.2.1<h.1.length:=by rw[hn];exact hx
    obtain ⟨c,g1,g2,g3⟩:=zz h v.1 hh hv.1 v.2.1
    have hc:c=true:=g3.2 ⟨⟨G,H2⟩,hx2⟩
    subst hc
    have eb:a8 (h.1,h.2) (v.1.1,v.1.2.1,v.1.2.2) v.2.1=_:=DM H2 hx2 hv.1 g2
    rw[if_pos rfl,eb];rfl
 ·obtain ⟨H,hx,-⟩:=hb h2
  obtain ⟨G,hn⟩:=hok h1
  exact ⟨⟨G.1,H.2.1,H.2.2⟩,by rw[hn];exact hx⟩
end D
end Go.Proofs.YtobhhnobjflbnaaGreat
