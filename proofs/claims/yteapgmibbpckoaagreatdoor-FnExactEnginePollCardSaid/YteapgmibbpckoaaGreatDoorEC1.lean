/- FnExactEnginePoll: for every input the law returns true and changes nothing that was there. Part 2 of 9. -/
import Derived.Test.YteapgmibbpckoaaGreatDoorRows
import Derived.WalkKit
import Derived.WalkSpells
import Derived.WalkLawsBesides
import Derived.ProofKit
import Derived.Orders
import Derived.Deep.MidRow
import Derived.Maps.AppendAt
import Derived.OwnWalk
import Derived.Great.BuildSlice
import Derived.Shelf.Abstract
import Derived.Laws.StructEq
import Derived.Lib.SliceRun
import Derived.Maps.OwnSet
import Derived.DeepKeys4
import Derived.Laws.CopyRow
import Derived.Lib.LaidTab
import Derived.Lib.ItoaNum
import Derived.Lib.AppendZeros
import Derived.Lib.Overlaps
import Derived.Laws.AppendOwn
import Derived.Shelf.SlSortCmp.NoneTotal
import Derived.Lib.SortBridge
import Derived.Test.YteapgmibbpckoaaGreatDoorProg
import Derived.Shelf.Sort.Plain
import Derived.Shelf.Slices.In.SortNone
import Derived.Shelf.Strings.OnBuilder
import Derived.Shelf.Strconv.Itoa3
import Derived.Sort.Grow
import Derived.Shelf.Strings.Split
import Derived.Shelf.Strings.Cut
import Derived.Shelf.Small.Strs
import Derived.Shelf.Strconv.Atoi
import Derived.Shelf.Strconv.ErrVar
import Derived.Lib.AtoiBound
import Derived.Shelf.LaysM
import Derived.Shelf.LaysC
import Derived.Deep.Slices
import Derived.Lib.ItoaLen
import Derived.Lib.Join
import Derived.Lib.Atoi
import Derived.Lib.Split
import Derived.Test.YteapgmibbpckoaaGreatDoorCards
import Derived.Test.YteapgmibbpckoaaGreatDoorTie
import Derived.LaidMore
import Derived.OpenShut
import Derived.Stop.Joined
import Derived.SevenTiedAt
import Derived.Stop.LaidErr
import Derived.SizedLaws
import Derived.Lay
set_option synthInstance.maxSize 20000
set_option synthInstance.maxHeartbeats 2000000
set_option linter.unusedVariables false
set_option linter.unusedSimpArgs false
set_option linter.unnecessarySimpa false
set_option linter.unusedSectionVars false
set_option maxRecDepth 1000000
namespace Go.Proofs.YteapgmibbpckoaaGreatDoor
open Go.IntKind (i64)
theorem aa: ∀ {α:Type _} {β:Type _} (a:α) (f:α->Option β),(some a).bind f=f a:= @Option.bind_some
theorem ae: ∀ {α:Type _} {a b:α},some a=some b->a=b:= @Option.some.inj
theorem bd: ∀ {n m:Nat},n.ble m=true->n<=m:= @Nat.le_of_ble_eq_true
theorem aw: ∀ {n m:Nat},n.beq m=true->n=m:= @Nat.eq_of_beq_eq_true
theorem aD: ∀ {α:Type _} (x y z:List α),x++y++z=x++(y++z):= @List.append_assoc
theorem aF: ∀ {α:Type _} {x y:List α},(x++y).length=x.length+y.length:= @List.length_append
theorem aM: ∀ {α:Type _} {a:α} {x:List α},(a::x).length=x.length+1:= @List.length_cons
theorem ax: ∀ {α:Type _} {a b:α},a ∈ [b] ->a=b:=fun h=>List.mem_singleton.1 h
theorem az: ∀ {α:Type _} {b:α} {l:List α} {a:α},a∈b::l->a=b\/a∈l:=fun h=>List.mem_cons.1 h
theorem aN: ∀ {α:Type _} {a:α} {s t:List α},a∈s++t->a∈s\/a∈t:=fun h=>List.mem_append.1 h
theorem al: ∀(a b:Bool),((a&&b)=true)=(a=true/\b=true):= @Bool.and_eq_true
theorem ay: ∀(n:Nat),n<n.succ:= @Nat.lt_succ_self
theorem aB: ∀ {α:Type _} {i:Nat} {l:List α},(List.take i l).length=min i l.length:= @List.length_take
theorem bF: ∀ {α:Type _} {i:Nat} {l:List α},(List.drop i l).length=l.length - i:= @List.length_drop
theorem aC: ∀ {n m k:Nat},n<m->m<=k->n<k:= @Nat.lt_of_lt_of_le
theorem aH: ∀(n:Nat),n<=n:= @Nat.le_refl
theorem bp: ∀ {α:Type _} (y:α) {a:α} {l:List α},a∈l->a∈y::l:= @List.mem_cons_of_mem
theorem bq: ∀ {α:Type _} {a:α} {x:List α} (y:List α),a∈x->a∈x++y:= @List.mem_append_left
theorem bw: ∀ {α:Type _} {b:α} (x:List α) {y:List α},b∈y->b∈x++y:= @List.mem_append_right
theorem aZ: ∀ {α:Type _},([] :List α).length=0:= @List.length_nil
theorem aU: ∀ {α:Type _} {β:Type _} {f:α->β} {l₁ l₂:List α},List.map f (l₁++l₂)=List.map f l₁++List.map f l₂:= @List.map_append
theorem aW: ∀ {n m:Nat},n<m->n<m.succ:= @Nat.lt_succ_of_lt
namespace D
open Go.RowKit
def lim:Nat:=9223372036854775807
def Hp:=Nat->Option Obj
def Hp.le (I J:Hp):Prop:= ∀b o,I b=some o->J b=some o
def hp (w:World):Hp:=fun b=>w.heap[b]?
theorem Hp.le.rfl {I:Hp} :I.le I:=fun _ _ h=>h
theorem Hp.le.trans {I J K:Hp} (h:I.le J) (k:J.le K):I.le K:=fun b o e=>k b o (h b o e)
structure Rep (α:Type) where
 size:Nat
 rd:Hp->List Value->α->Prop
 own:Hp->World->List Value->α->List Nat->Prop
 rd_len: ∀ {I cs a},rd I cs a->cs.length=size
 rd_one: ∀ {I cs a},rd I cs a-> ∀u∈cs,u.oneCell'=true
 rd_mono: ∀ {I J cs a},rd I cs a->I.le J->rd J cs a
 own_len: ∀ {I w cs a F},own I w cs a F->cs.length=size
 own_one: ∀ {I w cs a F},own I w cs a F-> ∀u∈cs,u.oneCell'=true
 own_mono: ∀ {I J w cs a F},own I w cs a F->I.le J->own J w cs a F
 own_stay: ∀ {I w w' cs a F},own I w cs a F->(∀b,b∈F->w'.heap[b]? =w.heap[b]?)->own I w' cs a F
 own_live: ∀ {I w cs a F},own I w cs a F-> ∀b,b∈F->b<w.heap.size
 own_rd: ∀ {I J w cs a F},own I w cs a F->I.le J->(∀b,b∈F->J b=w.heap[b]?)->rd J cs a
def nA (α:Type) (enc:α->Value) (h1: ∀a,(enc a).oneCell'=true):Rep α where
 size:=1
 rd _ cs a:=cs= [enc a]
 own _ _ cs a F:=F= [] /\cs= [enc a]
 rd_len h:=by rw[h];rfl
 rd_one h:=by rw[h];intro u hu;simp at hu;subst hu;exact h1 _
 rd_mono h _:=h
 own_len h:=by rw[h.2];rfl
 own_one h:=by rw[h.2];intro u hu;simp at hu;subst hu;exact h1 _
 own_mono h _:=h
 own_stay h _:=h
 own_live h:=by rw[h.1];intro b hb;cases hb
 own_rd h _ _:=h.2
def be:Rep Int:=nA Int (.int .i64) fun _=>rfl
def rp:Rep Bool:=nA Bool .bool fun _=>rfl
def Iy:Rep ByteArray:=nA ByteArray .string fun _=>rfl
def aL {α β:Type} (R:Rep α) (S:Rep β):Rep (α×β) where
 size:=R.size+S.size
 rd I cs x:= ∃c d,cs=c++d/\R.rd I c x.1/\S.rd I d x.2
 own I w cs x F:= ∃c d G K,cs=c++d/\F=G++K/\R.own I w c x.1 G/\S.own I w d x.2 K
 rd_len:=by
  rintro I cs x ⟨c,d,rfl,h1,h2⟩
  rw[aF,R.rd_len h1,S.rd_len h2]
 rd_one:=by
  rintro I cs x ⟨c,d,rfl,h1,h2⟩ u hu
  rcases aN hu with h | h
  ·exact R.rd_one h1 u h
  ·exact S.rd_one h2 u h
 rd_mono:=by
  rintro I J cs x ⟨c,d,rfl,h1,h2⟩ h
  exact ⟨c,d,rfl,R.rd_mono h1 h,S.rd_mono h2 h⟩
 own_len:=by
  rintro I w cs x F ⟨c,d,G,K,rfl,rfl,h1,h2⟩
  rw[aF,R.own_len h1,S.own_len h2]
 own_one:=by
  rintro I w cs x F ⟨c,d,G,K,rfl,rfl,h1,h2⟩ u hu
  rcases aN hu with h | h
  ·exact R.own_one h1 u h
  ·exact S.own_one h2 u h
 own_mono:=by
  rintro I J w cs x F ⟨c,d,G,K,rfl,rfl,h1,h2⟩ h
  exact ⟨c,d,G,K,rfl,rfl,R.own_mono h1 h,S.own_mono h2 h⟩
 own_stay:=by
  rintro I w w' cs x F ⟨c,d,G,K,rfl,rfl,h1,h2⟩ h
  exact ⟨c,d,G,K,rfl,rfl,R.own_stay h1 fun b hb=>h b (bq _ hb),S.own_stay h2 fun b hb=>h b (bw _ hb)⟩
 own_live:=by
  rintro I w cs x F ⟨c,d,G,K,rfl,rfl,h1,h2⟩ b hb
  rcases aN hb with h | h
  ·exact R.own_live h1 b h
  ·exact S.own_live h2 b h
 own_rd:=by
  rintro I J w cs x F ⟨c,d,G,K,rfl,rfl,h1,h2⟩ hJ h
  exact ⟨c,d,rfl,R.own_rd h1 hJ fun b hb=>h b (bq _ hb),S.own_rd h2 hJ fun b hb=>h b (bw _ hb)⟩
def CF {α:Type} (R:Rep α):Rep α where
 size:=R.size
 rd:=R.rd
 own I _ cs a F:=F= [] /\R.rd I cs a
 rd_len:=R.rd_len
 rd_one:=R.rd_one
 rd_mono:=R.rd_mono
 own_len h:=R.rd_len h.2
 own_one h:=R.rd_one h.2
 own_mono h k:=⟨h.1,R.rd_mono h.2 k⟩
 own_stay h _:=h
 own_live h:=by rw[h.1];intro b hb;cases hb
 own_rd h k _:=R.rd_mono h.2 k
def OwnEls {α:Type} (R:Rep α) (I:Hp) (w:World):List Value->List α->List Nat->Prop
 | _,[],F=>F= []
 | cur,x::xs,F=> ∃c rest G K,cur=c++rest/\c.length=R.size/\F=G++K/\R.own I w c x G/\OwnEls R I w rest xs K
section
variable {α:Type} {R:Rep α} {I J:Hp}
theorem OwnEls.stay {w w':World} : ∀ {xs:List α} {cur F},OwnEls R I w cur xs F->(∀b,b∈F->w'.heap[b]? =w.heap[b]?)->OwnEls R I w' cur xs F
 | [],_,_,h,_=>h
 | x::xs,cur,F,⟨c,rest,G,K,h1,h2,h3,h4,h5⟩,h=>by
  subst h3;exact ⟨c,rest,G,K,h1,h2,rfl,R.own_stay h4 fun b a=>h b (bq _ a),h5.stay fun b a=>h b (bw _ a)⟩
theorem OwnEls.mono {w:World} : ∀ {xs:List α} {cur F},OwnEls R I w cur xs F->I.le J->OwnEls R J w cur xs F
 | [],_,_,h,_=>h
 | x::xs,cur,F,⟨c,rest,G,K,h1,h2,h3,h4,h5⟩,h=>⟨c,rest,G,K,h1,h2,h3,R.own_mono h4 h,h5.mono h⟩
theorem OwnEls.live {w:World} : ∀ {xs:List α} {cur F},OwnEls R I w cur xs F-> ∀b,b∈F->b<w.heap.size
 | [],_,_,h,b,hb=>by rw[show _= [] from h] at hb;cases hb
 | x::xs,cur,F,⟨c,rest,G,K,_,_,h3,h4,h5⟩,b,hb=>by
  subst h3;rcases aN hb with h | h
  ·exact R.own_live h4 b h
  ·exact h5.live b h
theorem OwnEls.at {w:World} : ∀ {xs:List α} {cur F},OwnEls R I w cur xs F->I.le J->(∀b,b∈F->J b=w.heap[b]?)-> ∀(i:Nat) x,xs[i]? =some x-> ∃c:List Value,c.length=R.size/\(∀j,j<R.size->cur[i*R.size+j]? =c[j]?)/\R.rd J c x
 | [],_,_,_,_,_,i,x,a=>by grind
 | y::xs,cur,F,⟨c,rest,G,K,h1,h2,h3,h4,h5⟩,hJ,hB,i,x,a=>by
  subst h3;match i,a with
  | 0,a =>
   simp at a;subst a;exact ⟨c,h2,fun j g=>by grind,R.own_rd h4 hJ fun b e=>hB b (bq _ e)⟩
  | i+1,a =>
   have ⟨d,h,f,k⟩:=h5.at hJ (fun b e=>hB b (bw _ e)) i x (by grind);grind
theorem OwnEls.rest {w:World} : ∀ {xs:List α} {cur cur' F},OwnEls R I w cur xs F->cur'.take (xs.length*R.size)=cur.take (xs.length*R.size)->OwnEls R I w cur' xs F
 | [],_,_,_,h,_=>h
 | y::xs,cur,cur',F,⟨c,rest,G,K,h1,h2,h3,h4,h5⟩,h=>by
  subst h1;rw[aM,Nat.add_mul,Nat.one_mul,Nat.add_comm] at h;rw[List.take_append,List.take_of_length_le (l:=c) (by omega),h2,Nat.add_sub_cancel_left] at h;have a:cur'.take R.size=c:=by
   have:=congrArg (List.take R.size) h
   rw[List.take_take,Nat.min_eq_left (by omega),<-h2,List.take_left,h2] at this;exact this
  refine ⟨c,cur'.drop R.size,G,K,?_,h2,h3,h4,h5.rest ?_⟩
  ·rw[<-a,List.take_append_drop]
  ·have:=congrArg (List.drop R.size) h
   grind
theorem OwnEls.join {w:World} : ∀ {xs ys:List α} {cur rest F G},OwnEls R I w cur xs F->cur.length=xs.length*R.size->OwnEls R I w rest ys G->OwnEls R I w (cur++rest) (xs++ys) (F++G)
 | [],ys,cur,rest,F,G,h,hl,k=>by
  have:cur= []:=List.eq_nil_of_length_eq_zero (by grind)
  subst this;rw[show F= [] from h];exact k
 | x::xs,ys,cur,rest,F,G,⟨c,r,G1,K,h1,h2,h3,h4,h5⟩,hl,k=>by
  subst h1;subst h3;refine ⟨c,r++rest,G1,K++G,by simp,h2,by simp,h4,h5.join ?_ k⟩;grind
theorem OwnEls.parts {w:World} : ∀ {xs ys:List α} {cur F},OwnEls R I w cur (xs++ys) F-> ∃G K,F=G++K/\OwnEls R I w cur xs G/\OwnEls R I w (cur.drop (xs.length*R.size)) ys K
 | [],ys,cur,F,h=>⟨[],F,rfl,rfl,by simp_all⟩
 | x::xs,ys,cur,F,⟨c,r,G1,K,h1,h2,h3,h4,h5⟩=>by
  have ⟨G,d,b,a,e⟩:=h5.parts;subst h1;subst h3;subst b;refine ⟨G1++G,d,by simp,⟨c,r,G1,G,rfl,h2,rfl,h4,a⟩,?_⟩;simp_all[aM,Nat.add_mul,Nat.one_mul,Nat.add_comm,List.drop_append,List.drop_of_length_le,Nat.add_sub_cancel_left]
end
def ah {α:Type} (E:TypeId) (R:Rep α):Rep (List α) where
 size:=1
 rd I cs xs:= ∃ao cap,cs= [.slice ao xs.length cap] /\(xs.length<=lim/\xs.length<=cap)/\(xs= [] \/ ∃b off ccs t fr,ao=some ⟨b,off,none⟩/\I b=some (.cells ccs t fr) /\
  ∀i x,xs[i]? =some x-> ∃c:List Value,c.length=R.size/\(∀j,j<R.size->ccs.toList[off+i*R.size+j]? =c[j]?)/\R.rd I c x)
 own I w cs xs F:=xs.length<=lim/\((cs= [.slice none 0 0] /\xs= [] /\F= []) \/
  ∃g ofs cap cur K,cs= [.slice (some ⟨g,ofs,none⟩) xs.length cap] /\w.heap[g]? =some (.cells cur E (0,0))/\xs.length<=cap/\cap<=maxLen/\ofs+cap*R.size<=cur.size/\F=g::K/\OwnEls R I w (cur.toList.drop ofs) xs K)
 rd_len:=by rintro I cs xs ⟨ao,cap,rfl,_⟩;rfl
 rd_one:=by rintro I cs xs ⟨ao,cap,rfl,_⟩ u hu;simp at hu;subst hu;rfl
 rd_mono:=by
  rintro I J cs xs ⟨ao,cap,rfl,hl,h⟩ hJ
  refine ⟨ao,cap,rfl,hl,?_⟩
  rcases h with h | ⟨b,off,ccs,t,fr,h1,h2,h4⟩
  ·exact .inl h
  ·exact .inr ⟨b,off,ccs,t,fr,h1,hJ _ _ h2,fun i x hx=>let ⟨c,e1,e2,e3⟩:=h4 i x hx; ⟨c,e1,e2,R.rd_mono e3 hJ⟩⟩
 own_len:=by
  rintro I w cs xs F ⟨hl,h⟩
  rcases h with ⟨rfl,_⟩ | ⟨g,ofs,cap,cur,K,rfl,_⟩ <;> rfl
 own_one:=by
  rintro I w cs xs F ⟨hl,h⟩ u hu
  rcases h with ⟨rfl,_⟩ | ⟨g,ofs,cap,cur,K,rfl,_⟩ <;> (simp at hu;subst hu;rfl)
 own_mono:=by
  rintro I J w cs xs F ⟨hl,h⟩ hJ
  refine ⟨hl,?_⟩
  rcases h with h | ⟨g,ofs,cap,cur,K,h1,h2,h3,h4,h5,h6,h7⟩
  ·exact .inl h
  ·exact .inr ⟨g,ofs,cap,cur,K,h1,h2,h3,h4,h5,h6,h7.mono hJ⟩
 own_stay:=by
  rintro I w w' cs xs F ⟨hl,h⟩ hw
  refine ⟨hl,?_⟩
  rcases h with h | ⟨g,ofs,cap,cur,K,h1,h2,h3,h4,h5,rfl,h6⟩
  ·exact .inl h
  ·exact .inr ⟨g,ofs,cap,cur,K,h1,by rw[hw g (by simp)];exact h2,h3,h4,h5,rfl,h6.stay fun b hb=>hw b (by simp[hb])⟩
 own_live:=by
  rintro I w cs xs F ⟨hl,h⟩ b hb
  rcases h with ⟨_,_,rfl⟩ | ⟨g,ofs,cap,cur,K,h1,h2,h3,h4,h5,rfl,h6⟩
  ·cases hb
  ·rcases az hb with rfl | hb
   ·exact (Array.getElem?_eq_some_iff.1 h2).1
   ·exact h6.live b hb
 own_rd:=by
  rintro I J w cs xs F ⟨hl,h⟩ hJ hB
  rcases h with ⟨rfl,rfl,rfl⟩ | ⟨g,ofs,cap,cur,K,rfl,h2,h3,h4,h5,rfl,h6⟩
  ·exact ⟨none,0,rfl,by simp,.inl rfl⟩
  ·refine ⟨some ⟨g,ofs,none⟩,cap,rfl,⟨hl,h3⟩,.inr ⟨g,ofs,cur,E,(0,0),rfl,by rw[hB g (by simp)];exact h2,fun i x hx=>?_⟩⟩
   obtain ⟨c,e1,e2,e3⟩:=h6.at hJ (fun b hb=>hB b (by simp[hb])) i x hx
   exact ⟨c,e1,fun j hj=>by rw[Nat.add_assoc,<-List.getElem?_drop];exact e2 j hj,e3⟩
structure Ch where
 holds:Hp->World->List Nat->Prop
 mono: ∀ {I J w F},holds I w F->I.le J->holds J w F
 stay: ∀ {I w w' F},holds I w F->(∀b,b∈F->w'.heap[b]? =w.heap[b]?)->holds I w' F
 live: ∀ {I w F},holds I w F-> ∀b,b∈F->b<w.heap.size
def Ch.own {α:Type} (R:Rep α) (cs:List Value) (a:α):Ch:=⟨fun I w F=>R.own I w cs a F,fun h=>R.own_mono h,fun h=>R.own_stay h,fun h=>R.own_live h⟩
def Ch.blk (g:Nat) (cs:List Value) (E:TypeId):Ch:=
 ⟨fun _ w F=>F= [g] /\w.heap[g]? =some (.cells cs.toArray E (0,0)),fun h _=>h,fun h hw=>⟨h.1,by rw[hw g (by rw[h.1];simp)];exact h.2⟩,fun h b hb=>by rw[h.1] at hb;simp at hb;subst hb;exact (Array.getElem?_eq_some_iff.1 h.2).1⟩
def Sep (I:Hp):List Ch->World->List Nat->Prop
 | [],_,F=>F= []
 | c::cs,w,F=> ∃G K,F=G++K/\c.holds I w G/\Sep I cs w K
section
variable {I J:Hp}
theorem Sep.stay {w w':World} : ∀ {a F},Sep I a w F->(∀b,b∈F->w'.heap[b]? =w.heap[b]?)->Sep I a w' F
 | [],_,h,_=>h
 | c::a,F,⟨G,K,h1,h2,h3⟩,h=>by
  subst h1;exact ⟨G,K,rfl,c.stay h2 fun b d=>h b (bq _ d),h3.stay fun b d=>h b (bw _ d)⟩
theorem Sep.mono {w:World} : ∀ {a F},Sep I a w F->I.le J->Sep J a w F
 | [],_,h,_=>h
 | c::a,F,⟨G,K,h1,h2,h3⟩,h=>⟨G,K,h1,c.mono h2 h,h3.mono h⟩
theorem Sep.live {w:World} : ∀ {a F},Sep I a w F-> ∀b,b∈F->b<w.heap.size
 | [],_,h,b,hb=>by rw[show _= [] from h] at hb;cases hb
 | c::a,F,⟨G,K,h1,h2,h3⟩,b,hb=>by
  subst h1;rcases aN hb with h | h
  ·exact c.live h2 b h
  ·exact h3.live b h
theorem Sep.append {w:World} : ∀ {b a F G},Sep I b w F->Sep I a w G->Sep I (b++a) w (F++G)
 | [],a,F,G,h,k=>by rw[show F= [] from h];exact k
 | c::b,a,F,G,⟨G1,K,h1,h2,h3⟩,k=>by
  subst h1;exact ⟨G1,K++G,by simp,h2,h3.append k⟩
theorem Sep.split {w:World} : ∀ {b a F},Sep I (b++a) w F-> ∃G K,F=G++K/\Sep I b w G/\Sep I a w K
 | [],a,F,h=>⟨[],F,rfl,rfl,h⟩
 | c::b,a,F,⟨G,K,h1,h2,h3⟩=>by
  have ⟨d,i,f,e,g⟩:=Sep.split h3;subst f;subst h1;exact ⟨G++d,i,by simp,⟨G,d,rfl,h2,e⟩,g⟩
theorem Sep.perm {w:World} {cs ds:List Ch} (h:cs.Perm ds): ∀ {F},Sep I cs w F-> ∃G,G.Perm F/\Sep I ds w G:=by
 induction h with
 | nil=>grind
 | cons c _ ih =>
  rintro F ⟨G,K,rfl,e,m⟩;have ⟨d,j,g⟩:=ih m;exact ⟨G++d,j.append_left G,G,d,rfl,e,g⟩
 | swap a b l =>
  rintro F ⟨G,K,rfl,e,⟨f,d,rfl,i,k⟩⟩;exact ⟨f++(G++d),List.perm_append_comm_assoc _ _ _,f,G++d,rfl,i,G,d,rfl,e,k⟩
 | trans _ _ ih1 ih2 =>
  grind
end
def St (I:Hp) (w0 w:World) (cs:List Ch):Prop:=
 (w.os=w0.os/\w.tape=w0.tape/\w.output=w0.output/\w0.heap.size<=w.heap.size)/\I.le (hp w)/\ ∃F,Sep I cs w F/\F.Nodup/\ ∀b,b∈F->I b=none
section
variable {I J:Hp} {w0 w w':World} {cs ds:List Ch}
theorem St.init (w:World):St (hp w) w w []:=⟨⟨rfl,rfl,rfl,aH _⟩,.rfl,[],rfl,List.nodup_nil,by simp⟩
theorem St.perm (h:St I w0 w cs) (hp:cs.Perm ds):St I w0 w ds:=by
 have ⟨f,g,F,e,j,i⟩:=h;have ⟨G,c,d⟩:=e.perm hp;exact ⟨f,g,G,d,c.nodup_iff.2 j,fun b a=>i b (c.mem_iff.1 a)⟩
theorem Q0 {α:Type} {l:List α} {c:α} : ∀ {i:Nat},l[i]? =some c->l.Perm (c::l.eraseIdx i):=by
 induction l with
 | nil=>grind
 | cons x l ih =>
  intro i h;cases i with
  | zero=>simp_all
  | succ i=>exact ((ih (by grind)).cons x).trans (.swap _ _ _)
theorem St.front (h:St I w0 w cs) {c:Ch} (i:Nat) (hi:cs[i]? =some c):St I w0 w (c::cs.eraseIdx i):=h.perm (Q0 hi)
theorem St.tail {c:Ch} (h:St I w0 w (c::cs)):St I w0 w cs:=by
 obtain ⟨d,e,F,⟨G,K,rfl,j,f⟩,i,g⟩:=h;exact ⟨d,e,K,f,(List.nodup_append.1 i).2.1,fun b a=>g b (bw _ a)⟩
theorem St.left (h:St I w0 w (cs++ds)):St I w0 w cs:=by
 have ⟨e,f,F,d,i,g⟩:=h;obtain ⟨G,K,rfl,c,j⟩:=d.split;exact ⟨e,f,G,c,(List.nodup_append.1 i).1,fun b a=>g b (bq _ a)⟩
theorem St.step {c:List Ch} {c':List Ch} (h:St I w0 w (c++cs)) (x:w'.os=w.os) (u:w'.tape=w.tape) (s:w'.output=w.output) (A:w.heap.size<=w'.heap.size)
  (hs: ∀F,Sep I c w F->F.Nodup->(∀b,b∈F->I b=none)->(∀b,b<w.heap.size->b∉F->w'.heap[b]? =w.heap[b]?)/\ ∃F',Sep I c' w' F'/\F'.Nodup/\ ∀b,b∈F'->b∈F\/w.heap.size<=b):St I w0 w' (c'++cs):=by
 have ⟨⟨t,v,E,L⟩,m,F,n,M,q⟩:=h;obtain ⟨G,K,rfl,H,g⟩:=n.split;have ⟨C,B,y⟩:=List.nodup_append.1 M;have ⟨l,r,z,D,j⟩:=hs G H C fun b d=>q b (bq _ d);have p:=fun b a=>l b (g.live b a) fun k=>y b k b a rfl;have f:=fun b o d=>(Array.getElem?_eq_some_iff.1 (m b o d)).1;refine ⟨⟨x.trans t,u.trans v,s.trans E,Nat.le_trans L A⟩,fun b o d=>?_,r++K,z.append (g.stay p),List.nodup_append.2 ⟨D,B,?_⟩,?_⟩
 ·show w'.heap[b]? =some o;rw[l b (f b o d) fun k=>by grind];exact m b o d
 ·rintro b e c i rfl;rcases j b e with h | h
  ·grind
  ·have:=g.live b i;omega
 ·intro b a;rcases aN a with h | h
  ·rcases j b h with h | h
   ·grind
   ·cases N:I b with
    | none=>rfl
    | some o=>grind
  grind
theorem St.drawn (h:St I w0 w cs) (f:w'.os=w.os) (d:w'.tape=w.tape) (a:w'.output=w.output) (e:w'.heap=w.heap):St I w0 w' cs:=by
 refine St.step (w:=w) (c:=[]) (c':=[]) h f d a (by grind) ?_;rintro F rfl - -;exact ⟨fun b g _=>by rw[e],[],rfl,List.nodup_nil,by simp⟩
theorem St.drew (h:St I w0 w cs):St I w0 w.drew cs:=h.drawn rfl rfl rfl rfl
def Ch.fr (I:Hp) (cs:List Ch):Ch:=⟨fun _ w F=>Sep I cs w F,fun h _=>h,fun h=>h.stay,fun h=>h.live⟩
def Ch.deep (c:Ch):Prop:= ∀ {I J w F},c.holds J w F->c.holds I w F
def Ch.deeps:List Ch->Prop
 | [] =>True
 | c::cs=>c.deep/\Ch.deeps cs
theorem Sep.deeps {w:World} : ∀ {cs F},Ch.deeps cs->Sep J cs w F->Sep I cs w F
 | [],_,_,h=>h
 | c::cs,F,hd,⟨G,K,h1,h2,h3⟩=>⟨G,K,h1,hd.1 h2,h3.deeps hd.2⟩
theorem St.lend {ls:List Ch} (h:St I w0 w (ls++cs)): ∃J,I.le J/\(∀ {α:Type} (R:Rep α) (v:List Value) (a:α),Ch.own R v a∈ls->R.rd J v a)/\(∀g l E,Ch.blk g l E∈ls->J g=some (.cells l.toArray E (0,0)))/\St J w0 w [Ch.fr I cs] /\
  ∀w' ds,Ch.deeps ds->St J w0 w' (ds++ [Ch.fr I cs])->St I w0 w' (ds++(ls++cs)):=by
 have ⟨r,Q,F,A,T,W⟩:=h;obtain ⟨G,K,rfl,n,S⟩:=A.split;have ⟨n1,O,Y⟩:=List.nodup_append.1 T;let J:=fun b=>if b∈G then w.heap[b]? else I b;have j:I.le J:=fun b o f=>by
  grind
 have k: ∀b,b∈G->J b=w.heap[b]? :=fun b f=>if_pos f;have s: ∀b,b∉G->J b=I b:=fun b f=>if_neg f;have i: ∀ {ls:List Ch} {G:List Nat} {c:Ch},Sep I ls w G->c∈ls-> ∃m,(∀b,b∈m->b∈G)/\c.holds I w m:=by
  intro ls;induction ls with
  | nil=>grind
  | cons d ls ih =>
   rintro G c ⟨G1,K1,rfl,e,Z⟩ X;grind
 refine ⟨J,j,fun R v a u=>?_,fun g l E u=>?_,⟨r,fun b o f=>?_,K,⟨K,[],by simp,S,rfl⟩,O,fun b f=>?_⟩,?_⟩
 ·have ⟨m,x,z⟩:=i n u;exact R.own_rd z j fun b r=>k b (x b r)
 ·have ⟨m,x,z,f3⟩:=i n u;grind
 ·by_cases p:b∈G
  ·rw[k b p] at f;exact f
  ·rw[s b p] at f;exact Q b o f
 ·grind
 ·rintro w' ds C ⟨D,y,U,P,k2,k3⟩;obtain ⟨M,V,rfl,N,L,F4,rfl,B,rfl⟩:=P.split;have t:=n.live;have q: ∀b,b∈G->w'.heap[b]? =w.heap[b]? :=fun b p=>by
   have ⟨o,H⟩: ∃o,w.heap[b]? =some o:=⟨_,Array.getElem?_eq_getElem (t b p)⟩;rw[H];exact y b o (by grind)
  refine ⟨D,j.trans y,M++(G++L),(N.deeps C).append ((n.stay q).append B),?_,fun b f=>?_⟩
  ·grind
  grind
theorem St.freeze {α:Type} {R:Rep α} {v:List Value} {a:α} (h:St I w0 w (Ch.own R v a::cs)): ∃J,I.le J/\R.rd J v a/\St J w0 w cs:=by
 obtain ⟨e,i,F,⟨G,K,rfl,g,j⟩,k,l⟩:=h;have ⟨n,f,m⟩:=List.nodup_append.1 k;refine ⟨fun b=>if b∈G then w.heap[b]? else I b,fun b o c=>?_,R.own_rd g (fun b o c=>?_) fun b c=>if_pos c,e,fun b o c=>?_,K,j.mono fun b o c=>?_,f,fun b c=>?_⟩
 ·grind
 ·grind
 ·have d:(if b∈G then w.heap[b]? else I b)=some o:=c;split at d
  ·exact d
  ·exact i b o d
 ·grind
 grind
theorem St.freeze_blk {g:Nat} {l:List Value} {E:TypeId} (h:St I w0 w (Ch.blk g l E::cs)): ∃J,I.le J/\J g=some (.cells l.toArray E (0,0))/\St J w0 w cs:=by
 obtain ⟨d,i,F,⟨G,K,rfl,⟨rfl,f⟩,j⟩,k,m⟩:=h;have ⟨p,e,n⟩:=List.nodup_append.1 k;refine ⟨fun b=>if b ∈ [g] then w.heap[b]? else I b,fun b o c=>?_,(if_pos (by simp)).trans f,d,fun b o c=>?_,K,j.mono fun b o c=>?_,e,fun b c=>?_⟩
 ·grind
 ·have a:(if b ∈ [g] then w.heap[b]? else I b)=some o:=c;split at a
  ·exact a
  ·exact i b o a
 ·grind
 grind
theorem St.heap (h:St I w0 w cs) {g:Nat} {l:List Value} {E:TypeId} (i:Nat) (hi:cs[i]? =some (Ch.blk g l E)):w.heap[g]? =some (.cells l.toArray E (0,0)):=by
 have ⟨b,_,F,⟨G,K,c,a,d⟩,f,e⟩:=h.front i hi;exact a.2
theorem St.alloc (h:St I w0 w cs) (l:List Value) (E:TypeId):St I w0 (w.alloc (.cells l.toArray E)) (Ch.blk w.heap.size l E::cs):=by
 refine St.step (w:=w) (c:=[]) (c':=[Ch.blk w.heap.size l E]) (w':=w.alloc (.cells l.toArray E)) h rfl rfl rfl (by simp) ?_;rintro F rfl - -;refine ⟨fun b a _=>?_,[w.heap.size],⟨[w.heap.size],[],rfl,⟨rfl,heap_alloc_new w _⟩,rfl⟩,by simp,by simp⟩;show (w.heap.push _)[b]? =_;grind
theorem gH {w:World} {g o:Nat} {v:Value} {cur:Array Value} {E:TypeId} {a:Nat×Nat} (h:w.heap[g]? =some (.cells cur E a)):(w.setCell ⟨g,o,none⟩ v).heap[g]? =some (.cells (cur.setIfInBounds o v) E a):=by
 simp[World.setCell,Array.getElem?_modify,h]
theorem St.set {g:Nat} {l:List Value} {E:TypeId} (h:St I w0 w (Ch.blk g l E::cs)) (j:Nat) (v:Value):St I w0 (w.setCell ⟨g,j,none⟩ v) (Ch.blk g (l.set j v) E::cs):=by
 refine St.step (c:=[Ch.blk g l E]) (c':=[Ch.blk g (l.set j v) E]) (w':=w.setCell ⟨g,j,none⟩ v) h rfl rfl rfl (by simp) ?_;rintro F ⟨G,K,rfl,⟨rfl,a⟩,rfl⟩ - -;refine ⟨fun b e d=>Below.heap_setCell _ _ _ _ (by grind),[g],⟨[g],[],rfl,⟨rfl,?_⟩,rfl⟩,by simp,by simp⟩;rw[gH a];simp
end
def evL (L:List (Nat×Value)):Operand->Value
 | .tmp t=>(L.lookup t).getD undef
 | .const v=>v
 | .global g=>.pointer (some ⟨g,0,none⟩)
 | .func f=>.func (.func f) #[] #[]
def SO (L:List (Nat×Value)):Operand->Bool
 | .tmp t=>(L.lookup t).isSome
 | _=>true
def Iz (L:List (Nat×Value)) (o:Oper):Bool:=o.op.operands.toList.all (SO L)
def Agr (n:Nat) (a:Act) (L:List (Nat×Value)):Prop:=a.defers= [] /\a.tmps.size=n/\ ∀t v,L.lookup t=some v->a.tmps.getD t undef=v
def Xa (d:Option Tmp) (v:Value) (L:List (Nat×Value)):List (Nat×Value):=
 match d with
 | some d=>(d,v)::L
 | none=>L
def dstOk (n:Nat):Option Tmp->Bool
 | some d=>decide (d<n)
 | none=>true
section
variable {n:Nat} {a:Act} {L L':List (Nat×Value)}
theorem Agr.eval (h:Agr n a L) {x:Operand} (b:SO L x=true):a.eval x=evL L x:=by
 cases x with
 | tmp t =>
  have ⟨v,hv⟩:=Option.isSome_iff_exists.1 b;simp only[Act.eval,evL,hv];exact h.2.2 t v hv
 | _=>rfl
theorem y7 {l:Array Value} {d:Nat} {v x:Value} (h:d<l.size):(l.setIfInBounds d v).getD d x=v:=by
 simp_all
theorem getD_set_ne {l:Array Value} {d t:Nat} {v x:Value} (h:d≠t):(l.setIfInBounds d v).getD t x=l.getD t x:=by
 simp_all
theorem Agr.put (h:Agr n a L) {d:Option Tmp} (v:Value) (c:dstOk n d=true):Agr n (a.put d v) (Xa d v L):=by
 cases d with
 | none=>exact h
 | some d =>
  have c:d<n:=by simpa [dstOk] using c
  refine ⟨h.1,by simp[Act.put,h.2.1],fun t u b=>?_⟩;simp[Xa,List.lookup_cons] at b;by_cases e:t=d
  ·subst e;simp at b;subst b;exact y7 (by rw[h.2.1];exact c)
  ·have:(t==d)=false:=by simpa using e
   rw[this] at b;show (a.tmps.setIfInBounds d v).getD t undef=u;rw[getD_set_ne (fun f=>e f.symm)];exact h.2.2 t u b
theorem Agr.sub (h:Agr n a L) (hs: ∀t v,L'.lookup t=some v->L.lookup t=some v):Agr n a L':=⟨h.1,h.2.1,fun t v hv=>h.2.2 t v (hs t v hv)⟩
theorem Agr.pick (h:Agr n a L) (L':List (Nat×Value)) (hs: ∀p∈L',L.lookup p.1=some p.2):Agr n a L':=by
 refine h.sub fun t v hv=>?_
 have: ∀(M:List (Nat×Value)),(∀p∈M,L.lookup p.1=some p.2)->M.lookup t=some v->L.lookup t=some v:=by
  intro M;induction M with
  | nil=>grind
  | cons p M ih =>
   grind
 grind
theorem Agr.start {args:Array Value} {m:Nat} (L:List (Nat×Value)) (e:args.size+m=n) (hs: ∀p∈L,args[p.1]? =some p.2):Agr n { tmps:=args++Array.replicate m undef,defers:=[] } L:=by
 have d:Agr n { tmps:=args++Array.replicate m undef,defers:=[] } (args.toList.zipIdx.map fun p=>(p.2,p.1)):=by
  refine ⟨rfl,by grind,fun t v hv=>?_⟩;have key: ∀(l:List Value) (k:Nat),((l.zipIdx k).map fun p=>(p.2,p.1)).lookup t=some v->k<=t/\l[t - k]? =some v:=by
   intro l;induction l with
   | nil=>grind
   | cons x l ih =>
    grind[List.zipIdx_cons]
  obtain ⟨-,c⟩:=key _ 0 hv;rw[Nat.sub_zero,Array.getElem?_toList] at c;have b:=(Array.getElem?_eq_some_iff.1 c).1;rw[Array.getD_eq_getD_getElem?,Array.getElem?_append_left b,c];rfl
 refine d.pick L fun p hp=>?_;have key: ∀(l:List Value) (k:Nat),k<=p.1->l[p.1 - k]? =some p.2->((l.zipIdx k).map fun p=>(p.2,p.1)).lookup p.1=some p.2:=by
  intro l;induction l with
  | nil=>grind
  | cons x l ih =>
   grind[List.zipIdx_cons]
 grind
end
def Upon (P:Program) (ok:Value->World->Prop):Result Next->Prop
 | .ok (.value v) w'=>ok v w'
 | .ok .skip w'=>ok undef w'
 | .ok (.enter f args) w'=>Calls P f args w' fun e w''=> ∃v,e= .returned v/\ok v w''
 | _=>False
def OpT (P:Program) (I:Hp) (w0:World) (o:Oper) (ev:Operand->Value) (rn:List Ch) (fact:Value->Prop) (gv:Value->List Ch):Prop:=
 ∀w C,St I w0 w (rn++C)->Upon P (fun v w'=>fact v/\St I w0 w' (gv v++C)) ((execOp ev o).run P w)
theorem Upon.wp {P:Program} {o:Oper} {a:Act} {w:World} {ok:Value->World->Prop} {K:Act->World->Prop} {Q:Exit->Act->World->Prop} (b:Upon P ok ((execOp a.eval o).run P w)) (d: ∀v c,ok v c->K (a.put o.dst v) c):o.wp P a w K Q:=by
 unfold Oper.wp;generalize (execOp a.eval o).run P w=r at b;cases r with
 | halt h c=>exact b.elim
 | ok x c =>
  cases x <;> first | exact b.elim | exact d _ _ b | skip
  refine Calls.mono b ?_;grind
def noSelect (o:Oper):Bool:=match o.op with | .select .. =>false | _=>true
theorem tj {ρ ρ':Operand->Value} {o:Oper} (hs:noSelect o=true) (h: ∀x∈o.op.operands,ρ x=ρ' x):execOp ρ o=execOp ρ' o:=
 execOp_congr o (fun a b e=>by grind[noSelect]) h
section
variable {P:Program} {I:Hp} {w0 w:World} {n:Nat} {a:Act} {L:List (Nat×Value)} {C0 C rn:List Ch} {ops:Array Oper} {Q:Exit->Act->World->Prop} {o:Oper} {rest:List Oper}
theorem aeF {fact:Value->Prop} {gv:Value->List Ch} (f:Agr n a L) (hs:St I w0 w C0) (m:o.guard=none) (d:OpT P I w0 o (evL L) rn fact gv) (hp:C0.Perm (rn++C)) (g:(Iz L o&&dstOk n o.dst&&noSelect o)=true)
  (k: ∀v a w,fact v->Agr n a (Xa o.dst v L)->St I w0 w (gv v++C)->wpList P ops Q rest a w):wpList P ops Q (o::rest) a w:=by
 simp[al] at g;have ⟨⟨e,c⟩,b⟩:=g;refine wpList_plain m fun K i=>?_;have j:=tj b fun x p=>f.eval ((List.all_eq_true.1 e) x (by grind));have h:=d w C (hs.perm hp);rw[<-j] at h;exact h.wp fun v l hv=>i _ _ (k v _ l hv.1 (f.put v c) hv.2)
end
structure OpRec where
 reads:List Nat
 needs:List Nat
 gives:List Nat
 deps:List Nat
 fact:List Value->Prop
 src:List (Nat×Option Nat)
structure ResRec where
 deps:List Nat
 ch:List Value->Ch
structure Plan where
 ops:List OpRec
 res:List ResRec
 base:List Nat
 pre:List (List Nat)
 fin:List (Nat×Option Nat)
 left:List Nat
def upd (vs:Nat->Value) (i:Nat) (v:Value):Nat->Value:=fun j=>if j=i then v else vs j
theorem ix {vs:Nat->Value} {i:Nat} {v:Value} :upd vs i v i=v:=by simp[upd]
theorem Pg {vs:Nat->Value} {i j:Nat} {v:Value} (h:j≠i):upd vs i v j=vs j:=by simp[upd,h]
namespace Plan
def op (p:Plan) (i:Nat):OpRec:=p.ops.getD i ⟨[],[],[],[],fun _=>True,[]⟩
def chunk (p:Plan) (r:Nat) (vs:Nat->Value):Ch:=
 match p.res[r]? with
 | some x=>x.ch (x.deps.map vs)
 | none=>Ch.fr (fun _=>none) []
def fact (p:Plan) (i:Nat) (vs:Nat->Value):Prop:=(p.op i).fact ((p.op i).deps.map vs)
end Plan
def edgesOf (o:Oper):List Nat:=(o.after.toList.filter (Region.binds .any)).map (·.on)
def slotsOf (ops:Array Oper) (o:Oper):List Nat:=o.looksAt ops
def Q1 (o:Oper) (vs:Nat->Value):Option Bool:=
 match o.guard with
 | none=>some true
 | some (g,want)=>match vs g with
  | .bool b=>some (b==want)
  | _=>some false
section
variable {p:Plan} {C:List Ch} {P:Program} {I:Hp} {w0:World} {n:Nat} {L:List (Nat×Value)} {ops:List Oper} {S:Nat->Bool} {vs:Nat->Value} {a:Act} {w:World} {i:Nat} {o:Oper}
theorem mem_ready {ops:Array Oper} {listed:Array Bool} {i:Nat} :i∈Region.ready .any ops listed↔i<ops.size/\listed.getD i true=false/\ ∀o,ops[i]? =some o-> ∀j,j∈edgesOf o->listed.getD j false=true:=by
 unfold Region.ready;rw[List.mem_filter,List.mem_range];constructor
 ·grind[Array.all_eq_true',edgesOf]
 ·rintro ⟨b,f,d⟩;refine ⟨b,?_⟩;simp only[al,Bool.not_eq_true'];refine ⟨f,?_⟩;have c:=Array.getElem?_eq_getElem b;rw[c];simp only[Option.map_some,Option.getD_some,Array.all_eq_true',Bool.or_eq_true,Bool.not_eq_true'];intro e g;cases h:Region.binds .any e with
  | false=>grind
  | true =>
   refine .inr (d _ c _ ?_);grind[edgesOf]
def leftOf (m:Nat) (listed:Array Bool):Nat:=((List.range m).filter fun i=> !listed.getD i false).length
end
end D
namespace D
open Go.RowKit
def aeG:TypeDesc->Bool
 | .struct _ | .array _ _=>true
 | _=>false
def TI (P:Program) (T:TypeId) (agg:Bool) (n:Nat):Prop:=(∃d,P.underlying T=some d/\aeG d=agg)/\(P.info? T).map (·.size)=some n
def TZ (P:Program) (T:TypeId) (z:Value) (n bytes:Nat):Prop:=(P.info? T).map (fun i=>(i.zero,i.size,i.bytes))=some (some z,n,bytes)
def TF (P:Program) (T:TypeId) (f off n:Nat):Prop:= ∃fs fd,P.underlying T=some (.struct fs)/\fs[f]? =some fd/\fd.offset=off/\(P.info? fd.type).map (·.size)=some (n+1)
section
variable {P:Program}
theorem TI.run_agg {T:TypeId} {agg:Bool} {n:Nat} (h:TI P T agg n) (w:World):(isAgg T).run P w= .ok agg w:=by
 obtain ⟨⟨d,a,rfl⟩,-⟩:=h;unfold isAgg;rw[Sem.run_bind,run_underlying a w];cases d <;> rfl
theorem TI.run_size {T:TypeId} {agg:Bool} {n:Nat} (h:TI P T agg n) (w:World):(sizeOf T).run P w= .ok n w:=by
 obtain ⟨-,h⟩:=h;cases a:P.info? T with
 | none=>grind
 | some i =>
  simp_all[sizeOf,typeInfo]
theorem TZ.run_zero {T:TypeId} {z:Value} {n b:Nat} (h:TZ P T z n b) (w:World):(zeroValue T).run P w= .ok z w:=by
 have ⟨i,c,a,e,d⟩:=info_parts h;simp[zeroValue,typeInfo,c,a]
variable {I:Hp} {w0:World} {o:Oper} {ev:Operand->Value}
theorem bt {v:Value} (h: ∀w,(execOp ev o).run P w= .ok (.value v) w):OpT P I w0 o ev [] (· =v) (fun _=>[]):=by
 intro w C a;rw[h];exact ⟨rfl,a⟩
theorem Xj {x:Operand} {v:Value} (a:o.op= .move x) (hv:ev x=v):OpT P I w0 o ev [] (· =v) (fun _=>[]):=
 bt fun w=>by simp_all[execOp]
theorem Q2 {x:Operand} {v:Value} (a:o.op= .assign x) (hv:ev x=v):OpT P I w0 o ev [] (· =v) (fun _=>[]):=
 bt fun w=>by simp_all[execOp]
theorem Ph {c x y:Operand} {b:Bool} {v:Value} (a:o.op= .pick c x y) (d:ev c= .bool b) (hv:(if b then ev x else ev y)=v):OpT P I w0 o ev [] (· =v) (fun _=>[]):=
 bt fun w=>by simp_all[execOp,asBool]
theorem DA {x:Operand} {vs:Array Value} {i:Nat} {v:Value} (a:o.op= .extract x i) (b:ev x= .tuple vs) (hv:vs[i]? =some v):OpT P I w0 o ev [] (· =v) (fun _=>[]):=
 bt fun w=>by simp_all[execOp,Instr.extract,Result.andThen]
theorem SP {x:Operand} {t:TypeId} {b:Bool} (a:o.op= .unOp .not t x) (c:ev x= .bool b):OpT P I w0 o ev [] (· = .bool (!b)) (fun _=>[]):=
 bt fun w=>by simp[execOp,a,c];rfl
theorem abH {x:Operand} {t:TypeId} {n:Int} (a:o.op= .unOp .neg t x) (b:ev x= .int .i64 n):OpT P I w0 o ev [] (· = .int .i64 (i64.wrap (-n))) (fun _=>[]):=
 bt fun w=>by simp[execOp,a,b,Op.unary,Op.intArith,Result.andThen]
def aeH:BinOp->Bool
 | .eql | .neq | .lss | .leq | .gtr | .geq=>true
 | _=>false
def cmpI:BinOp->Int->Int->Bool
 | .eql,a,b=>a==b
 | .neq,a,b=>a !=b
 | .lss,a,b=>decide (a<b)
 | .leq,a,b=>decide (a<=b)
 | .gtr,a,b=>decide (a>b)
 | _,a,b=>decide (a≥b)
theorem yg {x y:Operand} {b:BinOp} {t u:TypeId} {k:IntKind} {m n:Int} {c:Bool} (d:o.op= .binOp b t x y u) (e:ev x= .int k m) (f:ev y= .int k n) (a:aeH b=true) (g:cmpI b m n=c):OpT P I w0 o ev [] (· = .bool c) (fun _=>[]):=
 bt fun w=>by
  subst g;simp[execOp,d,e,f];cases b <;> first | exact absurd a (by decide) | (cases k <;> rfl)
theorem abI {x y:Operand} {t u:TypeId} {m n:Int} (a:o.op= .binOp .add t x y u) (b:ev x= .int .i64 m) (c:ev y= .int .i64 n):OpT P I w0 o ev [] (· = .int .i64 (i64.wrap (m+n))) (fun _=>[]):=
 bt fun w=>by simp[execOp,a,b,c];rfl
theorem abJ {x y:Operand} {t u:TypeId} {m n:Int} (a:o.op= .binOp .sub t x y u) (b:ev x= .int .i64 m) (c:ev y= .int .i64 n):OpT P I w0 o ev [] (· = .int .i64 (i64.wrap (m - n))) (fun _=>[]):=
 bt fun w=>by simp[execOp,a,b,c];rfl
theorem abK {x y:Operand} {t u:TypeId} {m n:Int} (a:o.op= .binOp .mul t x y u) (b:ev x= .int .i64 m) (c:ev y= .int .i64 n):OpT P I w0 o ev [] (· = .int .i64 (i64.wrap (m*n))) (fun _=>[]):=
 bt fun w=>by simp[execOp,a,b,c];rfl
def Hr (m n:Int):Int:=i64.wrap (m.tdiv n)
theorem abL {x y:Operand} {t u:TypeId} {m n:Int} (a:o.op= .binOp .quo t x y u) (b:ev x= .int .i64 m) (c:ev y= .int .i64 n) (d:n≠0):OpT P I w0 o ev [] (· = .int .i64 (Hr m n)) (fun _=>[]):=
 bt fun w=>by simp_all[execOp,eqGuard,binOp,Op.intDiv,Result.andThen,Hr]
theorem abM {x y:Operand} {t u:TypeId} {m n:Int} (a:o.op= .binOp .rem t x y u) (b:ev x= .int .i64 m) (c:ev y= .int .i64 n) (d:n≠0):OpT P I w0 o ev [] (· = .int .i64 (m.tmod n)) (fun _=>[]):=
 bt fun w=>by simp_all[execOp,eqGuard,binOp,Op.intDiv,Result.andThen]
def AP (m n:Int):Int:=i64.wrap (m*2 ^ (min n.toNat 64))
def rq (m n:Int):Int:=m.fdiv (2 ^ (min n.toNat 64))
theorem abN {x y:Operand} {t u:TypeId} {m n:Int} (a:o.op= .binOp .shl t x y u) (b:ev x= .int .i64 m) (c:ev y= .int .i64 n) (d:0<=n):OpT P I w0 o ev [] (· = .int .i64 (AP m n)) (fun _=>[]):=
 bt fun w=>by simp[execOp,a,b,c,eqGuard,binOp,Op.shift,show¬n<0 from by omega,Result.andThen,AP,IntKind.bits]
theorem abO {x y:Operand} {t u:TypeId} {m n:Int} (a:o.op= .binOp .shr t x y u) (b:ev x= .int .i64 m) (c:ev y= .int .i64 n) (d:0<=n):OpT P I w0 o ev [] (· = .int .i64 (rq m n)) (fun _=>[]):=
 bt fun w=>by simp[execOp,a,b,c,eqGuard,binOp,Op.shift,show¬n<0 from by omega,Result.andThen,rq,IntKind.bits]
def wE (m n:Int):Int:=i64.wrap ((BitVec.ofInt 64 m &&& BitVec.ofInt 64 n).toNat:Nat)
def orI (m n:Int):Int:=i64.wrap ((BitVec.ofInt 64 m ||| BitVec.ofInt 64 n).toNat:Nat)
def aih (m n:Int):Int:=i64.wrap ((BitVec.ofInt 64 m ^^^ BitVec.ofInt 64 n).toNat:Nat)
theorem abP {x y:Operand} {t u:TypeId} {m n:Int} (a:o.op= .binOp .and t x y u) (b:ev x= .int .i64 m) (c:ev y= .int .i64 n):OpT P I w0 o ev [] (· = .int .i64 (wE m n)) (fun _=>[]):=
 bt fun w=>by simp[execOp,a,b,c];rfl
theorem aeI {x y:Operand} {t u:TypeId} {m n:Int} (a:o.op= .binOp .or t x y u) (b:ev x= .int .i64 m) (c:ev y= .int .i64 n):OpT P I w0 o ev [] (· = .int .i64 (orI m n)) (fun _=>[]):=
 bt fun w=>by simp[execOp,a,b,c];rfl
theorem abQ {x y:Operand} {t u:TypeId} {m n:Int} (a:o.op= .binOp .xor t x y u) (b:ev x= .int .i64 m) (c:ev y= .int .i64 n):OpT P I w0 o ev [] (· = .int .i64 (aih m n)) (fun _=>[]):=
 bt fun w=>by simp[execOp,a,b,c];rfl
theorem DB {t:TypeId} {b c:Bool} (a:P.underlying t=some .bool) (w:World):(Op.equal t (.bool b) (.bool c)).run P w= .ok (b==c) w:=by
 unfold Op.equal Op.maxDepth;rw[Op.equalIn,Sem.run_bind,run_underlying a];rfl
theorem abR {x y:Operand} {t u:TypeId} {b c:Bool} (h:P.underlying t=some .bool) (e:o.op= .binOp .eql t x y u) (f:ev x= .bool b) (g:ev y= .bool c):OpT P I w0 o ev [] (· = .bool (b==c)) (fun _=>[]):=
 bt fun w=>by
  have a:eqGuard .eql t x y (.bool b) (.bool c)=pure ():=rfl;have d:binOp .eql t (.bool b) (.bool c)=(do pure (.bool (<-Op.equal t (.bool b) (.bool c)))):=rfl;simp_all[execOp,Sem.run_bind,Sem.run_pure,DB,Result.andThen_ok]
theorem abS {x y:Operand} {t u:TypeId} {b c:Bool} (h:P.underlying t=some .bool) (e:o.op= .binOp .neq t x y u) (f:ev x= .bool b) (g:ev y= .bool c):OpT P I w0 o ev [] (· = .bool (b !=c)) (fun _=>[]):=
 bt fun w=>by
  have a:eqGuard .neq t x y (.bool b) (.bool c)=pure ():=rfl;have d:binOp .neq t (.bool b) (.bool c)=(do pure (.bool (!(<-Op.equal t (.bool b) (.bool c))))):=rfl;simp only[execOp,e,f,g,a,d,Sem.run_bind,Sem.run_pure,DB h,Result.andThen_ok];rfl
theorem oo {x:Operand} {T:TypeId} {f g off b n:Nat} (e:TF P T f off n) (j:o.op= .fieldAddr T x f) (l:ev x= .pointer (some ⟨g,b,none⟩)):OpT P I w0 o ev [] (· = .pointer (some ⟨g,b+off,none⟩)) (fun _=>[]):=by
 have ⟨fs,k,d,p,h,c⟩:=e;refine bt fun w=>?_;cases a:P.info? k.type with
 | none=>grind
 | some i =>
  have m:i.size=n+1:=by simpa [a] using c
  simp[execOp,j,l,Instr.fieldAt,Instr.sureAddr,run_underlying d,p,fieldPlace,sizeOf,typeInfo,a,m,h,Result.andThen,Addr.add_mid]
theorem y8 {x:Operand} {T:TypeId} {E:TypeId} {a:Option Addr} {n c:Nat} (e:P.underlying T=some (.slice E)) (b:o.op= .call { callee:=.builtin .len,args:= #[x],argTypes:= #[T] }) (d:ev x= .slice a n c):OpT P I w0 o ev [] (· = .int .i64 n) (fun _=>[]):=
 bt fun w=>by simp[execOp,b,d,resolve,invoke,builtin,Builtin.len_,run_underlying e,Result.andThen,goInt]
theorem Nc {x:Operand} {T:TypeId} {s:ByteArray} (c:P.underlying T=some .string) (a:o.op= .call { callee:=.builtin .len,args:= #[x],argTypes:= #[T] }) (b:ev x= .string s):OpT P I w0 o ev [] (· = .int .i64 s.size) (fun _=>[]):=
 bt fun w=>by simp[execOp,a,b,resolve,invoke,builtin,Builtin.len_,run_underlying c,Result.andThen,goInt]
theorem IA {f:Fn} {first captured:Array Operand} {v:Value} (b:o.op= .makeFunc f first captured) (hv:Value.func f (first.toList.map ev).toArray (captured.toList.map ev).toArray=v):OpT P I w0 o ev [] (· =v) (fun _=>[]):=
 bt fun w=>by
  have a:first.map ev=(first.toList.map ev).toArray:=by grind
  have c:captured.map ev=(captured.toList.map ev).toArray:=by grind
  simp[execOp,b,<-hv,a,c];rfl
end
section
variable {P:Program} {I:Hp} {w0 w w':World} {cs:List Ch}
theorem Upon.imp {ok a:Value->World->Prop} {r:Result Next} (h:Upon P ok r) (k: ∀v w,ok v w->a v w):Upon P a r:=by
 cases r with
 | halt x w=>exact h
 | ok x w =>
  cases x <;> first | exact h | exact k _ _ h | skip
  exact Calls.mono h fun e w' ⟨v,b,c⟩=>⟨v,b,k _ _ c⟩
def bk:Value->Nat
 | .pointer (some a)=>a.block
 | _=>0
def ag3 (v:Value):Prop:= ∃g,v= .pointer (some ⟨g,0,none⟩)
variable {o:Oper} {ev:Operand->Value}
theorem KQ {T:TypeId} {z:Value} {n b:Nat} {l:List Value} (d:TZ P T z n b) (c:z.cells=l.toArray) (f:o.op= .alloc T):OpT P I w0 o ev [] ag3 (fun v=>[Ch.blk (bk v) l T]):=by
 intro w C a;have e:(execOp ev o).run P w= .ok (.value (.pointer (some ⟨w.heap.size,0,none⟩))) (w.alloc (.cells l.toArray T)):=by
  simp[execOp,f,Instr.alloc,Sem.run_bind,d.run_zero,Result.andThen_ok];simp[newVar,newRow,c,Result.andThen]
 rw[e];exact ⟨⟨_,rfl⟩,a.alloc l T⟩
theorem abT {T:TypeId} {x:Operand} {u:Value} {l:List Value} (c:ev x=u) (b:u.cells=l.toArray) (e:o.op= .box T x):OpT P I w0 o ev [] ag3 (fun v=>[Ch.blk (bk v) l T]):=by
 intro w C a;have d:(execOp ev o).run P w= .ok (.value (.pointer (some ⟨w.heap.size,0,none⟩))) (w.alloc (.cells l.toArray T)):=by
  simp[execOp,e,Instr.box,c,Sem.run_bind];simp[newVar,newRow,b,Result.andThen]
 rw[d];exact ⟨⟨_,rfl⟩,a.alloc l T⟩
def Lds (agg:Bool) (d:List Value) (u:Value):Prop:=if agg then u= .agg d.toArray else d= [u]
theorem SQ {T:TypeId} {agg:Bool} {n b off:Nat} {d:List Value} (c:TI P T agg n) (h:d.length=n) (f:agg=false->n=1) (e:w.rangeAt b off d): ∃u,(Instr.loadAt T (.pointer (some ⟨b,off,none⟩))).run P w= .ok u w/\Lds agg d u:=by
 cases agg with
 | true =>
  have ⟨⟨t,g,i⟩,j⟩:=c;exact ⟨_,run_loadAt_mid w b off T d t e g (by cases t <;> first | rfl | cases i) (by grind),rfl⟩
 | false =>
  obtain ⟨u,rfl⟩:=List.length_eq_one_iff.1 (h.trans (f rfl));refine ⟨u,?_,rfl⟩;have a:=e 0 u rfl;rw[Nat.add_zero] at a;simp[Instr.loadAt,Instr.sureAddr,loadVar,Sem.run_bind,c.run_agg,load,Sem.run,a,Result.andThen]
theorem IB {T:TypeId} {x:Operand} {agg:Bool} {n b off:Nat} {d:List Value} {rn:List Ch} (j:TI P T agg n) (f:o.op= .load T x) (i:ev x= .pointer (some ⟨b,off,none⟩)) (c:d.length=n) (h:agg=false->n=1) (g: ∀w C,St I w0 w (rn++C)->w.rangeAt b off d):OpT P I w0 o ev rn (Lds agg d) (fun _=>rn):=by
 intro w C a;have ⟨u,k,e⟩:=SQ j c h (g w C a);simp[execOp,f,i,Sem.run_bind,k,Result.andThen_ok];exact ⟨e,a⟩
theorem SR {g off:Nat} {l d:List Value} {E:TypeId} {C:List Ch} (h:St I w0 w (Ch.blk g l E::C)) (c:(l.drop off).take d.length=d):w.rangeAt g off d:=by
 intro j v b;have a:=h.heap 0 rfl;grind[World.cell?]
theorem KR {T:TypeId} {x:Operand} {agg:Bool} {n g off:Nat} {l d:List Value} {E:TypeId} {u:Value} (f:TI P T agg n) (b:o.op= .load T x) (c:ev x= .pointer (some ⟨g,off,none⟩)) (m:(agg || n==1)=true) (j:(l.drop off).take n=d) (a:d.length=n) (k:(if agg then Value.agg d.toArray else d.getD 0 undef)=u) :
  OpT P I w0 o ev [Ch.blk g l E] (· =u) (fun _=>[Ch.blk g l E]):=by
 intro w C i;refine (IB (rn:=[Ch.blk g l E]) f b c a (fun e=>by grind) (fun w C h=>SR h (by grind)) w C i).imp fun v w hv=>⟨?_,hv.2⟩
 grind[Lds]
theorem BS {T:TypeId} {x:Operand} {agg:Bool} {n g off:Nat} {l d:List Value} {E:TypeId} {b:Nat×Nat} {u:Value} (m:I g=some (.cells l.toArray E b)) (i:TI P T agg n) (c:o.op= .load T x) (f:ev x= .pointer (some ⟨g,off,none⟩)) (r:(agg || n==1)=true) (p:(l.drop off).take n=d) (a:d.length=n) (q:(if agg then Value.agg d.toArray else d.getD 0 undef)=u) :
  OpT P I w0 o ev [] (· =u) (fun _=>[]):=by
 intro w C k;refine (IB (rn:=[]) i c f a (fun e=>by grind) (fun w C h j v t=>?_) w C k).imp fun v w hv=>⟨?_,hv.2⟩
 ·have s:w.heap[g]? =some (.cells l.toArray E b):=h.2.1 g _ m;grind[World.cell?]
 grind[Lds]
def Fld {α β:Type} (R:Rep α) (off:Nat) (S:Rep β) (f:α->β):Prop:= ∀I c x,R.rd I c x-> ∃d,(c.drop off).take S.size=d/\S.rd I d (f x)
theorem Fld.self {α:Type} {R:Rep α} :Fld R 0 R (fun x=>x):=fun I c x h=>⟨c,by rw[<-R.rd_len h];simp,h⟩
theorem Fld.fst {α β γ:Type} {A:Rep α} {B:Rep β} {S:Rep γ} {off:Nat} {f:α->γ} (h:Fld A off S f):Fld (aL A B) off S (fun x=>f x.1):=by
 rintro I c x ⟨e,j,rfl,b,k⟩;have ⟨d,i,a⟩:=h I e x.1 b;have g:=S.rd_len a;grind[aB,bF,List.drop_append]
theorem Fld.snd {α β γ:Type} {A:Rep α} {B:Rep β} {S:Rep γ} {off:Nat} {f:β->γ} (h:Fld B off S f):Fld (aL A B) (A.size+off) S (fun x=>f x.2):=by
 rintro I c x ⟨j,g,rfl,a,i⟩;have ⟨d,e,b⟩:=h I g x.2 i;refine ⟨d,?_,b⟩;rw[List.drop_append,List.drop_of_length_le (by rw[A.rd_len a];omega),A.rd_len a,Nat.add_sub_cancel_left];exact e
def ptB:Value->Nat
 | .slice (some a) _ _=>a.block
 | _=>0
def ptO:Value->Nat
 | .slice (some a) _ _=>a.off
 | _=>0
def pt (v:Value) (o:Nat):Value:=.pointer (some ⟨ptB v,ptO v+o,none⟩)
def aK {α:Type} (xs:List α) (i:Int):Option α:=if 0<=i then xs[i.toNat]? else none
def inI {α:Type} (xs:List α) (i:Int):Prop:=0<=i/\i.toNat<xs.length
theorem IC {α:Type} {xs:List α} {i:Int} {x:α} (h:aK xs i=some x):inI xs i:=by
 unfold aK at h;split at h
 ·exact ⟨‹_›,(List.getElem?_eq_some_iff.1 h).1⟩
 grind
theorem yh {α:Type} {xs:List α} {i:Int} {x:α} (h:aK xs i=some x):xs[i.toNat]? =some x:=by
 grind[aK]
def Hd (v:Value) (n:Nat):Prop:= ∃ao cap,v= .slice ao n cap/\(0<n-> ∃b off,ao=some ⟨b,off,none⟩)/\n<=cap
theorem Hd.of_rd {α:Type} {E:TypeId} {R:Rep α} {v:Value} {xs:List α} (h:(ah E R).rd I [v] xs):Hd v xs.length:=by
 have ⟨b,cap,hv,a,h⟩:=h;refine ⟨b,cap,by grind,fun hp=>?_,a.2⟩;grind
theorem Hd.of_own {α:Type} {E:TypeId} {R:Rep α} {v:Value} {xs:List α} {F:List Nat} (h:(ah E R).own I w [v] xs F):Hd v xs.length:=by
 have ⟨c,h⟩:=h;rcases h with ⟨hv,rfl,rfl⟩ | ⟨g,a,cap,cur,K,hv,_,b,_⟩
 ·exact ⟨none,0,by grind,by simp,aH _⟩
 ·exact ⟨_,cap,by grind,fun _=>⟨g,a,rfl⟩,by omega⟩
theorem St.hd {α:Type} {E:TypeId} {R:Rep α} {v:Value} {xs:List α} (h:St I w0 w cs) (i:Nat) (hi:cs[i]? =some (Ch.own (ah E R) [v] xs)):Hd v xs.length/\xs.length<=lim:=by
 have ⟨b,_,F,⟨G,K,c,a,d⟩,f,e⟩:=h.front i hi;exact ⟨Hd.of_own (I:=I) (w:=w) (E:=E) (R:=R) (F:=G) a,a.1⟩
theorem Hs {x:Operand} {T E:TypeId} {v:Value} {n:Nat} (h:Hd v n) (c:P.underlying T=some (.slice E)) (a:o.op= .call { callee:=.builtin .len,args:= #[x],argTypes:= #[T] }) (b:ev x=v):OpT P I w0 o ev [] (· = .int .i64 n) (fun _=>[]):=by
 obtain ⟨d,cap,rfl,_⟩:=h;exact y8 c a b
theorem uY {α:Type} {x y:Operand} {T E:TypeId} {v:Value} {xs:List α} {i:Int} {n:Nat} {agg:Bool} (h:Hd v xs.length) (f:P.underlying T=some (.slice E)) (c:TI P E agg n) (d:o.op= .indexAddr T x y) (e:ev x=v) (a:ev y= .int .i64 i) (hi:inI xs i):OpT P I w0 o ev [] (· =pt v (i.toNat*n)) (fun _=>[]):=by
 obtain ⟨j,cap,rfl,hp,-⟩:=h;obtain ⟨b,off,rfl⟩:=hp (by have:=hi.2;omega);refine bt fun w=>?_;have g:i<(xs.length:Int):=by have:=hi.2;omega
 simp[execOp,d,e,a,Instr.indexAt,asIntOf,run_underlying f,c.run_size,hi.1,g,Result.andThen,pt,ptB,ptO,Addr.add_mid]
theorem BT {x:Operand} {T:TypeId} {f off n b:Nat} {v:Value} (a:TF P T f off n) (c:o.op= .fieldAddr T x f) (d:ev x=pt v b):OpT P I w0 o ev [] (· =pt v (b+off)) (fun _=>[]):=by
 have:=oo (I:=I) (w0:=w0) a c d
 rw[Nat.add_assoc] at this;exact this
theorem Nd {α β:Type} {E T:TypeId} {R:Rep α} {S:Rep β} {off n k:Nat} {f:α->β} {x:Operand} {v:Value} {xs:List α} {a:α} {i:Int} {agg:Bool} (G:(ah E R).rd I [v] xs) (s:aK xs i=some a) (q:Fld R off S f) (B:TI P T agg n) (H:S.size=n) (N:(agg || n==1)=true) (r:o.op= .load T x) (z:ev x=pt v (i.toNat*k+off)) (W:R.size=k) :
  OpT P I w0 o ev [] (fun u=> ∃d,S.rd I d (f a)/\Lds agg d u) (fun _=>[]):=by
 have ⟨K,cap,hv,L,h⟩:=G;have F:=yh s;rcases h with rfl | ⟨b,y,l,t,A,rfl,J,g⟩
 ·grind
 have ⟨c,O,M,p⟩:=g i.toNat a F;have ⟨d,Q,m⟩:=q I c a p;intro w C D;refine (IB (rn:=[]) B r z ((S.rd_len m).trans H) (fun e=>by grind) (fun w C h j u V=>?_) w C D).imp fun u w hv=>⟨⟨d,m,hv.1⟩,hv.2⟩
 have U:w.heap[b]? =some (.cells l t A):=h.2.1 b _ J;grind[List.getElem?_eq_some_iff,ptB,ptO,World.cell?]
def Rep.Sh {α:Type} (R:Rep α):Prop:= ∀ {I w cs a F},R.own I w cs a F->F= [] /\R.rd I cs a
theorem ID {α:Type} {enc:α->Value} {h1: ∀a,(enc a).oneCell'=true} :(nA α enc h1).Sh:=fun h=>h
theorem abU {α β:Type} {R:Rep α} {S:Rep β} (h:R.Sh) (k:S.Sh):(aL R S).Sh:=by
 rintro I w cs a F ⟨c,d,G,K,rfl,rfl,b,g⟩;have ⟨i,e⟩:=h b;have ⟨j,f⟩:=k g;exact ⟨by grind,c,d,rfl,e,f⟩
theorem aeJ {α:Type} {R:Rep α} :(CF R).Sh:=fun h=>h
theorem abV:rp.Sh:=ID
theorem aeK:Iy.Sh:=ID
theorem OwnEls.sh {α:Type} {R:Rep α} (a:R.Sh): ∀ {xs:List α} {cur F},OwnEls R I w cur xs F->F= []
 | [],_,_,h=>h
 | x::xs,cur,F,⟨c,rest,G,K,h1,h2,h3,h4,h5⟩=>by rw[h3,(a h4).1,h5.sh a];rfl
def rU (w:World) (g:Nat):Nat->List Value->World
 | _,[] =>w
 | o,v::vs=>rU (w.setCell ⟨g,o,none⟩ v) g (o+1) vs
theorem uZ {g:Nat} : ∀(vs:List Value) (w:World) (o i:Nat),(∀j,j<vs.length->(w.cell? ⟨g,o+i+j,none⟩).isSome=true)->(∀j,w.frozen? ⟨g,o+j,none⟩=false)->(∀v,v∈vs->v.oneCell'=true)->
  (storeCells ⟨g,o,none⟩ vs i).run P w= .ok () (rU w g (o+i) vs)
 | [],w,o,i,_,_,_=>by rfl
 | v::vs,w,o,i,hc,hf,h1=>by
  have e:=uZ vs (w.setCell ⟨g,o+i,none⟩ v) o (i+1) (fun j d=>by
   have:=hc (j+1) (by grind)
   rw[Option.isSome_iff_exists] at this⊢;have ⟨u,a⟩:=this;simp[World.cell?,World.setCell,Array.getElem?_modify] at a⊢;cases c:w.heap[g]? with
   | none=>grind
   | some ob=>grind) (fun j=>by
   simp_all) (fun u a=>h1 u (by grind))
  have hv:=h1 v (by simp);simp[storeCells,Sem.run_bind,Addr.add_mid,store];have b:(Sem.store .plain ⟨g,o+i,none⟩ v (.pure ())).run P w= .ok () (w.setCell ⟨g,o+i,none⟩ v):=by
   cases v <;> first | grind[Sem.run] | (simp[Value.oneCell'] at hv)
  grind[Result.andThen_ok,rU]
theorem Pi {T:TypeId} {agg:Bool} {n g o:Nat} {u:Value} {l:List Value} (c:TI P T agg n) (a:u.cells=l.toArray) (d:l.length=n) (e: ∀j,j<n->(w.cell? ⟨g,o+j,none⟩).isSome=true) (b: ∀j,w.frozen? ⟨g,o+j,none⟩=false) (h1: ∀v,v∈l->v.oneCell'=true) :
  (Instr.storeAt T (.pointer (some ⟨g,o,none⟩)) u).run P w= .ok () (rU w g o l):=by
 have:=uZ (P:=P) (g:=g) l w o 0 (by grind) b h1
 simp[Instr.storeAt,Instr.sureAddr,storeVar,Sem.run_bind,Sem.run_pure,Result.andThen_ok,c.run_size,a];grind
def spl (l:List Value):Nat->List Value->List Value
 | _,[] =>l
 | o,v::vs=>spl (l.set o v) (o+1) vs
theorem AQ: ∀(vs l:List Value) (o:Nat),(spl l o vs).length=l.length
 | [],l,o=>rfl
 | v::vs,l,o=>by rw[spl,AQ vs,List.length_set]
theorem St.sets {g:Nat} {E:TypeId} : ∀(vs l:List Value) (o:Nat) {w:World},St I w0 w (Ch.blk g l E::cs)->St I w0 (rU w g o vs) (Ch.blk g (spl l o vs) E::cs)
 | [],l,o,w,h=>h
 | v::vs,l,o,w,h=>St.sets vs (l.set o v) (o+1) (h.set o v)
theorem IE {T:TypeId} {x y:Operand} {agg:Bool} {n g off:Nat} {l d:List Value} {E:TypeId} {u:Value} (i:TI P T agg n) (f:o.op= .store T x y) (h:ev x= .pointer (some ⟨g,off,none⟩)) (b:ev y=u) (e:u.cells=d.toArray) (c:d.length=n) (h1:d.all (·.oneCell')=true) (p:off+n<=l.length) :
  OpT P I w0 o ev [Ch.blk g l E] (fun _=>True) (fun _=>[Ch.blk g (spl l off d) E]):=by
 intro w C a;have k:=a.heap 0 rfl;have m:=Pi (P:=P) (w:=w) i (g:=g) (o:=off) e c (fun j q=>by
  grind[World.cell?]) (fun j=>by simp[World.frozen?,k]) (fun v hv=>List.all_eq_true.1 h1 v hv)
 simp only[execOp,f,h,b,Sem.run_bind,m,Result.andThen_ok];exact ⟨trivial,St.sets d l off a⟩
end
section
variable {P:Program} {I:Hp} {w0 w w':World} {cs:List Ch} {o:Oper} {ev:Operand->Value} {α:Type} {R:Rep α} {E:TypeId}
theorem SS: ∀(l:List Value) (k:Nat) (cells:Array Value),k+l.length<=cells.size->((l.toArray.zipIdx).foldl (fun cs (c,j)=>cs.setIfInBounds (k+j) c) cells).toList=cells.toList.take k++l++cells.toList.drop (k+l.length):=by
 intro l k cells h;have key: ∀(l:List Value) (i:Nat) (cells:Array Value),k+i+l.length<=cells.size->((l.zipIdx i).foldl (fun cs (p:Value×Nat)=>cs.setIfInBounds (k+p.2) p.1) cells).toList=cells.toList.take (k+i)++l++cells.toList.drop (k+i+l.length):=by
  intro l;induction l with
  | nil=>simp_all
  | cons x l ih =>
   intro i cells h;rw[aM] at h;rw[List.zipIdx_cons,List.foldl_cons,ih (i+1) _ (by grind),Array.toList_setIfInBounds];have d:cells.toList.length=cells.size:=Array.length_toList;have b:(cells.toList.set (k+i) x).take (k+i+1)=cells.toList.take (k+i)++ [x]:=by
    rw[List.take_add_one,List.take_set_of_le (aH _),List.getElem?_set_self (by omega)];rfl
   have a:(cells.toList.set (k+i) x).drop (k+(i+1)+l.length)=cells.toList.drop (k+(i+1)+l.length):=List.drop_set_of_lt (by omega);rw[a,show k+(i+1)=k+i+1 from rfl,b,aM,show k+i+(l.length+1)=k+i+1+l.length from by omega];simp
 grind
theorem KS (size:Nat): ∀(us:List (Value×List Value)) (k:Nat) (cells:Array Value),(∀u∈us,u.1.cells=u.2.toArray/\u.2.length=size)->(k+us.length)*size<=cells.size->
  ∃c,Instr.fill (fun i=>some (i*size,size)) cells ((us.zipIdx k).map fun p=>(p.2,p.1.1))=some c/\c.toList=cells.toList.take (k*size)++us.flatMap (·.2)++cells.toList.drop ((k+us.length)*size)
 | [],k,cells,_,_=>⟨cells,rfl,by simp⟩
 | (u,l)::us,k,cells,h,hs=>by
  have ⟨e,m⟩:=h (u,l) (by simp);simp only at e m;have g:(k+1+us.length)*size<=cells.size:=by rw[show k+1+us.length=k+(us.length+1) from by omega];exact hs
  have d:(k+1)*size<=cells.size:=Nat.le_trans (Nat.mul_le_mul_right _ (by omega)) g;rw[Nat.add_mul,Nat.one_mul] at d;have j:=SS l (k*size) cells (by omega);have b:((l.toArray.zipIdx).foldl (fun cs (p:Value×Nat)=>cs.setIfInBounds (k*size+p.2) p.1) cells).size=cells.size:=by
   rw[<-Array.length_toList,j];simp[aF,aB,bF,Array.length_toList];omega
  obtain ⟨c,s,q⟩:=KS size us (k+1) _ (fun u e=>h u (by grind)) (by rw[b];exact g);refine ⟨c,?_,?_⟩
  ·grind[List.zipIdx_cons,Instr.fill]
  ·rw[q,j];have n:(k+1)*size=k*size+l.length:=by grind
   have f:(k+1+us.length)*size=k*size+l.length+us.length*size:=by grind
   have r:(k+(us.length+1))*size=k*size+l.length+us.length*size:=by rw[<-f];congr 1;omega
   have a:(cells.toList.take (k*size)).length=k*size:=by rw[aB,Array.length_toList];omega
   rw[n,f,aM,r,List.flatMap_cons];rw[aD,aD,aD];rw[List.take_append,a,List.take_of_length_le (by omega),Nat.add_sub_cancel_left,List.take_left];rw[List.drop_append,a,List.drop_of_length_le (by omega),List.drop_append,show k*size+l.length+us.length*size - k*size - l.length=us.length*size from by omega,List.drop_of_length_le (by omega),List.drop_drop];simp
theorem Xk {T:TypeId} (e:P.underlying T=some (.slice E)) {agg:Bool} {n:Nat} (b:TI P E agg n) (d:o.op= .buildSlice T 0 #[]):OpT P I w0 o ev [] (fun _=>True) (fun v=>[Ch.own (ah E R) [v] []]):=by
 intro w C h;have a:(execOp ev o).run P w= .ok (.value (.slice (some ⟨w.heap.size,0,none⟩) 0 0)) (w.alloc (.cells #[] E)):=by
  simp[execOp,d,Instr.buildSlice,run_underlying e,b.run_size,Instr.fill,newRow,Result.andThen];grind
 rw[a];refine ⟨trivial,?_⟩;obtain ⟨c,j,F,⟨G,K,rfl,⟨rfl,i⟩,a⟩,g,f⟩:=h.alloc [] E;exact ⟨c,j,[w.heap.size] ++K,⟨[w.heap.size],K,rfl,⟨by simp,.inr ⟨w.heap.size,0,0,#[],[],rfl,i,by simp,by simp,by simp,rfl,rfl⟩⟩,a⟩,g,f⟩
def KT (R:Rep α):List (List Value)->List α->List Ch
 | c::ls,x::xs=>Ch.own R c x::KT R ls xs
 | _,_=>[]
theorem Pj: ∀ {ls:List (List Value)} {xs:List α} {F},ls.length=xs.length->Sep I (KT R ls xs) w F->OwnEls R I w (ls.flatMap (fun l=>l)) xs F
 | [],[],F,_,h=>h
 | l::ls,x::xs,F,he,⟨G,K,h1,h2,h3⟩=>⟨l,ls.flatMap (fun l=>l),G,K,by simp,R.own_len h2,h1,h2,Pj (by grind) h3⟩
 | [],_::_,F,he,h=>by grind
 | _::_,[],F,he,h=>by grind
theorem Pm {n:Nat} : ∀us:List (Value×List Value),(∀u∈us,u.2.length=n)->(us.flatMap (·.2)).length=us.length*n
 | [],_=>by simp
 | u::us,h=>by rw[List.flatMap_cons,aF,aM,Nat.add_mul,h u (by simp),Pm us fun v hv=>h v (by grind)];omega
theorem SU {T:TypeId} {z:Value} {n b m:Nat} {parts:Array (Nat×Operand)} (us:List (Value×List Value)) (xs:List α) (A:P.underlying T=some (.slice E)) (j:TZ P E z n b) (e:0<n) (W:R.size=n) (L:0<m) (r:m*n<=16777216) (l:o.op= .buildSlice T m parts) (hp:parts.toList.map (fun p=>(p.1,ev p.2))=(us.zipIdx 0).map fun p=>(p.2,p.1.1)) (Q:us.length=m) (y:xs.length=m)
  (i: ∀u∈us,u.1.cells=u.2.toArray/\u.2.length=n):OpT P I w0 o ev (KT R (us.map (·.2)) xs) (fun _=>True) (fun v=>[Ch.own (ah E R) [v] xs]):=by
 intro w C D;have ⟨k,a,x,O,X⟩:=info_parts j;have s:((Array.range (m*n)).map (z.cells[· % z.cells.size]!)).size=m*n:=by simp
 have ⟨c,U,S⟩:=KS n us 0 ((Array.range (m*n)).map (z.cells[· % z.cells.size]!)) i (by grind);have H:=Nat.mul_pos L e;have f:(execOp ev o).run P w= .ok (.value (.slice (some ⟨w.heap.size,0,none⟩) m m)) (w.alloc (.cells c E)):=by
  simp[execOp,l,Sem.run_bind];rw[run_buildSlice w T E m _ c k z A a x (by grind) (by grind) (by simp_all)]
  rfl
 rw[f];refine ⟨trivial,?_⟩;have q:c=(us.flatMap (·.2)).toArray:=by grind
 rw[q];obtain ⟨h,N,F,⟨G,K,rfl,⟨rfl,J⟩,f⟩,V,B⟩:=D.alloc (us.flatMap (·.2)) E;obtain ⟨d,g,rfl,M,t⟩:=f.split;refine ⟨h,N,(w.heap.size::d)++g,⟨w.heap.size::d,g,rfl,⟨by unfold lim;have:m<=m*n:=Nat.le_mul_of_pos_right _ e;omega,.inr ⟨w.heap.size,0,m,_,d,by rw[y],J,by omega,?_,?_,rfl,?_⟩⟩,t⟩,by grind,fun b h=>B b (by grind)⟩
 ·unfold maxLen;have:m<=m*n:=Nat.le_mul_of_pos_right _ e;omega
 ·grind[Pm]
 ·have:=Pj (R:=R) (I:=I) (w:=w.alloc (.cells (us.flatMap (·.2)).toArray E)) (ls:=us.map (·.2)) (xs:=xs) (by grind) M
  grind[List.flatMap_map]
theorem eW {t ty e:TypeId} {i:TypeInfo} (b:P.underlying t=some (.slice e)) (hi:P.info? e=some i) {ao:Option Addr} {n c:Nat} (g:n<=c) {a:Option Addr} {d:Nat} :(Builtin.append_ #[t,t] ty #[.slice ao n c,.slice a 0 d]).run P w= .ok (.slice ao n c) w:=by
 have f:(Builtin.firstCells i.size 0 (.slice a 0 d)).run P w= .ok #[] w:=by
  cases a <;> simp[Builtin.firstCells,loadCells,loadCellsFrom]
 simp[Builtin.append_,run_underlying b,sizeOf,typeInfo,hi,Builtin.lenOf,f,g,Result.andThen];cases ao <;> simp[storeCells]
theorem aeL {a:Array Value} {off:Nat} : ∀ {xs:List α},(∀i x,xs[i]? =some x-> ∃c:List Value,c.length=R.size/\(∀j,j<R.size->a.toList[off+i*R.size+j]? =c[j]?)/\R.rd I c x)->
  ∃news:List Value,news.length=xs.length*R.size/\(∀j u,news[j]? =some u->a.toList[off+j]? =some u)/\(∀u∈news,u.oneCell'=true)/\OwnEls (CF R) I w news xs []:=by
 intro xs;induction xs generalizing off with
 | nil=>intro _;exact ⟨[],by simp,by simp,by simp,rfl⟩
 | cons x xs ih =>
  intro h;have ⟨c,d,g,b⟩:=h 0 x rfl;have ⟨news,n,m,l,e⟩:=ih (off:=off+R.size) fun i y k=>by
   have ⟨c,d,g,b⟩:=h (i+1) y (by grind);grind
  refine ⟨c++news,by grind,fun j u p=>?_,fun u f=>?_,⟨c,news,[],[],rfl,d,rfl,⟨rfl,b⟩,e⟩⟩
  ·grind
  ·rcases aN f with h | h
   ·exact R.rd_one b u h
   grind
def OffRow (w:World) (E:TypeId) (n:Nat) (v:Value) (len:Nat) (cells:List Value):Prop:=cells.length=len*n/\((v= .slice none 0 0/\len=0)\/ ∃g ofs cap cur,v= .slice (some ⟨g,ofs,none⟩) len cap/\w.heap[g]? =some (.cells cur E (0,0))/\len<=cap/\cap<=maxLen/\ofs+cap*n<=cur.size/\(cur.toList.drop ofs).take (len*n)=cells)
theorem OffRow.of_owns {b n len:Nat} {v:Value} {cells:List Value} (h:w.ownsRow b E n v len cells):OffRow w E n v len cells:=
 ⟨h.1,h.2.imp (fun h=>h) fun ⟨g,cap,cur,e,_,a,d,f,i,c⟩=>⟨g,0,cap,cur,e,a,d,f,by omega,c⟩⟩
theorem rV (g:Nat): ∀(d:List Value) (o:Nat) (w:World),(w.setCells g o d).os=w.os/\(w.setCells g o d).tape=w.tape/\(w.setCells g o d).output=w.output/\(w.setCells g o d).heap.size=w.heap.size/\ ∀b,b≠g->(w.setCells g o d).heap[b]? =w.heap[b]?
 | [],_,_=>⟨rfl,rfl,rfl,rfl,fun _ _=>rfl⟩
 | v::d,o,w=>by
  have ⟨f,i,e,h,c⟩:=rV g d (o+1) (w.setCell ⟨g,o,none⟩ v);exact ⟨f,i,e,h.trans (by simp_all),fun b a=>(c b a).trans (Below.heap_setCell _ _ _ _ a)⟩
theorem vc {g:Nat} {a:Nat×Nat} : ∀(d:List Value) (o:Nat) (w:World) (cur:Array Value),o+d.length<=cur.size->w.heap[g]? =some (.cells cur E a)->(w.setCells g o d).heap[g]? =some (.cells (cur.toList.take o++d++cur.toList.drop (o+d.length)).toArray E a)
 | [],o,w,cur,_,h=>by simpa [World.setCells] using h
 | v::d,o,w,cur,hs,h=>by
  rw[aM] at hs
  have:=vc d (o+1) (w.setCell ⟨g,o,none⟩ v) (cur.setIfInBounds o v) (by grind) (gH h)
  rw[World.setCells,this,Array.toList_setIfInBounds];have b:cur.toList.length=cur.size:=Array.length_toList;have c:(cur.toList.set o v).take (o+1)=cur.toList.take o++ [v]:=by
   rw[List.take_add_one,List.take_set_of_le (aH _),List.getElem?_set_self (by omega)];rfl
  grind[List.drop_set_of_lt,aM]
theorem Gr {t ty:TypeId} {z:Value} {n b:Nat} {i:TypeInfo} (K:P.underlying t=some (.slice E)) (hi:P.info? E=some i) (T:i.zero=some z) (f:i.size=n) (D:i.bytes=b) (y:z.cells.size=n) (S:0<n)
  {v:Value} {len:Nat} {cells:List Value} (B:OffRow w E n v len cells) (a:Addr) (m c:Nat) (news:List Value) (O:news.length=m*n) (p: ∀j u,news[j]? =some u->w.cell? (a.add j)=some u) (r: ∀u∈news,u.oneCell'=true) (C:len+m<=maxLen) (Q:(len+m)*b<=140737488355328) :
  ∃s w',(Builtin.append_ #[t,t] ty #[v,.slice (some a) m c]).run P w= .ok s w'/\OffRow w' E n s (len+m) (cells++news)/\w.grownBy w' v.ownBlock/\(s.ownBlock=v.ownBlock\/ ∃H,s.ownBlock=some H/\w.heap.size<=H):=by
 have ⟨J,h⟩:=B;have A:(cells++news).length=(len+m)*n:=by grind
 rcases h with ⟨rfl,rfl⟩ | ⟨g,q,cap,cur,rfl,M,h3,U,h5,h6⟩
 ·obtain rfl:cells= []:=List.eq_nil_of_length_eq_zero (by omega);obtain ⟨s,w',d,G,x,-,W⟩:=run_append_own_at (P:=P) (w:=w) 0 t ty E i z n b K hi T f D y S (.slice none 0 0) 0 [] (World.ownsRow_nil w _ E n) a m c news O p r C Q (by omega);exact ⟨s,w',d,.of_owns G,x,W.imp (fun h=>h) fun h=>⟨_,h,aH _⟩⟩
 ·by_cases l:len+m<=cap
  ·have F:q+len*n+news.length<=cur.size:=by
    have:(len+m)*n<=cap*n:=Nat.mul_le_mul_right _ l
    rw[Nat.add_mul] at this;omega
   have d:=run_append_room_cells (P:=P) w t ty E i K hi g q len cap a m c news (by grind) p r l (fun j Z=>by
    simp[World.cell?,M,Option.isSome_none,Bool.false_eq_true,ite_false];grind) (fun j _=>by simp[World.frozen?,M])
   rw[f] at d;have ⟨X,o2,V,o4,Y⟩:=rV g news (q+len*n) w;refine ⟨_,_,d,⟨A,.inr ⟨g,q,cap,_,rfl,vc news _ w cur F M,l,U,?_,?_⟩⟩,⟨X,o2,V,by omega,fun k _ N=>Y k fun e=>N (by rw[e];rfl)⟩,.inl rfl⟩
   ·grind
   grind
  ·have ⟨s,w',d,G,x⟩:=run_append_arg_grows (P:=P) w t ty E i z n b K hi T f D y S ⟨g,q,none⟩ len cap cells J (fun j u Z=>by
    grind[Addr.add_mid,World.cell?]) a m c news O p (by omega) C Q
   refine ⟨s,w',d,.of_owns G,⟨x.os,x.tape,x.output,x.size,fun k N _=>x.block k N (by simp)⟩,.inr ?_⟩;rcases G.2 with ⟨_,h0⟩ | ⟨H,cp,cu,rfl,L,-⟩
   ·omega
   ·exact ⟨H,rfl,L⟩
theorem St.append_cells {t ty:TypeId} {z:Value} {n b:Nat} (ht:P.underlying t=some (.slice E)) (hE:TZ P E z n b) (hzs:z.cells.size=n) (hn:0<n) (hR:R.size=n)
  {v:Value} {xs ys:List α} {news:List Value} {K2:List Nat} {a:Addr} {cap:Nat} {C:List Ch} (hs:St I w0 w (Ch.own (ah E R) [v] xs::C))
  (H: ∃G V,(∃F,(ah E R).own I w [v] xs G/\Sep I C w F/\V=K2++F/\(G++V).Nodup/\ ∀b,b∈G++V->I b=none)) (l:OwnEls R I w news ys K2)
  (r: ∀j u,news[j]? =some u->w.cell? (a.add j)=some u) (N: ∀u∈news,u.oneCell'=true) (hl:news.length=ys.length*n) (c:(xs.length+ys.length)*b<=140737488355328) (hb1:1<=b) :
  ∃X w',(Builtin.append_ #[t,t] ty #[v,.slice (some a) ys.length cap]).run P w= .ok X w'/\St I w0 w' (Ch.own (ah E R) [X] (xs++ys)::C):=by
 have ⟨i,hi,hz,p,hby⟩:=info_parts hE;obtain ⟨G,V,F,⟨hlx,J⟩,hC,rfl,hnd,hI⟩:=H;have hlen:=Nat.le_trans (Nat.le_mul_of_pos_right _ hb1) c;have old: ∃h cells,OffRow w E n v xs.length cells/\OwnEls R I w cells xs h/\cells.length=xs.length*n /\
   ((G=h/\v.ownBlock=none)\/ ∃g,G=g::h/\v.ownBlock=some g/\g<w.heap.size):=by
  rcases J with ⟨hv,rfl,rfl⟩ | ⟨g,k,cp,cur,h,hv,hg,h3,h4,h5,rfl,h6⟩
  ·obtain rfl:v= .slice none 0 0:=by grind
   exact ⟨[],[],.of_owns (World.ownsRow_nil w 0 E n),rfl,by simp,.inl ⟨rfl,rfl⟩⟩
  ·obtain rfl:v= .slice (some ⟨g,k,none⟩) xs.length cp:=by grind
   have s:=(Array.getElem?_eq_some_iff.1 hg).1;rw[hR] at h5;have M:xs.length*n<=cur.size - k:=by have:=Nat.mul_le_mul_right n h3;omega
   have B:((cur.toList.drop k).take (xs.length*n)).length=xs.length*n:=by rw[aB,bF,Array.length_toList];exact Nat.min_eq_left M
   exact ⟨h,(cur.toList.drop k).take (xs.length*n),⟨B,.inr ⟨g,k,cp,cur,rfl,hg,h3,h4,h5,rfl⟩⟩,h6.rest (by grind),B,.inr ⟨g,rfl,rfl,s⟩⟩
 have ⟨h,cells,S,x,W,U⟩:=old;have ⟨X,w',K,q,d,hat⟩:=Gr (P:=P) (w:=w) (ty:=ty) ht hi hz p hby hzs hn S a ys.length cap news hl r N
  (by unfold maxLen;omega) c
 refine ⟨X,w',K,?_⟩;obtain ⟨⟨b1,b2,b3,b4⟩,O,-⟩:=hs;have s:=fun b o c=>(Array.getElem?_eq_some_iff.1 (O b o c)).1;have Z:=x.live;have hK2:=l.live;have hF:=hC.live;have m: ∀b,b∈h\/b∈K2\/b∈F->some b≠v.ownBlock:=by
  rcases U with ⟨rfl,hv⟩ | ⟨g,rfl,hv,_⟩
  ·grind
  ·grind
 have T: ∀b o,I b=some o->some b≠v.ownBlock:=by
  intro b o c e;rcases U with ⟨rfl,hv⟩ | ⟨g,rfl,hv,_⟩
  ·grind
  ·grind
 have f:=fun b h1 h2=>d.block b h1 h2;have hnd':(h++(K2++F)).Nodup:=by
  rcases U with ⟨rfl,_⟩ | ⟨g,rfl,_,_⟩
  ·omega
  ·grind
 have hI': ∀b,b∈h++(K2++F)->I b=none:=by
  intro b c;rcases U with ⟨rfl,_⟩ | ⟨g,rfl,_,_⟩
  ·grind
  ·grind
 have Q:=x.stay fun b c=>f b (Z b c) (m b (.inl c));have y:=l.stay fun b c=>f b (hK2 b c) (m b (.inr (.inl c)));have hj:=Q.join (by grind) y;have A:=hC.stay fun b c=>f b (hF b c) (m b (.inr (.inr c)));have ⟨hr1,hr2⟩:=q;refine ⟨⟨d.os.trans b1,d.tape.trans b2,d.output.trans b3,Nat.le_trans b4 d.size⟩,fun b o c=>?_,?_⟩
 ·show w'.heap[b]? =some o;rw[f b (s b o c) (T b o c)];exact O b o c
 rcases hr2 with ⟨rfl,h0⟩ | ⟨Y,D,cp',L,rfl,hg2,hg3,hg4,hg5,hg6⟩
 ·have hx0:xs= []:=List.eq_nil_of_length_eq_zero (by omega);have hy0:ys= []:=List.eq_nil_of_length_eq_zero (by omega);subst hx0;subst hy0;have e1:=x;have e2:=l;subst e1;exact ⟨F,⟨[],F,rfl,⟨by simp,.inl ⟨rfl,rfl,rfl⟩⟩,A⟩,by grind,fun b c=>hI' b (by grind)⟩
 ·have hnew: ∀b,b∈h++(K2++F)->b≠Y:=by
   intro b c e;subst e;have hb':b∈h\/b∈K2\/b∈F:=by simpa using c
   rcases hat with e | ⟨g1,e,hge⟩
   ·exact m b hb' (by rw[<-e];rfl)
   ·grind[Value.ownBlock]
  refine ⟨(Y::(h++K2))++F,⟨Y::(h++K2),F,rfl,⟨by grind[aF,lim],.inr ⟨Y,D,cp',L,h++K2,by grind,hg2,by grind,hg4,by grind,rfl,hj.rest ?_⟩⟩,A⟩,?_,fun b c=>?_⟩
  ·grind
  ·grind
  ·rw[List.cons_append,aD] at c;rcases az c with rfl | c
   ·cases hIb:I b with
    | none=>rfl
    | some o =>
     grind[absurd,Value.ownBlock]
   grind
def Cpy (S R:Rep α):Prop:= ∀ {I w c a},S.rd I c a->R.own I w c a []
theorem za {enc:α->Value} {h1: ∀a,(enc a).oneCell'=true} :Cpy (nA α enc h1) (nA α enc h1):=fun h=>⟨rfl,h⟩
theorem Pn:Cpy rp rp:=za
theorem SV:Cpy Iy Iy:=za
theorem Xl {R:Rep α} :Cpy (CF R) (CF R):=fun h=>⟨rfl,h⟩
theorem Xm {α β:Type} {A b:Rep α} {B f:Rep β} (h:Cpy A b) (k:Cpy B f):Cpy (aL A B) (aL b f):=by
 rintro I w c a ⟨d,e,rfl,g,i⟩;exact ⟨d,e,[],[],rfl,rfl,h g,k i⟩
theorem St.free {R:Rep α} {c:List Value} {x:α} (h:St I w0 w cs) (d:R.own I w c x []):St I w0 w (Ch.own R c x::cs):=by
 have ⟨b,e,F,a,g,f⟩:=h;exact ⟨b,e,F,⟨[],F,rfl,d,a⟩,g,f⟩
theorem St.frees {R:Rep α} : ∀ {ls:List (List Value)} {xs:List α},St I w0 w cs->(∀p,p∈ls.zip xs->R.own I w p.1 p.2 [])->St I w0 w (KT R ls xs++cs)
 | [],_,h,_=>h
 | _::_,[],h,_=>h
 | c::ls,x::xs,h,hx=>(St.frees h fun p hp=>hx p (by simp[hp])).free (hx (c,x) (by simp))
theorem Nf {S:Rep α} {T:TypeId} {z:Value} {n b m:Nat} {parts:Array (Nat×Operand)} (us:List (Value×List Value)) (xs:List α) (g:Cpy S R) (r: ∀p,p∈(us.map (·.2)).zip xs->S.rd I p.1 p.2) (j:P.underlying T=some (.slice E)) (e:TZ P E z n b) (h:0<n) (k:R.size=n) (q:0<m) (a:m*n<=16777216) (f:o.op= .buildSlice T m parts) (hp:parts.toList.map (fun p=>(p.1,ev p.2))=(us.zipIdx 0).map fun p=>(p.2,p.1.1)) (c:us.length=m) (i:xs.length=m)
  (d: ∀u∈us,u.1.cells=u.2.toArray/\u.2.length=n):OpT P I w0 o ev [] (fun _=>True) (fun v=>[Ch.own (ah E R) [v] xs]):=by
 intro w C l;exact SU (R:=R) us xs j e h k q a f hp c i d w C (St.frees l fun p hp=>g (r p hp))
theorem dU {T:TypeId} {x y:Operand} {s u v:Value} (a:o.op= .call { callee:=.builtin .append,args:= #[x,y],argTypes:= #[T,T] }) (b:ev x=s) (c:ev y=u) (d:(Builtin.append_ #[T,T] o.type #[s,u]).run P w= .ok v w'):(execOp ev o).run P w= .ok (.value v) w':=by
 simp[execOp,a,resolve,invoke,builtin,Sem.run_bind,Sem.run_pure,Result.andThen_ok,List.map_toArray,List.map_cons,List.map_nil,b,c,d]
theorem Q3 {T:TypeId} {z:Value} {n b:Nat} {x y:Operand} {s u:Value} {xs ys:List α} (hT:P.underlying T=some (.slice E)) (M:TZ P E z n b) (B:z.cells.size=n) (hn:0<n) (X:R.size=n) (L:1<=b) (U:o.op= .call { callee:=.builtin .append,args:= #[x,y],argTypes:= #[T,T] }) (Q:ev x=s) (W:ev y=u) (O:(xs.length+ys.length)*b<=140737488355328) :
  OpT P I w0 o ev [Ch.own (ah E R) [s] xs,Ch.own (ah E R) [u] ys] (fun _=>True) (fun v=>[Ch.own (ah E R) [v] (xs++ys)]):=by
 intro w C S;have H:=S;obtain ⟨hb0,hi,F,⟨G,K,rfl,N,K1,K2,rfl,⟨hly,e2⟩,e3⟩,t,hI⟩:=S;have J:St I w0 w (Ch.own (ah E R) [s] xs::C):=(H.perm (List.Perm.swap _ _ _)).tail;rcases e2 with ⟨hv,rfl,rfl⟩ | ⟨g,d,cap,cur,r,hv,k1,k2,k3,k4,rfl,k5⟩
 ·obtain rfl:u= .slice none 0 0:=by grind
  have ⟨i,Y,hz,A,hby⟩:=info_parts M;have e:(Builtin.append_ #[T,T] o.type #[s,.slice none 0 0]).run P w= .ok s w:=by
   rcases N.2 with ⟨D,_⟩ | ⟨g,d,cap,cur,K,D,_,h3,_⟩
   ·simp_all[eW,aH]
   ·grind[eW]
  rw[dU U Q W e];refine ⟨trivial,?_⟩;grind
 ·obtain rfl:u= .slice (some ⟨g,d,none⟩) ys.length cap:=by grind
  have hln:cap*n<=(cur.toList.drop d).length:=by rw[bF,Array.length_toList];rw[X] at k4;omega
  have V:ys.length*n<=cap*n:=Nat.mul_le_mul_right _ k2;have f:((cur.toList.drop d).take (ys.length*n)).length=ys.length*n:=by rw[aB];omega
  have k:OwnEls R I w ((cur.toList.drop d).take (ys.length*n)) ys r:=k5.rest (by grind);have m: ∀v∈(cur.toList.drop d).take (ys.length*n),v.oneCell'=true:=by
   have: ∀ {ys:List α} {l:List Value} {F},OwnEls R I w l ys F-> ∀v∈l.take (ys.length*R.size),v.oneCell'=true:=by
    intro ys;induction ys with
    | nil=>simp_all
    | cons y ys ih =>
     rintro l F ⟨c,rest,G,K,rfl,h2,h3,Z,h5⟩ v hv;rw[aM,Nat.add_mul,Nat.one_mul,Nat.add_comm,List.take_append,List.take_of_length_le (by omega),h2,Nat.add_sub_cancel_left] at hv;rcases aN hv with h | h
     ·exact R.own_one Z v h
     grind
   grind
  have p:(G++(r++K2)).Nodup:=by
   exact t.sublist (List.Sublist.append_left (List.sublist_cons_self _ _) _)
  have ⟨v',w',e,q⟩:=St.append_cells (ty:=o.type) hT M B hn X (a:=⟨g,d,none⟩) (cap:=cap) (K2:=r) (ys:=ys) (news:=(cur.toList.drop d).take (ys.length*n)) J
   ⟨G,r++K2,K2,N,e3,rfl,p,fun b O=>hI b (by grind)⟩
   k (fun j u hj=>by
    grind[Addr.add_mid,World.cell?]) m f O L
  rw[dU U Q W e];exact ⟨trivial,q⟩
theorem Gs {S:Rep α} {E' T:TypeId} {z:Value} {n b:Nat} {x y:Operand} {s u:Value} {xs ys:List α} (hc:Cpy S R) (k:S.size=n) (hr:(ah E' S).rd I [u] ys) (hT:P.underlying T=some (.slice E)) (J:TZ P E z n b) (q:z.cells.size=n) (hn:0<n) (W:R.size=n) (B:1<=b) (Q:o.op= .call { callee:=.builtin .append,args:= #[x,y],argTypes:= #[T,T] }) (M:ev x=s) (U:ev y=u) (hb:(xs.length+ys.length)*b<=140737488355328) :
  OpT P I w0 o ev [Ch.own (ah E R) [s] xs] (fun _=>True) (fun v=>[Ch.own (ah E R) [v] (xs++ys)]):=by
 intro w C N;have A:=N;obtain ⟨hb0,hi,F,⟨G,K,rfl,L,e3⟩,f,hI⟩:=N;have ⟨V,cap,hv,hl,h⟩:=hr;obtain rfl:u= .slice V ys.length cap:=by grind
 rcases h with rfl | ⟨g,off,m,t,fr,rfl,hg,D⟩
 ·have ⟨i,X,hz,p,hby⟩:=info_parts J;have d:(Builtin.append_ #[T,T] o.type #[s,.slice V 0 cap]).run P w= .ok s w:=by
   rcases L.2 with ⟨r,_⟩ | ⟨g,ofs,cap,cur,K,r,_,O,_⟩
   ·simp_all[eW,aH]
   ·grind[eW]
  rw[dU Q M U d];refine ⟨trivial,?_⟩;grind
 ·have ⟨news,n1,n2,n3,n4⟩:=aeL (R:=S) (I:=I) (w:=w) D;have H:OwnEls R I w news ys []:=by
   have: ∀ {ys:List α} {l:List Value},OwnEls (CF S) I w l ys [] ->OwnEls R I w l ys []:=by
    intro ys;induction ys with
    | nil=>intro l h;exact h
    | cons y ys ih =>
     rintro l ⟨c,rest,G,K,Z,h2,O,⟨rfl,Y⟩,h5⟩
     have:K= []:=by simpa using O.symm
     subst this;exact ⟨c,rest,[],[],Z,by rw[W,<-k];exact h2,rfl,hc Y,ih h5⟩
   exact this n4
  have hw:w.heap[g]? =some (.cells m t fr):=hi g _ hg;have ⟨v',w',d,e⟩:=St.append_cells (ty:=o.type) hT J q hn W (a:=⟨g,off,none⟩) (cap:=cap) (K2:=[]) (ys:=ys) (news:=news) A
   ⟨G,K,K,L,e3,rfl,f,hI⟩ H (fun j u hj=>by
    grind[Addr.add_mid,World.cell?]) n3 (by grind) hb B
  rw[dU Q M U d];exact ⟨trivial,e⟩
theorem DC {T:TypeId} {z:Value} {n b:Nat} {x y:Operand} {s u:Value} {xs ys:List α} (t:R.Sh) (hc:Cpy R R) (hT:P.underlying T=some (.slice E)) (N:TZ P E z n b) (H:z.cells.size=n) (hn:0<n) (Z:R.size=n) (M:1<=b) (W:o.op= .call { callee:=.builtin .append,args:= #[x,y],argTypes:= #[T,T] }) (U:ev x=s) (Y:ev y=u) (hb:(xs.length+ys.length)*b<=140737488355328) :
  OpT P I w0 o ev [Ch.own (ah E R) [s] xs,Ch.own (ah E R) [u] ys] (fun _=>True) (fun v=>[Ch.own (ah E R) [v] (xs++ys),Ch.own (ah E R) [u] ys]):=by
 intro w C V;have L:=V;obtain ⟨hb0,hi,F,⟨G,K,rfl,O,K1,K2,rfl,B,e3⟩,q,hI⟩:=V;have ⟨A,e2⟩:=B;rcases e2 with ⟨hv,rfl,rfl⟩ | ⟨g,d,cap,cur,K3,hv,k1,S,k3,Q,rfl,r⟩
 ·obtain rfl:u= .slice none 0 0:=by grind
  have ⟨i,hi',hz,D,hby⟩:=info_parts N;have e:(Builtin.append_ #[T,T] o.type #[s,.slice none 0 0]).run P w= .ok s w:=by
   rcases O.2 with ⟨J,_⟩ | ⟨g,d,cap,cur,K,J,_,h3,_⟩
   ·simp_all[eW,aH]
   ·grind[eW]
  rw[dU W U Y e];refine ⟨trivial,?_⟩;grind
 ·obtain rfl:u= .slice (some ⟨g,d,none⟩) ys.length cap:=by grind
  have:=r.sh t
  subst this;have hln:cap*n<=(cur.toList.drop d).length:=by rw[bF,Array.length_toList];rw[Z] at Q;omega
  have X:ys.length*n<=cap*n:=Nat.mul_le_mul_right _ S;have f:((cur.toList.drop d).take (ys.length*n)).length=ys.length*n:=by rw[aB];omega
  have k:OwnEls R I w ((cur.toList.drop d).take (ys.length*n)) ys []:=r.rest (by grind);have m: ∀v∈(cur.toList.drop d).take (ys.length*n),v.oneCell'=true:=by
   have: ∀ {ys:List α} {l:List Value} {F},OwnEls R I w l ys F-> ∀v∈l.take (ys.length*R.size),v.oneCell'=true:=by
    intro ys;induction ys with
    | nil=>simp_all
    | cons y ys ih =>
     rintro l F ⟨c,rest,G,K,rfl,h2,h3,h4,h5⟩ v hv;rw[aM,Nat.add_mul,Nat.one_mul,Nat.add_comm,List.take_append,List.take_of_length_le (by omega),h2,Nat.add_sub_cancel_left] at hv;rcases aN hv with h | h
     ·exact R.own_one h4 v h
     grind
   grind
  have ⟨v',w',e,p⟩:=St.append_cells (ty:=o.type) hT N H hn Z (a:=⟨g,d,none⟩) (cap:=cap) (K2:=[]) (ys:=ys) (news:=(cur.toList.drop d).take (ys.length*n)) L
   ⟨G,[g] ++K2,[g] ++K2,O,⟨[g],K2,rfl,⟨A,.inr ⟨g,d,cap,cur,[],hv,k1,S,k3,Q,rfl,r⟩⟩,e3⟩,rfl,q,hI⟩
   k (fun j u hj=>by
    grind[Addr.add_mid,World.cell?]) m f hb M
  rw[dU W U Y e];exact ⟨trivial,p⟩
end
inductive Out (R S:Type) where
 | nxt (s:S)
 | brk (s:S)
 | ret (r:R)
def aj {R S:Type} (f:S->Option (Out R S)):Nat->S->Option (Out R S)
 | 0,_=>none
 | k+1,s=>match f s with
  | none=>none
  | some (.nxt s')=>aj f k s'
  | some (.brk s')=>some (.brk s')
  | some (.ret r)=>some (.ret r)
def aP:Nat:=1180591620717411303424
def cr {α:Type} (b:Nat) (xs ys:List α):Option (List α):=if (xs.length+ys.length)*b<=140737488355328 then some (xs++ys) else none
def chk (p:Prop) [Decidable p] :Option Unit:=if p then some () else none
theorem bind_some {α β:Type} {x:Option α} {f:α->Option β} {r:β} (h:(x.bind f)=some r): ∃a,x=some a/\f a=some r:=Option.bind_eq_some_iff.1 h
theorem zb {α:Type} {b:Nat} {xs ys zs:List α} (h:cr b xs ys=some zs):zs=xs++ys/\(xs.length+ys.length)*b<=140737488355328:=by
 unfold cr at h;split at h
 ·exact ⟨(ae h).symm,‹_›⟩
 ·cases h
theorem bH {p:Prop} [Decidable p] {u:Unit} (h:chk p=some u):p:=by
 unfold chk at h;split at h
 ·assumption
 ·cases h
section
variable {P:Program} {I J:Hp} {w0 w w':World} {cs C:List Ch} {n:Nat} {a:Act} {L:List (Nat×Value)} {Q:Exit->Act->World->Prop}
def Con (P:Program) (k:FuncId) (args:Array Value) (I:Hp) (w0:World) (rn:List Ch) (fact:Value->Prop) (gv:Value->List Ch):Prop:=
 ∀w C,St I w0 w (rn++C)->Calls P k args w fun e w'=> ∃v,e= .returned v/\fact v/\St I w0 w' (gv v++C)
theorem ru {o:Oper} {ev:Operand->Value} {k:FuncId} {f:Operand} {xs:Array Operand} {ts:Array TypeId} {first captured args:Array Value} {rn:List Ch} {fact:Value->Prop} {gv:Value->List Ch} (d:Enters P k) (e:o.op= .call { callee:=.value f,args:=xs,argTypes:=ts }) (b:ev f= .func (.func k) first captured) (c:first.toList++xs.toList.map ev++captured.toList=args.toList) (g:Con P k args I w0 rn fact gv):OpT P I w0 o ev rn fact gv:=by
 intro w C i;have h:(first++xs.map ev)++captured=args:=by
  apply Array.ext';rw[<-c];simp
 have j:(execOp ev o).run P w= .ok (.enter k args) w:=by
  simp only[execOp,e,resolve,b,Deferred.ofValue,Sem.run_bind,Sem.run_pure,Result.andThen_ok,invoke,h];exact d args w
 rw[j];exact g w C i
theorem Con.imp {k:FuncId} {args:Array Value} {rn:List Ch} {fact b:Value->Prop} {gv c:Value->List Ch} (h:Con P k args I w0 rn fact gv) (g: ∀v,fact v->b v) (l: ∀v,fact v-> ∀w C,St I w0 w (gv v++C)->St I w0 w (c v++C)):Con P k args I w0 rn b c :=
 fun w C j=>(h w C j).mono fun e w' ⟨v,f,d,i⟩=>⟨v,f,g v d,l v d _ _ i⟩
def Rep.Dp {α:Type} (R:Rep α):Prop:= ∀ {I J:Hp} {w:World} {v:List Value} {x:α} {F:List Nat},R.own J w v x F->R.own I w v x F
theorem DD {α:Type} {enc:α->Value} {h1: ∀a,(enc a).oneCell'=true} :(nA α enc h1).Dp:=fun h=>h
theorem abW:rp.Dp:=DD
theorem aeM:Iy.Dp:=DD
theorem abX {α β:Type} {R:Rep α} {S:Rep β} (h:R.Dp) (k:S.Dp):(aL R S).Dp:=by
 rintro I J w v x F ⟨c,d,G,K,b,g,f,e⟩;exact ⟨c,d,G,K,b,g,h f,k e⟩
theorem IF {α:Type} {E:TypeId} {R:Rep α} (h:R.Dp):(ah E R).Dp:=by
 intro I J w v x F l;have key: ∀ {b:List α} {cur F},OwnEls R J w cur b F->OwnEls R I w cur b F:=by
  intro b;induction b with
  | nil=>intro cur F h;exact h
  | cons x b ih =>
   rintro cur F ⟨c,rest,G,K,e,k,f,d,j⟩;exact ⟨c,rest,G,K,e,k,f,h d,ih j⟩
 refine ⟨l.1,l.2.imp (fun h=>h) ?_⟩;rintro ⟨g,i,cap,cur,K,e,k,f,d,j,m,o⟩;exact ⟨g,i,cap,cur,K,e,k,f,d,j,m,key o⟩
theorem DE {α:Type} {R:Rep α} (h:R.Dp) {v:List Value} {x:α} :(Ch.own R v x).deep:=fun b=>h b
theorem aeN {g:Nat} {l:List Value} {E:TypeId} :(Ch.blk g l E).deep:=fun b=>b
def Ng (P:Program) (a:Act) (w:World):ResultVar->Value->Prop
 | .tmp t,v=>a.tmps.getD t undef=v
 | .cell p T,v=> ∃A,a.tmps.getD p undef= .pointer (some A)/\(loadVar T A).run P w= .ok v w
theorem abY (b:Agr n a L) {t:Nat} {v:Value} (h:L.lookup t=some v):Ng P a w (.tmp t) v:=b.2.2 t v h
theorem Xn (f:Agr n a L) {t g:Nat} {T E:TypeId} {l:List Value} {m:Nat} {cs:List Ch} (h:L.lookup t=some (.pointer (some ⟨g,0,none⟩))) (hs:St I w0 w cs) (i:Nat) (hi:cs[i]? =some (Ch.blk g l E)) (k:TI P T true m) (e:l.length=m):Ng P a w (.cell t T) (.agg l.toArray):=by
 refine ⟨_,f.2.2 t _ h,?_⟩;obtain ⟨⟨d,b,p⟩,c⟩:=k;refine run_loadVar_mid w g 0 T l d (fun j v hv=>?_) b (by cases d <;> first | rfl | cases p) (by rw[c,e]);have o:=hs.heap i hi;rw[Nat.zero_add];simp[World.cell?,o,hv]
theorem Xo {c:Operand} {x y:Code} {b:Bool} (f:Agr n a L) (d:SO L c=true) (hv:evL L c= .bool b) (e:b=true) (h:x.wp P Q a w):(Code.cond c x y).wp P Q a w:=
 wp_cond_true (by rw[f.eval d,hv,e]) h
theorem SX {c:Operand} {x y:Code} {b:Bool} (f:Agr n a L) (d:SO L c=true) (hv:evL L c= .bool b) (e:b=false) (h:y.wp P Q a w):(Code.cond c x y).wp P Q a w:=
 wp_cond_false (by rw[f.eval d,hv,e]) h
theorem aeO {id:Nat} (h:Q .normal a w):Exit.inBlock id Q (.exit id) a w:=by
 show if id=id then Q .normal a w else Q (.exit id) a w;rw[if_pos rfl];exact h
theorem aeP {id b:Nat} (c:b≠id) (h:Q (.exit b) a w):Exit.inBlock id Q (.exit b) a w:=by
 show if b=id then Q .normal a w else Q (.exit b) a w;rw[if_neg c];exact h
theorem Xp {R S:Type} {c:Code} {f:S->Option (Out R S)} {k:Nat} {s:S} {o:Out R S} (Inv:S->Act->World->Prop) (h:aj f k s=some o) (B:Inv s a w)
  (round: ∀s o',f s=some o'->((∀m,o'≠ .nxt m)->o'=o)-> ∀a w,Inv s a w->c.wp P (Exit.then (fun a w=> ∃m,o'= .nxt m/\Inv m a w) Q) a w):(Code.loop c).wp P Q a w:=by
 intro b it cs;have key: ∀k s a w,aj f k s=some o->Inv s a w-> ∃e z w',Q e z w'/\Arrives P (lone (b.at a (.code c:: .inLoop c::it)) cs w) b it cs e z w':=by
  intro k;induction k with
  | zero=>intro s a w h;cases h
  | succ k ih =>
   intro s a w h E;rw[aj] at h;cases A:f s with
   | none=>rw[A] at h;cases h
   | some o' =>
    rw[A] at h;obtain ⟨e,g,i,p,d⟩:=round s o' A (fun D=>by
     cases o' with
     | nxt m=>exact absurd rfl (D m)
     | brk m=>exact ae h
     | ret r=>exact ae h) a w E b (.inLoop c::it) cs
    cases e with
    | normal =>
     obtain ⟨m,rfl,q⟩:=p;obtain ⟨v,u,y,t,j⟩:=ih m g i h q;exact ⟨v,u,y,t,.of_steps (Steps.trans d (.one step_inLoop)) j⟩
    | exit id=>exact ⟨_,g,i,p,.pass (x:=.inLoop c) rfl (fun _ _=>.inl (by simp)) d⟩
    | goto l=>exact ⟨_,g,i,p,.pass (x:=.inLoop c) rfl (fun _ _=>.inl (by simp)) d⟩
    | ret=>exact ⟨_,g,i,p,.pass (x:=.inLoop c) rfl (fun _ _=>.inl (by simp)) d⟩
    | panic ch=>exact ⟨_,g,i,p,.pass (x:=.inLoop c) rfl (fun _ _=>.inl (by simp)) d⟩
    | outgrown=>exact ⟨_,g,i,p,.pass (x:=.inLoop c) rfl (fun _ _=>.inl (by simp)) d⟩
 obtain ⟨e,z,w',p,d⟩:=key k s a w h B;exact ⟨e,z,w',p,.of_steps (.one step_loop) d⟩
theorem Xq {ops:Array Oper} {o:Oper} {rest:List Oper} {g d:Nat} {want b:Bool} (e:Agr n a L) (hs:St I w0 w C) (f:o.guard=some (g,want)) (l:((ops[g]?).bind (·.dst))=some d) (hv:L.lookup d=some (.bool b)) (j:b= !want) (i:dstOk n o.dst=true)
  (k: ∀a,Agr n a (Xa o.dst undef L)->wpList P ops Q rest a w):wpList P ops Q (o::rest) a w:=by
 refine wpList_skip ?_ (k _ (e.put undef i));have h:=e.2.2 d _ hv;unfold Region.wanted yielded;rw[f];simp only;rw[l];simp only[aa];rw[Array.getD_eq_getD_getElem?] at h;cases c:a.tmps[d]? with
 | none=>rw[c] at h;cases h
 | some u =>
  rw[c] at h;simp only[Option.getD_some] at h;rw[h];simp only[j];cases want <;> rfl
theorem Xr {ops:Array Oper} {o:Oper} {rest:List Oper} {g d:Nat} {want b:Bool} {l rn:List Ch} {fact:Value->Prop} {gv:Value->List Ch} (i:Agr n a L) (hs:St I w0 w l) (z:o.guard=some (g,want)) (r:((ops[g]?).bind (·.dst))=some d) (hv:L.lookup d=some (.bool b)) (s:b=want) (f:OpT P I w0 o (evL L) rn fact gv) (hp:l.Perm (rn++C)) (p:(Iz L o&&dstOk n o.dst&&noSelect o)=true)
  (k: ∀v a w,fact v->Agr n a (Xa o.dst v L)->St I w0 w (gv v++C)->wpList P ops Q rest a w):wpList P ops Q (o::rest) a w:=by
 simp only[al] at p;obtain ⟨⟨j,e⟩,c⟩:=p;have A:Region.wanted o (yielded ops a.tmps)=true:=by
  have h:=i.2.2 d _ hv;unfold Region.wanted yielded;rw[z];simp only;rw[r];simp only[aa];rw[Array.getD_eq_getD_getElem?] at h;cases m:a.tmps[d]? with
  | none=>rw[m] at h;cases h
  | some u =>
   rw[m] at h;simp only[Option.getD_some] at h;rw[h];simp[s]
 refine BigFrame.wpList_want A fun K q=>?_;have t:execOp a.eval o=execOp (evL L) o:=tj c fun x y=>i.eval ((List.all_eq_true.1 j) x (by simpa using y));have h:=f w C (hs.perm hp);rw[<-t] at h;exact h.wp fun v w' hv=>q _ _ (k v _ w' hv.1 (i.put v e) hv.2)
end
section
variable {P:Program} {I J:Hp} {w0 w w':World} {cs C:List Ch} {n:Nat} {a:Act} {L L':List (Nat×Value)} {Q:Exit->Act->World->Prop} {o:Oper} {ev:Operand->Value}
theorem nrm {K:Act->World->Prop} (h:K a w):Exit.then K Q .normal a w:=h
theorem aiR {id:Nat} (h:Q .normal a w):Exit.inBlock id Q .normal a w:=h
theorem abZ {K:Act->World->Prop} {id:Nat} (h:Q (.exit id) a w):Exit.then K Q (.exit id) a w:=h
theorem ab0 {K:Act->World->Prop} (h:Q .ret a w):Exit.then K Q .ret a w:=h
theorem aii {id:Nat} (h:Q .ret a w):Exit.inBlock id Q .ret a w:=h
theorem two (b:Bool):b=false\/b=true:=by cases b <;> simp
theorem Hd.one {v:Value} {n:Nat} (h:Hd v n):v.oneCell'=true:=by obtain ⟨_,_,rfl,_⟩:=h;rfl
def Nh (place:Nat->Option (Nat×Nat)) (cells:List Value):List (Nat×List Value)->Option (List Value)
 | [] =>some cells
 | (i,l)::rest=>match place i with
  | none=>none
  | some (off,size)=>if l.length=size/\off+size<=cells.length then Nh place (cells.take off++l++cells.drop (off+size)) rest else none
theorem aan {place:Nat->Option (Nat×Nat)} : ∀ {parts:List (Nat×Value)} {ls:List (Nat×List Value)} {cells r:List Value},parts.map (fun p=>(p.1,p.2.cells))=ls.map (fun p=>(p.1,p.2.toArray))->Nh place cells ls=some r->Instr.fill place cells.toArray parts=some r.toArray
 | [],[],cells,r,_,h=>by grind[Nh,Instr.fill,ae]
 | [],_::_,cells,r,b,h=>by grind
 | _::_,[],cells,r,b,h=>by grind
 | (i,u)::parts,(j,l)::ls,cells,r,b,h=>by
  simp[List.map_cons,List.cons.injEq,Prod.mk.injEq] at b;obtain ⟨⟨rfl,d⟩,b⟩:=b;rw[Nh] at h;rw[Instr.fill];cases hp:place i with
  | none=>grind
  | some q =>
   have ⟨off,size⟩:=q;rw[hp] at h;simp only at h⊢;split at h
   ·rename_i f;rw[d];rw[if_neg (by grind)];have g:=SS l off cells.toArray (by grind);have e:(l.toArray.zipIdx.foldl (fun cs (c,j)=>cs.setIfInBounds (off+j) c) cells.toArray)=(cells.take off++l++cells.drop (off+size)).toArray:=by
     rw[<-f.1];apply Array.ext';rw[g]
    rw[e];exact aan b h
   grind
def TB (P:Program) (T:TypeId) (pl:List (Nat×Nat)):Prop:= ∃fs,P.underlying T=some (.struct fs)/\fs.toList.mapM (fun f=>(P.info? f.type).map fun i=>(f.offset,i.size))=some pl
def peq:List (Nat×Value)->List (Nat×List Value)->Prop
 | [],[] =>True
 | (i,u)::p,(j,l)::q=>i=j/\u.cells=l.toArray/\peq p q
 | _,_=>False
theorem SY: ∀ {p:List (Nat×Value)} {q:List (Nat×List Value)},peq p q->p.map (fun p=>(p.1,p.2.cells))=q.map (fun p=>(p.1,p.2.toArray))
 | [],[],_=>rfl
 | (i,u)::p,(j,l)::q,h=>by
  obtain ⟨rfl,c,b⟩:=h;rw[List.map_cons,List.map_cons,SY b,c]
 | [],_::_,h=>h.elim
 | _::_,[],h=>h.elim
theorem SZ {T:TypeId} {z:Value} {m b:Nat} {parts:Array (Nat×Operand)} {e r:List Value} (ls:List (Nat×List Value)) {d:List (Nat×Nat)} (j:TB P T d) (h:TZ P T z m b) (g:z.cells=e.toArray) (q:o.op= .build T parts)
  (c:peq (parts.toList.map fun p=>(p.1,ev p.2)) ls) (s:Nh (d[·]?) e ls=some r):OpT P I w0 o ev [] (· = .agg r.toArray) (fun _=>[]):=by
 refine bt fun w=>?_;have ⟨fs,k,u⟩:=j;obtain ⟨i,t,f,-,-⟩:=info_parts h;have l:=aan (place:=fun i=>d.toArray[i]?) (cells:=e) (r:=r) (parts:=(parts.map fun (i,x)=>(i,ev x)).toList) (by rw[Array.toList_map];exact SY c) (by grind);simp_all[Program.built,execOp,Sem.run_bind,run_build]
def aJ {R S T:Type} (x:Option (Out R S)) (kr:R->Option T) (k:S->Option T):Option T:=
 match x with
 | some (.brk s)=>k s
 | some (.ret r)=>kr r
 | _=>none
theorem Q4 {R S T:Type} {x:Option (Out R S)} {b:R->Option T} {k:S->Option T} {t:T} (h:aJ x b k=some t): ∃o,x=some o/\((∃s,o= .brk s/\k s=some t)\/ ∃r,o= .ret r/\b r=some t):=by
 unfold aJ at h;grind
def Ni {S T:Type} (x:Option (T ⊕ S)) (k:S->Option T):Option T:=
 match x with
 | some (.inr s)=>k s
 | some (.inl t)=>some t
 | none=>none
theorem Ht {S T:Type} {x:Option (T ⊕ S)} {k:S->Option T} {t:T} (h:Ni x k=some t): ∃o,x=some o/\((∃s,o= .inr s/\k s=some t)\/o= .inl t):=by
 unfold Ni at h;grind
def vg:Value->List Nat->Value
 | v,[] =>v
 | .tuple vs,i::l=>vg (vs.getD i undef) l
 | .agg cs,i::l=>vg (cs.getD i undef) l
 | .func _ _ cs,i::l=>vg (cs.getD i undef) l
 | _,_::_=>undef
theorem St.nil {α:Type} {R:Rep α} {E:TypeId} (h:St I w0 w cs):St I w0 w (Ch.own (ah E R) [.slice none 0 0] ([] :List α)::cs):=
 h.free ⟨by simp,.inl ⟨rfl,rfl,rfl⟩⟩
theorem one_cell {α:Type} {R:Rep α} {c:List Value} {x:α} (h:R.rd I c x) (hs:R.size=1): ∃v,c= [v]:=List.length_eq_one_iff.1 ((R.rd_len h).trans hs)
theorem aao {α:Type} {R:Rep α} {E:TypeId} :(ah E R).rd I [.slice none 0 0] ([] :List α):=⟨none,0,rfl,by simp,.inl rfl⟩
theorem OwnEls.stay' {α:Type} {R:Rep α} (c:R.Sh) (b:Cpy R R): ∀ {xs:List α} {cur:List Value},OwnEls R I w cur xs [] ->OwnEls R I w' cur xs []
 | [],_,h=>h
 | x::xs,cur,⟨d,rest,G,K,h1,h2,h3,h4,h5⟩=>by
  have e:K= []:=by simp at h3;exact h3.2
  subst e;exact ⟨d,rest,[],[],h1,h2,rfl,b (c h4).2,h5.stay' c b⟩
def Upd {α β:Type} (R:Rep α) (off:Nat) (S:Rep β) (u:α->β->α):Prop:= ∀I c x d y,R.rd I c x->S.rd I d y->R.rd I (spl c off d) (u x y)
theorem Hu: ∀(d c:List Value) (off:Nat),off+d.length<=c.length->spl c off d=c.take off++d++c.drop (off+d.length)
 | [],c,off,h=>by simp[spl]
 | v::d,c,off,h=>by
  rw[aM] at h;rw[spl,Hu d _ _ (by grind)];have b:(c.set off v).take (off+1)=c.take off++ [v]:=by
   rw[List.take_add_one,List.take_set_of_le (aH _),List.getElem?_set_self (by omega)];rfl
  grind[List.drop_set_of_lt,aM]
theorem Upd.self {α:Type} {R:Rep α} :Upd R 0 R (fun _ y=>y):=by
 intro I c x d y h k;rw[Hu _ _ _ (by rw[R.rd_len h,R.rd_len k];omega),R.rd_len k,<-R.rd_len h];grind
theorem ze: ∀(d c e:List Value) (off:Nat),off+d.length<=c.length->spl (c++e) off d=spl c off d++e
 | [],c,e,off,h=>rfl
 | v::d,c,e,off,h=>by
  rw[aM] at h;rw[spl,spl,List.set_append_left _ _ (by omega),ze d _ e _ (by grind)]
theorem sx: ∀(d c e:List Value) (off:Nat),spl (c++e) (c.length+off) d=c++spl e off d
 | [],c,e,off=>rfl
 | v::d,c,e,off=>by
  rw[spl,spl,List.set_append_right _ _ (by omega),Nat.add_sub_cancel_left,show c.length+off+1=c.length+(off+1) from by omega,sx d]
theorem Po {d c:List Value} {o off:Nat} (h:o<=c.length):(spl c (o+off) d).drop o=spl (c.drop o) off d:=by
 have:=sx d (c.take o) (c.drop o) off
 simp_all
theorem Upd.fst {α β γ:Type} {A:Rep α} {B:Rep β} {S:Rep γ} {off:Nat} {u:α->γ->α} (hs:off+S.size<=A.size) (h:Upd A off S u):Upd (aL A B) off S (fun x y=>(u x.1 y,x.2)):=by
 rintro I c x d y ⟨e,f,rfl,b,g⟩ k;rw[ze _ _ _ _ (by rw[A.rd_len b,S.rd_len k];exact hs)];exact ⟨_,f,rfl,h I e x.1 d y b k,g⟩
theorem Upd.snd {α β γ:Type} {A:Rep α} {B:Rep β} {S:Rep γ} {off:Nat} {u:β->γ->β} (h:Upd B off S u):Upd (aL A B) (A.size+off) S (fun x y=>(x.1,u x.2 y)):=by
 rintro I c x d y ⟨e,f,rfl,b,g⟩ k;rw[<-A.rd_len b,sx];exact ⟨e,_,rfl,b,h I f x.2 d y g k⟩
theorem OwnEls.set {α:Type} {R:Rep α} (l:R.Sh) (f:Cpy R R) {c:List Value} {y:α} (i:R.rd I c y): ∀ {xs:List α} {cur b:List Value} {k:Nat},OwnEls R I w cur xs [] ->k<xs.length->b.length=cur.length->(∀j,j<R.size->b[k*R.size+j]? =c[j]?)->(∀j,j<k*R.size\/k*R.size+R.size<=j->b[j]? =cur[j]?)->OwnEls R I w' b (xs.set k y) []
 | [],_,_,k,_,hk,_,_,_=>by rfl
 | x::xs,cur,b,0,⟨d,rest,G,K,h1,h2,h3,h4,h5⟩,hk,hl,h6,h7=>by
  have h:K= []:=by simp at h3;exact h3.2
  subst h;subst h1;have g:=R.rd_len i;refine ⟨c,b.drop R.size,[],[],?_,g,rfl,f i,?_⟩
  ·apply List.ext_getElem?;grind
  ·have e:b.drop R.size=rest:=by
    apply List.ext_getElem?;intro j;rw[List.getElem?_drop,h7 _ (.inr (by omega)),List.getElem?_append_right (by omega)];congr 1;omega
   rw[e];exact h5.stay' l f
 | x::xs,cur,b,k+1,⟨d,rest,G,K,h1,h2,h3,h4,h5⟩,hk,hl,h6,h7=>by
  have h:K= []:=by simp at h3;exact h3.2
  subst h;subst h1;have p:(k+1)*R.size=k*R.size+R.size:=by grind
  refine ⟨d,b.drop R.size,[],[],?_,h2,rfl,f (l h4).2,?_⟩
  ·apply List.ext_getElem?;grind
  ·refine OwnEls.set l f i (cur:=rest) h5 (by simpa using hk) ?_ (fun j m=>?_) (fun j m=>?_)
   ·rw[bF,hl,aF];omega
   ·rw[List.getElem?_drop,<-h6 j m];congr 1;omega
   ·rw[List.getElem?_drop,h7 _ (by omega),List.getElem?_append_right (by omega)];congr 1;omega
theorem S4 {c d:List Value} {off j:Nat} (h:off+d.length<=c.length):(spl c off d)[j]? =if off<=j/\j<off+d.length then d[j - off]? else c[j]? :=by
 grind[Hu,aB]
theorem KU {α β:Type} {E T:TypeId} {R:Rep α} {S:Rep β} {agg:Bool} {n k off:Nat} {f:α->β->α} {x y:Operand} {v u:Value} {xs:List α} {a:α} {b:β} {i:Int} {d:List Value} (X:R.Sh) (hc:Cpy R R) (ha:aK xs i=some a) (hU:Upd R off S f) (hT:TI P T agg n) (ho:o.op= .store T x y) (hx:ev x=pt v (i.toNat*k+off)) (hy:ev y=u) (hu:u.cells=d.toArray) (h1:d.all (·.oneCell')=true) (hd:d.length=n) (Y:R.size=k) (hS:off+n<=k) (q:S.rd I d b) :
  OpT P I w0 o ev [Ch.own (ah E R) [v] xs] (fun _=>True) (fun _=>[Ch.own (ah E R) [v] (xs.set i.toNat (f a b))]):=by
 intro w C hs;have U:=yh ha;have O:=(List.getElem?_eq_some_iff.1 U).1;obtain ⟨p,hi,F,⟨G,K,rfl,⟨hl,e2⟩,e3⟩,m,hI⟩:=hs;rcases e2 with ⟨hv,rfl,rfl⟩ | ⟨g,l,cap,cur,K1,hv,N,k2,k3,k4,rfl,t⟩
 ·grind
 obtain rfl:v= .slice (some ⟨g,l,none⟩) xs.length cap:=by grind
 have:=t.sh X
 subst this;have ⟨c,c1,c2,c3⟩:=t.at Hp.le.rfl (by simp) i.toNat a U;have W:l+(i.toNat*k+k)<=cur.size:=by
  have B:=k4;rw[Y] at B
  have:(i.toNat+1)*k<=cap*k:=Nat.mul_le_mul_right _ (by omega)
  rw[Nat.add_mul,Nat.one_mul] at this;omega
 have hln:cur.toList.length=cur.size:=Array.length_toList;have Z:(cur.toList.drop l).length=cur.size - l:=by grind
 have hr:=Pi (P:=P) (w:=w) hT (g:=g) (o:=l+(i.toNat*k+off)) hu hd (fun j z=>by
  simp[World.cell?,N,Option.isSome_none,Bool.false_eq_true,ite_false];grind) (fun j=>by simp[World.frozen?,N]) (fun v hv=>List.all_eq_true.1 h1 v hv)
 simp only[execOp,ho,hx,hy,pt,ptB,ptO,Sem.run_bind,hr,Result.andThen_ok];refine ⟨trivial,?_⟩;have D: ∀(d:List Value) (o:Nat) (w:World),(rU w g o d).os=w.os/\(rU w g o d).tape=w.tape/\(rU w g o d).output=w.output/\(rU w g o d).heap.size=w.heap.size/\ ∀b,b≠g->(rU w g o d).heap[b]? =w.heap[b]? :=by
  intro d;induction d with
  | nil=>intro o w;exact ⟨rfl,rfl,rfl,rfl,fun _ _=>rfl⟩
  | cons v d ih =>
   intro o w;have ⟨i1,i2,i3,i4,i5⟩:=ih (o+1) (w.setCell ⟨g,o,none⟩ v);exact ⟨i1,i2,i3,i4.trans (by simp_all),fun b q=>(i5 b q).trans (Below.heap_setCell _ _ _ _ q)⟩
 have r: ∀(d:List Value) (o:Nat) (w:World) (cur:Array Value),w.heap[g]? =some (.cells cur E (0,0))->(rU w g o d).heap[g]? =some (.cells (spl cur.toList o d).toArray E (0,0)):=by
  intro d;induction d with
  | nil=>simp_all[rU,spl]
  | cons v d ih =>
   intro o w cur h
   have:=ih (o+1) (w.setCell ⟨g,o,none⟩ v) (cur.setIfInBounds o v) (gH h)
   rw[Array.toList_setIfInBounds] at this;exact this
 have ⟨q1,q2,q3,q4,V⟩:=D d (l+(i.toNat*k+off)) w;have H:g∉K:=by rw[List.cons_append] at m;simpa using (List.nodup_cons.1 m).1
 have hcl:c.length=k:=by omega
 have s:=hU I c a d b c3 q;refine ⟨⟨q1.trans p.1,q2.trans p.2.1,q3.trans p.2.2.1,by omega⟩,fun b o M=>?_,[g] ++K,⟨[g],K,rfl,⟨by grind,.inr ⟨g,l,cap,_,[],by grind,r d _ w cur N,by grind,k3,by grind[List.size_toArray,AQ],rfl,?_⟩⟩,e3.stay fun b q=>V b fun e=>H (e ▸ q)⟩,m,hI⟩
 ·show (rU w g (l+(i.toNat*k+off)) d).heap[b]? =some o;rw[V b fun e=>by grind];exact hi b o M
 ·have A: ∀j,(spl (cur.toList.drop l) (i.toNat*k+off) d)[j]? =if i.toNat*k+off<=j/\j<i.toNat*k+off+d.length then d[j - (i.toNat*k+off)]? else (cur.toList.drop l)[j]? :=fun j=>S4 (by omega);rw[Po (by omega)];refine OwnEls.set (w:=w) X hc s (cur:=cur.toList.drop l) t O (by rw[AQ]) (fun j z=>?_) (fun j z=>?_)
  ·rw[Y] at z⊢;rw[A,S4 (by omega)];by_cases h:off<=j/\j<off+d.length
   ·rw[if_pos h,if_pos (by omega)];congr 1;omega
   grind
  grind
def mkI {α:Type} (b:Nat) (n:Int) (z:α):Option (List α):=if 0<=n/\n.toNat*b<=140737488355328 then some (List.replicate n.toNat z) else none
theorem ab1 {α:Type} {E T:TypeId} {R:Rep α} {z:Value} {n b:Nat} {x y:Operand} {s u:Value} {xs ys zs:List α} (h:cr b xs ys=some zs) (l:P.underlying T=some (.slice E)) (f:TZ P E z n b) (c:z.cells.size=n) (j:0<n) (m:R.size=n) (d:1<=b) (i:o.op= .call { callee:=.builtin .append,args:= #[x,y],argTypes:= #[T,T] }) (k:ev x=s) (e:ev y=u) :
  OpT P I w0 o ev [Ch.own (ah E R) [s] xs,Ch.own (ah E R) [u] ys] (fun _=>True) (fun v=>[Ch.own (ah E R) [v] zs]):=by
 obtain ⟨rfl,g⟩:=zb h;grind[Q3]
theorem yi {α:Type} {E T E':TypeId} {R S:Rep α} {z:Value} {n b:Nat} {x y:Operand} {s u:Value} {xs ys zs:List α} (h:cr b xs ys=some zs) (k:Cpy S R) (e:S.size=n) (r:(ah E' S).rd I [u] ys) (p:P.underlying T=some (.slice E)) (g:TZ P E z n b) (c:z.cells.size=n) (l:0<n) (q:R.size=n) (d:1<=b) (j:o.op= .call { callee:=.builtin .append,args:= #[x,y],argTypes:= #[T,T] }) (m:ev x=s) (f:ev y=u) :
  OpT P I w0 o ev [Ch.own (ah E R) [s] xs] (fun _=>True) (fun v=>[Ch.own (ah E R) [v] zs]):=by
 obtain ⟨rfl,i⟩:=zb h;grind[Gs]
theorem KV {α:Type} {E T:TypeId} {R:Rep α} {z:Value} {n b:Nat} {x y:Operand} {s u:Value} {xs ys zs:List α} (h:cr b xs ys=some zs) (d:R.Sh) (k:Cpy R R) (p:P.underlying T=some (.slice E)) (i:TZ P E z n b) (c:z.cells.size=n) (l:0<n) (q:R.size=n) (e:1<=b) (j:o.op= .call { callee:=.builtin .append,args:= #[x,y],argTypes:= #[T,T] }) (m:ev x=s) (f:ev y=u) :
  OpT P I w0 o ev [Ch.own (ah E R) [s] xs,Ch.own (ah E R) [u] ys] (fun _=>True) (fun v=>[Ch.own (ah E R) [v] zs,Ch.own (ah E R) [u] ys]):=by
 obtain ⟨rfl,g⟩:=zb h;grind[DC]
theorem Nj {v:Value} (h:ag3 v):v= .pointer (some ⟨bk v,0,none⟩):=by obtain ⟨g,rfl⟩:=h;rfl
theorem OpT.hdk {rn:List Ch} {fact:Value->Prop} {gv:Value->List Ch} {α:Type} {E:TypeId} {R:Rep α} {xs:List α} (u:Value->Value) (k:Nat) (c: ∀v,(gv v)[k]? =some (Ch.own (ah E R) [u v] xs)) (h:OpT P I w0 o ev rn fact gv):OpT P I w0 o ev rn (fun v=>fact v/\Hd (u v) xs.length) gv:=by
 intro w C d;refine (h w C d).imp fun v w hv=>⟨⟨hv.1,?_⟩,hv.2⟩
 have b:=(List.getElem?_eq_some_iff.1 (c v)).1;exact (hv.2.hd k (by rw[List.getElem?_append_left b];exact c v)).1
theorem Q5 {ops:Array Oper} {rest:List Oper} {g d:Nat} {want:Bool} (b:Agr n a L) (hs:St I w0 w C) (c:o.guard=some (g,want)) (i:((ops[g]?).bind (·.dst))=some d) (hv:L.lookup d=some undef) (e:dstOk n o.dst=true)
  (k: ∀a,Agr n a (Xa o.dst undef L)->wpList P ops Q rest a w):wpList P ops Q (o::rest) a w:=by
 refine wpList_skip ?_ (k _ (b.put undef e));have h:=b.2.2 d _ hv;unfold Region.wanted yielded;rw[c];simp only;rw[i];simp only[aa];rw[Array.getD_eq_getD_getElem?] at h;cases f:a.tmps[d]? with
 | none=>rfl
 | some u =>
  rw[f] at h;simp[Option.getD_some] at h;rw[h];rfl
theorem ab2 {x y:Operand} {t u:TypeId} {a b:ByteArray} (c:o.op= .binOp .eql t x y u) (d:ev x= .string a) (e:ev y= .string b):OpT P I w0 o ev [] (· = .bool (a==b)) (fun _=>[]):=
 bt fun w=>by rw[beq_toListBytes];simp[execOp,c,d,e];rfl
theorem ab3 {x y:Operand} {t u:TypeId} {a b:ByteArray} (c:o.op= .binOp .neq t x y u) (d:ev x= .string a) (e:ev y= .string b):OpT P I w0 o ev [] (· = .bool (a !=b)) (fun _=>[]):=
 bt fun w=>by unfold bne;rw[beq_toListBytes];simp[execOp,c,d,e];rfl
def EqT (P:Program) (t:TypeId) (x y:Value) (b:Bool) (w:World):Prop:=(Op.equal t x y).run P w= .ok b w/\(eqGuard .eql t (.const x) (.const y) x y).run P w= .ok () w/\(eqGuard .neq t (.const x) (.const y) x y).run P w= .ok () w
theorem ab4 {x y:Operand} {t u:TypeId} {e d:Array Value} {b:Bool} (h: ∀w,EqT P t (.agg e) (.agg d) b w) (k:o.op= .binOp .eql t x y u) (m:ev x= .agg e) (g:ev y= .agg d) {c:Bool} (l:b=c):OpT P I w0 o ev [] (· = .bool c) (fun _=>[]):=
 bt fun w=>by
  have ⟨f,p,i⟩:=h w;have j:binOp .eql t (.agg e) (.agg d)=(do pure (.bool (<-Op.equal t (.agg e) (.agg d)))):=rfl;simp_all[eqGuard,execOp,Sem.run_bind,Sem.run_pure,Result.andThen_ok]
theorem ab5 {x y:Operand} {t u:TypeId} {e d:Array Value} {b:Bool} (h: ∀w,EqT P t (.agg e) (.agg d) b w) (k:o.op= .binOp .neq t x y u) (m:ev x= .agg e) (g:ev y= .agg d) {c:Bool} (l:(!b)=c):OpT P I w0 o ev [] (· = .bool c) (fun _=>[]):=
 bt fun w=>by
  have ⟨f,p,i⟩:=h w;have j:binOp .neq t (.agg e) (.agg d)=(do pure (.bool (!(<-Op.equal t (.agg e) (.agg d))))):=rfl;simp_all[eqGuard,execOp,Sem.run_bind,Sem.run_pure,Result.andThen_ok]
theorem S5 {d:Nat} {xs ys:Array Value} (w:World):(Op.eqFields d xs ys []).run P w= .ok true w:=rfl
theorem wF {d:Nat} {xs ys:Array Value} {f:Field} {fs:List Field} {e b:Value} {r c:Bool} {w:World} (j:(f.name != "_")=true) (g:(part f.type xs f.offset).run P w= .ok e w) (h:(part f.type ys f.offset).run P w= .ok b w) (i:(Op.equalIn d f.type e b).run P w= .ok r w) (k:(Op.eqFields d xs ys fs).run P w= .ok c w):(Op.eqFields d xs ys (f::fs)).run P w= .ok (r&&c) w:=by
 rw[Op.eqFields,if_pos (by grind)];simp[Sem.run_bind,g,h,i,Result.andThen_ok];cases r
 ·rfl
 grind
theorem ue {T:TypeId} {cs:Array Value} {off:Nat} {v:Value} {w:World} (b:TI P T false 1) (h:cs[off]? =some v):(part T cs off).run P w= .ok v w:=by
 unfold part;rw[Sem.run_bind,b.run_agg];simp_all
theorem aap {t:TypeId} {fs:Array Field} {xs ys:Array Value} {b:Bool} (w:World) (d:P.underlying t=some (.struct fs)) (hp:P.stoodInHeld t=false) (c:P.eqGuardType P.depth t=false) (h:(Op.eqFields 9999 xs ys fs.toList).run P w= .ok b w):EqT P t (.agg xs) (.agg ys) b w:=by
 have e:P.fieldsOf t=fs:=by unfold Program.fieldsOf;rw[d]
 refine ⟨?_,run_eqGuard_agg w _ _ _ _ _ _ c,run_eqGuard_agg w _ _ _ _ _ _ c⟩;grind[Op.equal,Op.maxDepth,run_equalIn_agg]
end
section
variable {P:Program} {I J:Hp} {w0 w w':World} {cs C:List Ch} {n:Nat} {a:Act} {L L':List (Nat×Value)} {o:Oper} {ev:Operand->Value}
end
def Bun (I:Hp) (ls:List Ch) {α:Type} (R:Rep α) (cs:List Value) (x:α):Prop:= ∀w F,Sep I ls w F->R.own I w cs x F
section
variable {P:Program} {I J:Hp} {w0 w w':World} {cs C:List Ch} {n:Nat} {a:Act} {L L':List (Nat×Value)} {o:Oper} {ev:Operand->Value}
theorem S6 {α:Type} {R:Rep α} {c:List Value} {x:α} :Bun I [Ch.own R c x] R c x:=by
 rintro w F ⟨G,K,rfl,b,rfl⟩;rw[List.append_nil];exact b
theorem ab6 {α:Type} {E:TypeId} {R:Rep α} :Bun I [] (ah E R) [.slice none 0 0] []:=fun w F h=>⟨Nat.zero_le _,.inl ⟨rfl,rfl,h⟩⟩
theorem aeQ {α:Type} {R:Rep α} {c:List Value} {x:α} (h:R.rd I c x):Bun I [] (CF R) c x:=fun w F k=>⟨k,h⟩
theorem Xs {α β:Type} {R:Rep α} {S:Rep β} {l m:List Ch} {c d:List Value} {x:α} {y:β} (h:Bun I l R c x) (k:Bun I m S d y):Bun I (l++m) (aL R S) (c++d) (x,y):=by
 intro w F b;obtain ⟨G,K,rfl,e,f⟩:=b.split;exact ⟨c,d,G,K,rfl,rfl,h w G e,k w K f⟩
def vd (I:Hp) (l m:List Ch):Prop:= ∀w F,Sep I l w F->Sep I m w F
theorem zf:vd I [] []:=fun _ _ h=>h
theorem ve {α:Type} {R:Rep α} {l m b:List Ch} {c:List Value} {x:α} (h:Bun I l R c x) (k:vd I m b):vd I (l++m) (Ch.own R c x::b):=by
 intro w F d;obtain ⟨G,K,rfl,e,f⟩:=d.split;exact ⟨G,K,rfl,h w G e,k w K f⟩
theorem OpT.pre {c ls b:List Ch} {fact:Value->Prop} {gv:Value->List Ch} (k:vd I c b) (e:c=ls) (h:OpT P I w0 o ev b fact gv):OpT P I w0 o ev ls fact gv:=by
 subst e;intro w C j;refine h w C ?_;have ⟨f,p,F,g,d,m⟩:=j;obtain ⟨G,K,rfl,i,l⟩:=g.split;exact ⟨f,p,G++K,(k w G i).append l,d,m⟩
def UpdO {α β:Type} (R:Rep α) (off:Nat) (S:Rep β) (u:α->β->α):Prop:= ∀I w c x G d y K,R.own I w c x G->S.own I w d y K-> ∃G' D,R.own I w (spl c off d) (u x y) G'/\(G'++D).Perm (G++K)
theorem UpdO.self {α:Type} {R:Rep α} :UpdO R 0 R (fun _ y=>y):=by
 intro I w c x G d y K h k;rw[Hu _ _ _ (by rw[R.own_len h,R.own_len k];omega),R.own_len k,<-R.own_len h];grind[List.perm_append_comm]
theorem UpdO.fst {α β γ:Type} {A:Rep α} {B:Rep β} {S:Rep γ} {off:Nat} {u:α->γ->α} (hs:off+S.size<=A.size) (h:UpdO A off S u):UpdO (aL A B) off S (fun x y=>(u x.1 y,x.2)):=by
 rintro I w c x F d y K ⟨l,i,j,b,rfl,rfl,e,m⟩ k;rw[ze _ _ _ _ (by rw[A.own_len e,S.own_len k];exact hs)];have ⟨f,D,g,p⟩:=h I w l x.1 j d y K e k;refine ⟨f++b,D,⟨_,i,f,b,rfl,rfl,g,m⟩,?_⟩;grind[aD,List.Perm.append_left,List.perm_append_comm,trans]
theorem UpdO.snd {α β γ:Type} {A:Rep α} {B:Rep β} {S:Rep γ} {off:Nat} {u:β->γ->β} (h:UpdO B off S u):UpdO (aL A B) (A.size+off) S (fun x y=>(x.1,u x.2 y)):=by
 rintro I w c x F d y K ⟨l,j,f,g,rfl,rfl,b,m⟩ k;rw[<-A.own_len b,sx];have ⟨e,D,i,p⟩:=h I w j x.2 g d y K m k;refine ⟨f++e,D,⟨l,_,f,e,rfl,rfl,b,i⟩,?_⟩;grind
theorem OwnEls.setO {α β:Type} {R:Rep α} {S:Rep β} {off:Nat} {f:α->β->α} (m:UpdO R off S f) {d:List Value} {y:β} {i:List Nat} (h:S.own I w d y i) (g:off+S.size<=R.size) :
  ∀ {xs:List α} {cur:List Value} {F:List Nat} {k:Nat} {x:α},OwnEls R I w cur xs F->xs[k]? =some x-> ∃b D,OwnEls R I w (spl cur (k*R.size+off) d) (xs.set k (f x y)) b/\(b++D).Perm (F++i)
 | [],_,_,k,_,_,hk=>by grind
 | z::xs,cur,F,0,x,⟨c,rest,G,K,h1,h2,h3,h4,h5⟩,hk=>by
  simp at hk;subst hk;subst h1;have ⟨l,D,j,p⟩:=m I w c z G d y i h4 h;rw[Nat.zero_mul,Nat.zero_add,ze _ _ _ _ (by rw[h2,S.own_len h];omega)];refine ⟨l++K,D,⟨_,rest,l,K,rfl,by rw[AQ];exact h2,rfl,j,h5⟩,?_⟩;grind[aD,List.Perm.append_left,List.perm_append_comm,trans]
 | z::xs,cur,F,k+1,x,⟨c,rest,G,K,h1,h2,h3,h4,h5⟩,hk=>by
  subst h1;obtain ⟨b,D,j,p⟩:=OwnEls.setO m h g h5 (k:=k) (by simpa using hk);have e:(k+1)*R.size+off=c.length+(k*R.size+off):=by rw[h2,Nat.add_mul,Nat.one_mul];omega
  rw[e,sx];refine ⟨G++b,D,⟨c,_,G,b,rfl,h2,rfl,h4,j⟩,?_⟩;grind
theorem IG {α β:Type} {E T:TypeId} {R:Rep α} {S:Rep β} {ls:List Ch} {agg:Bool} {n k off:Nat} {f:α->β->α} {x y:Operand} {v u:Value} {xs:List α} {a:α} {b:β} {i:Int} {d:List Value} (hB:Bun I ls S d b) (ha:aK xs i=some a) (hU:UpdO R off S f) (hT:TI P T agg n) (ho:o.op= .store T x y) (hx:ev x=pt v (i.toNat*k+off)) (hy:ev y=u) (hu:u.cells=d.toArray) (h1:d.all (·.oneCell')=true) (hd:d.length=n) (hSn:S.size=n) (hk:R.size=k) (hS:off+n<=k) :
  OpT P I w0 o ev (Ch.own (ah E R) [v] xs::ls) (fun _=>True) (fun _=>[Ch.own (ah E R) [v] (xs.set i.toNat (f a b))]):=by
 intro w C hs;have X:=yh ha;have hlt:=(List.getElem?_eq_some_iff.1 X).1;obtain ⟨s,hi,F,⟨G,K,rfl,⟨hl,e2⟩,e3⟩,H,hI⟩:=hs;obtain ⟨Q,p,rfl,e4,e5⟩:=Sep.split e3;rcases e2 with ⟨hv,rfl,rfl⟩ | ⟨g,c,cap,cur,Y,hv,V,k2,k3,k4,rfl,k5⟩
 ·grind
 obtain rfl:v= .slice (some ⟨g,c,none⟩) xs.length cap:=by grind
 have Z:c+(i.toNat*k+k)<=cur.size:=by
  have M:=k4;rw[hk] at M
  have:(i.toNat+1)*k<=cap*k:=Nat.mul_le_mul_right _ (by omega)
  rw[Nat.add_mul,Nat.one_mul] at this;omega
 have hln:cur.toList.length=cur.size:=Array.length_toList;have hr:=Pi (P:=P) (w:=w) hT (g:=g) (o:=c+(i.toNat*k+off)) hu hd (fun j hj=>by
  simp[World.cell?,V,Option.isSome_none,Bool.false_eq_true,ite_false];grind) (fun j=>by simp[World.frozen?,V]) (fun v hv=>List.all_eq_true.1 h1 v hv)
 simp only[execOp,ho,hx,hy,pt,ptB,ptO,Sem.run_bind,hr,Result.andThen_ok];refine ⟨trivial,?_⟩;have O: ∀(d:List Value) (o:Nat) (w:World),(rU w g o d).os=w.os/\(rU w g o d).tape=w.tape/\(rU w g o d).output=w.output/\(rU w g o d).heap.size=w.heap.size/\ ∀b,b≠g->(rU w g o d).heap[b]? =w.heap[b]? :=by
  intro d;induction d with
  | nil=>intro o w;exact ⟨rfl,rfl,rfl,rfl,fun _ _=>rfl⟩
  | cons v d ih =>
   intro o w;have ⟨i1,i2,i3,i4,i5⟩:=ih (o+1) (w.setCell ⟨g,o,none⟩ v);exact ⟨i1,i2,i3,i4.trans (by simp_all),fun b m=>(i5 b m).trans (Below.heap_setCell _ _ _ _ m)⟩
 have A: ∀(d:List Value) (o:Nat) (w:World) (cur:Array Value),w.heap[g]? =some (.cells cur E (0,0))->(rU w g o d).heap[g]? =some (.cells (spl cur.toList o d).toArray E (0,0)):=by
  intro d;induction d with
  | nil=>simp_all[rU,spl]
  | cons v d ih =>
   intro o w cur h
   have:=ih (o+1) (w.setCell ⟨g,o,none⟩ v) (cur.setIfInBounds o v) (gH h)
   rw[Array.toList_setIfInBounds] at this;exact this
 have ⟨q1,q2,q3,q4,N⟩:=O d (c+(i.toNat*k+off)) w;have ⟨r,D,W,z2⟩:=OwnEls.setO hU (hB w Q e4) (by omega) k5 X;have l:((g::r++p)++D).Perm ((g::Y)++(Q++p)):=by
  have p1:((r++p)++D).Perm ((r++D)++p):=by
   rw[aD,aD];exact List.Perm.append_left _ List.perm_append_comm
  have p2:=p1.trans (z2.append_right p);simpa using p2
 have t:=(l.nodup_iff).2 H;have z: ∀b,b∈g::r++p->b∈(g::Y)++(Q++p):=fun b m=>l.mem_iff.1 (bq _ m);have q:=(List.nodup_append.1 t).1;have B:=(List.nodup_cons.1 (show (g::(r++p)).Nodup from q)).1;refine ⟨⟨q1.trans s.1,q2.trans s.2.1,q3.trans s.2.2.1,by omega⟩,fun b o U=>?_,(g::r)++p,⟨g::r,p,rfl,⟨by grind,.inr ⟨g,c,cap,_,r,by grind,A d _ w cur V,by grind,k3,by grind[List.size_toArray,AQ],rfl,?_⟩⟩,e5.stay fun b m=>N b fun e=>B (bw _ (e ▸ m))⟩,q,fun b m=>hI b (z b m)⟩
 ·show (rU w g (c+(i.toNat*k+off)) d).heap[b]? =some o;rw[N b fun e=>by grind];exact hi b o U
 ·rw[hk] at W;rw[Po (by omega)];exact OwnEls.stay W fun b m=>N b fun e=>B (bq _ (e ▸ m))
def Zro {α:Type} (R:Rep α) (cs:List Value) (z:α):Prop:= ∀(I:Hp) (w:World),R.own I w cs z []
theorem Db {α:Type} {enc:α->Value} {h1: ∀a,(enc a).oneCell'=true} {x:α} :Zro (nA α enc h1) [enc x] x:=fun I w=>⟨rfl,rfl⟩
theorem ab7 {α:Type} {E:TypeId} {R:Rep α} :Zro (ah E R) [.slice none 0 0] []:=fun I w=>⟨Nat.zero_le _,.inl ⟨rfl,rfl,rfl⟩⟩
theorem Xt {α β:Type} {R:Rep α} {S:Rep β} {c d:List Value} {x:α} {y:β} (h:Zro R c x) (k:Zro S d y):Zro (aL R S) (c++d) (x,y):=fun I w=>⟨c,d,[],[],rfl,rfl,h I w,k I w⟩
theorem ab8 {α:Type} {R:Rep α} {c:List Value} {x:α} (h: ∀I,R.rd I c x):Zro (CF R) c x:=fun I w=>⟨rfl,h I⟩
theorem aeR {α:Type} {E T:TypeId} {R:Rep α} {c:Value} {n b:Nat} {x y:Operand} {l:Int} {z:α} {xs:List α} (u:Zro R c.cells.toList z) (Q:P.underlying T=some (.slice E)) (H:TZ P E c n b) (N:o.op= .makeSlice T x y) (V:R.size=n) (hn:0<n) (M:1<=b) (O:ev x= .int .i64 l) (D:ev y= .int .i64 l) (h:mkI b l z=some xs):OpT P I w0 o ev [] (fun _=>True) (fun v=>[Ch.own (ah E R) [v] xs]):=by
 intro w C X;unfold mkI at h;split at h
 ·rename_i t;have ⟨i,hi,f,k,Y⟩:=info_parts H;have d:c.cells.size=n:=by have:=R.own_len (u I w);rw[Array.length_toList,V] at this;exact this
  have B:=Nat.le_trans (Nat.le_mul_of_pos_right _ M) t.2;have A:=run_make (P:=P) w T E i c Q hi f .i64 .i64 l l t.1 (Int.le_refl _) (by grind) (by omega);rw[k] at A;simp only[execOp,N,O,D,Sem.run_bind,A,Result.andThen_ok];refine ⟨trivial,?_⟩;have g:=X.alloc (madeCells c.cells (l.toNat*n)).toList E;obtain ⟨q,r,F,⟨G,K,rfl,⟨rfl,Z⟩,p⟩,S,U⟩:=g;refine ⟨q,r,[w.heap.size] ++K,⟨[w.heap.size],K,rfl,⟨by grind[List.length_replicate,lim],.inr ⟨w.heap.size,0,l.toNat,_,[],by grind,Z,by grind,by unfold maxLen;omega,by grind[madeCells],rfl,?_⟩⟩,p⟩,S,U⟩;have key: ∀(W:World) (m:Nat),OwnEls R I W (madeCells c.cells (m*n)).toList (List.replicate m z) []:=by
   intro W m;induction m with
   | zero=>rfl
   | succ m ih =>
    refine ⟨c.cells.toList,(madeCells c.cells (m*n)).toList,[],[],?_,by grind,rfl,u I W,ih⟩;apply List.ext_getElem?;intro j;by_cases hj:j<n
    ·grind[madeCells,Nat.mod_eq_of_lt]
    ·rw[List.getElem?_append_right (by grind),Array.length_toList,d];by_cases e:j<(m+1)*n
     ·have s:j - n<m*n:=by rw[Nat.add_mul,Nat.one_mul] at e;omega
      simp[madeCells,e,s,d,Array.getElem?_range]
      conv=>lhs;rw[show j=(j - n)+n from by omega,Nat.add_mod_right]
     ·have s: ¬j - n<m*n:=by rw[Nat.add_mul,Nat.one_mul] at e;omega
      simp[madeCells,e,s]
  grind
 grind
end
section
variable {P:Program} {I J:Hp} {w0 w w':World} {cs C:List Ch} {n:Nat} {a:Act} {L L':List (Nat×Value)} {o:Oper} {ev:Operand->Value}
theorem OwnEls.cut2 {α:Type} {R:Rep α} : ∀ {ys zs:List α} {cur:List Value} {F:List Nat},OwnEls R I w cur (ys++zs) F-> ∃b f d e,cur=b++f/\b.length=ys.length*R.size/\F=d++e/\OwnEls R I w b ys d/\OwnEls R I w f zs e
 | [],zs,cur,F,h=>⟨[],cur,[],F,rfl,by simp,rfl,rfl,h⟩
 | y::ys,zs,cur,F,⟨c,rest,G,K,h1,h2,h3,h4,h5⟩=>by
  obtain ⟨b,f,d,e,rfl,g,rfl,j,i⟩:=OwnEls.cut2 (ys:=ys) h5;exact ⟨c++b,f,G++d,e,by rw[h1,aD],by rw[aF,h2,g,aM,Nat.add_mul,Nat.one_mul,Nat.add_comm],by rw[h3,aD],⟨c,b,G,d,rfl,h2,rfl,h4,j⟩,i⟩
theorem OwnEls.glue {α:Type} {R:Rep α} : ∀ {ys zs:List α} {e b:List Value} {d K2:List Nat},e.length=ys.length*R.size->OwnEls R I w e ys d->OwnEls R I w b zs K2->OwnEls R I w (e++b) (ys++zs) (d++K2)
 | [],zs,e,b,d,K2,hl,h1,h2=>by
  rw[aZ,Nat.zero_mul,List.length_eq_zero_iff] at hl;rw[hl,show d= [] from h1];exact h2
 | y::ys,zs,cur,b,F,K2,hl,⟨c,rest,G,K,h1,h2,h3,h4,h5⟩,h=>by
  subst h1;subst h3;rw[aF,h2,aM,Nat.add_mul,Nat.one_mul] at hl;exact ⟨c,rest++b,G,K++K2,by rw[aD],h2,by rw[aD],h4,h5.glue (by omega) h⟩
end
def Reads {κ ε:Type} [DecidableEq κ] (lit:κ->Lit) (ok:κ->Bool) (elit:ε->Lit) (z:ε) (D:DataW Unit) (M:List (κ×ε)):Prop:=
 Maps.IsMap D/\ ∀x,ok x=true->Maps.has D (lit x)=(M.lookup x).isSome/\D.atKey (lit x) (.lit (elit z))= .lit (elit ((M.lookup x).getD z))
def lkM {κ ε:Type} [DecidableEq κ] (M:List (κ×ε)) (x:κ):Option ε:=M.lookup x
structure KeyOk (P:Program) (k:TypeId) {κ:Type} [DecidableEq κ] (val:κ->Value) (lit:κ->Lit) (ok:κ->Bool):Prop where
 keyed:Maps.Keyed P k
 inj: ∀x y,val x=val y->x=y
 key: ∀x,ok x=true->keyOf P k (val x)=some (lit x)
theorem KeyOk.linj {P:Program} {k:TypeId} {κ:Type} [DecidableEq κ] {val:κ->Value} {lit:κ->Lit} {a:κ->Bool} (K:KeyOk P k val lit a) {x y:κ} (b:a x=true) (c:a y=true) (h:lit x=lit y):x=y:=
 K.inj _ _ (K.keyed.inj (K.key x b) (by rw[h];exact K.key y c))
theorem KeyOk.isKey {P:Program} {k:TypeId} {κ:Type} [DecidableEq κ] {val:κ->Value} {lit:κ->Lit} {a:κ->Bool} (K:KeyOk P k val lit a) {x:κ} (b:a x=true):WideAt.IsKeyLit (lit x):=K.keyed.key (K.key x b)
structure EltOk (P:Program) (e:TypeId) {ε:Type} (enc:ε->Value) (elit:ε->Lit) (eok:ε->Bool) (z:ε):Prop where
 plain: ∀i,eok i=true->plainElem (H:=Unit) P e (enc i)=some (.lit (elit i),[])
 inv: ∀v y ps,plainElem (H:=Unit) P e v=some (.lit (elit y),ps)->v=enc y
 zero: ∀w,(zeroValue e).run P w= .ok (enc z) w
 zok:eok z=true
def Ch.mp (P:Program) (k e:TypeId) {κ ε:Type} [DecidableEq κ] (lit:κ->Lit) (ok:κ->Bool) (elit:ε->Lit) (z:ε) (v:Value) (M:List (κ×ε)):Ch where
 holds I w F:= ∃b,v= .map (some b)/\F= [b] /\ ∃n D,w.ownsMap P k (plainElem P e) b n D/\n<=M.length/\Reads lit ok elit z D M
 mono h _:=h
 stay:=by
  rintro I w w' F ⟨b,rfl,rfl,n,D,⟨es,clock,hb,h⟩,h2⟩ hw
  exact ⟨b,rfl,rfl,n,D,⟨es,clock,by rw[hw b (by simp)];exact hb,h⟩,h2⟩
 live:=by
  rintro I w F ⟨b,rfl,rfl,n,D,h,h2⟩ b' hb
  simp at hb;subst hb;exact h.lt
def ab9 (n:Int):Lit:=.int .i64 n
def iOk (n:Int):Bool:=(Lit.int .i64 n).wf
def aiS (b:Bool):Lit:=.bool b
def bOk (b:Bool):Bool:=true
theorem aeS {P:Program} {k:TypeId} (h:P.underlying k=some (.int .i64)):KeyOk P k (fun n:Int=>Value.int .i64 n) ab9 iOk:=⟨Maps.int_keyed h,fun x y h=>by simpa using h,fun x a=>Maps.keyOf_int_mk h a⟩
theorem aeT {P:Program} {e:TypeId} (h:P.underlying e=some (.int .i64)) (b: ∀w,(zeroValue e).run P w= .ok (.int .i64 0) w):EltOk P e (fun n:Int=>Value.int .i64 n) ab9 iOk 0:=
 ⟨fun i c=>plainElem_int h c,fun v y d hp=>by
  obtain ⟨a,rfl,e,-⟩:=plainElem_int_inv h hp
  have:y=a:=by simpa [ab9] using congrArg Prod.fst e
  rw[this],b,by decide⟩
def ag4 (x:Int×Int):Lit:=.string (keyBytes [.int .i64 x.1,.int .i64 x.2])
def aiT (x:Int×Int):Bool:=(Lit.int .i64 x.1).wf&&(Lit.int .i64 x.2).wf
section
variable {P:Program} {I J:Hp} {w0 w w':World} {cs C:List Ch} {n:Nat} {a:Act} {L L':List (Nat×Value)} {o:Oper} {ev:Operand->Value}
variable {κ ε:Type} [DecidableEq κ] {lit:κ->Lit} {val:κ->Value} {ok:κ->Bool} {enc:ε->Value} {elit:ε->Lit} {eok:ε->Bool} {z:ε}
theorem S7:Reads lit ok elit z (.map []) ([] :List (κ×ε)):=⟨Maps.isMap_empty,fun x _=>⟨rfl,rfl⟩⟩
theorem Reads.put {k:TypeId} (K:KeyOk P k val lit ok) {D:DataW Unit} {M:List (κ×ε)} (h:Reads lit ok elit z D M) (x:κ) (d:ok x=true) (i:ε):Reads lit ok elit z (D.put (lit x) (.lit (elit i))) ((x,i)::M):=by
 refine ⟨h.1.put _ _,fun y b=>?_⟩;by_cases e:y=x
 ·subst e;rw[List.lookup_cons_self];exact ⟨Maps.has_put_same h.1 (K.isKey b) _,Maps.atKey_put_same h.1 (K.isKey b) _ _⟩
 ·have c:lit y≠lit x:=fun h=>e (K.linj b d h);rw[List.lookup_cons,show (y==x)=false from by simp[e]];exact ⟨by rw[Maps.has_put_other c];exact (h.2 y b).1,by rw[Maps.atKey_put_other c];exact (h.2 y b).2⟩
theorem Nk {t k e:TypeId} (h:o.op= .makeMap t none):OpT P I w0 o ev [] (fun _=>True) (fun v=>[Ch.mp P k e lit ok elit z v []]):=by
 intro w C f;have g:(execOp ev o).run P w= .ok (.value (.map (some w.heap.size))) (w.alloc (.map #[] 0)):=by
  simp only[execOp,h];rfl
 rw[g];refine ⟨trivial,?_⟩;refine St.step (w:=w) (c:=[]) (c':=[Ch.mp P k e lit ok elit z (.map (some w.heap.size)) []]) (w':=w.alloc (.map #[] 0)) f rfl rfl rfl (by simp) ?_;rintro F rfl - -;refine ⟨fun b d _=>?_,[w.heap.size],⟨[w.heap.size],[],rfl,⟨_,rfl,rfl,0,.map [],World.ownsMap_made _ _ _ _,aH _,S7⟩,rfl⟩,by simp,by simp⟩;show (w.heap.push _)[b]? =_;rw[Array.getElem?_push_lt d,Array.getElem?_eq_getElem d]
def Xb (M:List (κ×ε)) (ok:κ->Bool) (eok:ε->Bool) (x:κ) (i:ε):Option (List (κ×ε)):=if M.length<9223372036854775807/\ok x=true/\eok i=true then some ((x,i)::M) else none
theorem Q6 {t k e:TypeId} {m x y:Operand} {v:Value} {q:κ} {i:ε} {M O:List (κ×ε)} (K:KeyOk P k val lit ok) (E:EltOk P e enc elit eok z) (U:P.underlying t=some (.map k e))
  (j:o.op= .mapUpdate t m x y\/o.op= .insert t m x y) (R:ev m=v) (N:ev x=val q) (H:ev y=enc i) (h:Xb M ok eok q i=some O) :
  OpT P I w0 o ev [Ch.mp P k e lit ok elit z v M] (fun _=>True) (fun _=>[Ch.mp P k e lit ok elit z v O]):=by
 unfold Xb at h;split at h
 case isFalse=>cases h
 rename_i s;obtain rfl:=ae h;intro w C Y;obtain ⟨p,h2,F,⟨G,r,rfl,⟨b,rfl,rfl,n,D,l,W,X⟩,Q⟩,B,S⟩:=Y;obtain ⟨w',d,T,f⟩:=l.update K.keyed U (by unfold maxLen;omega) (K.key q s.2.1) (E.plain i s.2.2);have V:b∉r:=by simpa using (List.nodup_cons.1 B).1
 have Z:(execOp ev o).run P w= .ok .skip w':=by
  rcases j with j | j
  ·simp only[execOp,j,R,N,H,Sem.run_bind,d,Result.andThen_ok];rfl
  ·simp only[execOp,j,R,N,H,Sem.run_bind,d,Result.andThen_ok];rfl
 rw[Z];refine ⟨trivial,⟨f.os.trans p.1,f.tape.trans p.2.1,f.output.trans p.2.2.1,Nat.le_trans p.2.2.2 f.size⟩,fun c o g=>?_,[b] ++r,⟨[b],r,rfl,⟨b,rfl,rfl,n+1,_,T,by simpa using W,X.put K q s.2.1 i⟩,Q.stay fun c g=>?_⟩,B,S⟩
 ·have A:c≠b:=fun e=>by rw[e,S b (by simp)] at g;cases g
  have:=h2 c o g
  have u:c<w.heap.size:=(Array.getElem?_eq_some_iff.1 this).1;show w'.heap[c]? =some o;rw[f.block c u (fun e=>A (ae e))];exact this
 ·exact f.block c (Q.live c g) (fun e=>V (ae e ▸ g))
theorem Xu {t k e:TypeId} {b n:Nat} {D:DataW Unit} {q:κ} {M:List (κ×ε)} (K:KeyOk P k val lit ok) (E:EltOk P e enc elit eok z) (h:P.underlying t=some (.map k e)) (g:ok q=true) (c:w.ownsMap P k (plainElem P e) b n D) (j:Reads lit ok elit z D M) :
  (Instr.lookup t (.map (some b)) (val q) true).run P w= .ok (.tuple #[enc ((M.lookup q).getD z),.bool (M.lookup q).isSome]) w:=by
 obtain ⟨u,m,d,f⟩:=c.look_ok K.keyed h (E.zero w) (E.plain z E.zok) (K.key q g);obtain ⟨i,l⟩:=j.2 q g;rw[l] at f;obtain rfl:=E.inv _ _ _ f;rw[d,i]
theorem Nl {t k e:TypeId} {m x:Operand} {v:Value} {q:κ} {M:List (κ×ε)} (K:KeyOk P k val lit ok) (E:EltOk P e enc elit eok z) (h:ok q=true) (i:P.underlying t=some (.map k e))
  (j:o.op= .lookup t m x true) (r:ev m=v) (l:ev x=val q) :
  OpT P I w0 o ev [Ch.mp P k e lit ok elit z v M] (· = .tuple #[enc ((M.lookup q).getD z),.bool (M.lookup q).isSome]) (fun _=>[Ch.mp P k e lit ok elit z v M]):=by
 intro w C g;have f:=g;obtain ⟨y,O,F,⟨G,A,rfl,⟨b,rfl,rfl,n,D,c,B,p⟩,H⟩,u,N⟩:=g;have d:=Xu K E i h c p;have s:(execOp ev o).run P w= .ok (.value (.tuple #[enc ((M.lookup q).getD z),.bool (M.lookup q).isSome])) w:=by
  simp only[execOp,j,r,l,Sem.run_bind,d,Result.andThen_ok];rfl
 rw[s];exact ⟨rfl,f⟩
theorem KW {t k e:TypeId} {m x:Operand} {v:Value} {q:κ} {M:List (κ×ε)} (K:KeyOk P k val lit ok) (E:EltOk P e enc elit eok z) (h:ok q=true) (j:P.underlying t=some (.map k e))
  (l:o.op= .lookup t m x false) (s:ev m=v) (p:ev x=val q) :
  OpT P I w0 o ev [Ch.mp P k e lit ok elit z v M] (· =enc ((M.lookup q).getD z)) (fun _=>[Ch.mp P k e lit ok elit z v M]):=by
 intro w C i;have f:=i;obtain ⟨H,U,F,⟨G,N,rfl,⟨b,rfl,rfl,n,D,c,Q,r⟩,S⟩,B,T⟩:=i;obtain ⟨u,R,d,g⟩:=c.lookup K.keyed j (E.zero w) (E.plain z E.zok) (K.key q h);obtain ⟨O,A⟩:=r.2 q h;rw[A] at g;obtain rfl:=E.inv _ _ _ g;have y:(execOp ev o).run P w= .ok (.value (enc ((M.lookup q).getD z))) w:=by
  simp only[execOp,l,s,p,Sem.run_bind,d,Result.andThen_ok];rfl
 rw[y];exact ⟨rfl,f⟩
end
section
variable {P:Program} {I J:Hp} {w0 w w':World} {o:Oper} {ev:Operand->Value}
theorem aca {x y:Operand} {t u:TypeId} {m n:Int} (a:o.op= .binOp .add t x y u) (b:ev x= .int .u64 m) (c:ev y= .int .u64 n):OpT P I w0 o ev [] (· = .int .u64 (IntKind.u64.wrap (m+n))) (fun _=>[]):=
 bt fun w=>by simp only[execOp,a,b,c];rfl
theorem acb {x y:Operand} {t u:TypeId} {m n:Int} (a:o.op= .binOp .sub t x y u) (b:ev x= .int .u64 m) (c:ev y= .int .u64 n):OpT P I w0 o ev [] (· = .int .u64 (IntKind.u64.wrap (m - n))) (fun _=>[]):=
 bt fun w=>by simp only[execOp,a,b,c];rfl
theorem acd {x y:Operand} {t u:TypeId} {m n:Int} (a:o.op= .binOp .mul t x y u) (b:ev x= .int .u64 m) (c:ev y= .int .u64 n):OpT P I w0 o ev [] (· = .int .u64 (IntKind.u64.wrap (m*n))) (fun _=>[]):=
 bt fun w=>by simp only[execOp,a,b,c];rfl
def Xc (m n:Int):Int:=bits .and .u64 m n
theorem ace {x y:Operand} {t u:TypeId} {m n:Int} (a:o.op= .binOp .and t x y u) (b:ev x= .int .u64 m) (c:ev y= .int .u64 n):OpT P I w0 o ev [] (· = .int .u64 (Xc m n)) (fun _=>[]):=
 bt fun w=>by simp only[execOp,a,b,c];rfl
theorem acf {x y:Operand} {t u:TypeId} {m n:Int} (a:o.op= .binOp .shr t x y u) (b:ev x= .int .u64 m) (c:ev y= .int .u64 n) (d:0<=n):OpT P I w0 o ev [] (· = .int .u64 (rq m n)) (fun _=>[]):=
 bt fun w=>by simp[execOp,a,b,c,eqGuard,binOp,Op.shift,show¬n<0 from by omega,Result.andThen,rq,IntKind.bits]
theorem KX {x:Operand} {s d:TypeId} {k a:IntKind} {m:Int} (hs:P.underlying s=some (.int k)) (e:P.underlying d=some (.int a)) (b:o.op= .convert s d x) (c:ev x= .int k m):OpT P I w0 o ev [] (· = .int a (a.wrap m)) (fun _=>[]):=
 bt fun w=>by simp[execOp,b,c,convert,Conv.intToInt,run_underlying hs,run_underlying e,Result.andThen]
end
def uf (v:Value) (l h s:Nat):Value:=match v with
 | .slice a _ c=>sliced a l h c s
 | _=>v
section
variable {P:Program} {I J:Hp} {w0 w w':World} {o:Oper} {ev:Operand->Value}
theorem TI.size {T:TypeId} {agg:Bool} {n:Nat} (h:TI P T agg n) (w:World):(sizeOf T).run P w= .ok n w:=by
 obtain ⟨-,b⟩:=h;cases a:P.info? T with
 | none=>grind
 | some i=>simp_all[Program.cellsOf,sizeOf,typeInfo]
theorem yj {t e:TypeId} {x y:Operand} {v:Value} {len n:Nat} {l:Int} {agg:Bool} (c:P.underlying t=some (.slice e)) (i:TI P e agg n) (hv:Hd v len) (j:o.op= .slice t x (some y) none none) (k:ev x=v) (f:ev y= .int .i64 l) (h:0<=l/\l<=len) :
  OpT P I w0 o ev [] (· =uf v l.toNat len n) (fun _=>[]):=by
 obtain ⟨g,cap,rfl,-⟩:=hv;have b:P.elem t=e:=by simp[Program.elem,c]
 have a:P.underlying t=some (.slice (P.elem t)):=by rw[b];exact c
 refine bt fun w=>?_;have d:=TI.size i w;rw[<-b] at d;simp[execOp,j,k,Option.map_some,Option.map_none,f,Sem.run_bind,run_sliceAt_slice w t _ _ _ _ a,run_slice_l w t g len cap a .i64 l h.1 h.2,d,Result.andThen_ok]
 rfl
theorem yk {t e:TypeId} {x y:Operand} {v:Value} {len n:Nat} {l:Int} {agg:Bool} (c:P.underlying t=some (.slice e)) (i:TI P e agg n) (hv:Hd v len) (j:o.op= .slice t x none (some y) none) (k:ev x=v) (f:ev y= .int .i64 l) (h:0<=l/\l<=len) :
  OpT P I w0 o ev [] (· =uf v 0 l.toNat n) (fun _=>[]):=by
 obtain ⟨g,cap,rfl,-,m⟩:=hv;have b:P.elem t=e:=by simp[Program.elem,c]
 have a:P.underlying t=some (.slice (P.elem t)):=by rw[b];exact c
 refine bt fun w=>?_;have d:=TI.size i w;rw[<-b] at d;simp[execOp,j,k,Option.map_some,Option.map_none,f,Sem.run_bind,run_sliceAt_slice w t _ _ _ _ a,run_slice_h w t g len cap a .i64 l h.1 (by omega),d,Result.andThen_ok]
 rfl
theorem KY {t e:TypeId} {x y z:Operand} {v:Value} {len n:Nat} {l h:Int} {agg:Bool} (d:P.underlying t=some (.slice e)) (j:TI P e agg n) (hv:Hd v len) (k:o.op= .slice t x (some y) (some z) none) (p:ev x=v) (g:ev y= .int .i64 l) (m:ev z= .int .i64 h) (c:0<=l/\l<=h/\h<=len) :
  OpT P I w0 o ev [] (· =uf v l.toNat h.toNat n) (fun _=>[]):=by
 obtain ⟨i,cap,rfl,-,q⟩:=hv;have b:P.elem t=e:=by simp[Program.elem,d]
 have a:P.underlying t=some (.slice (P.elem t)):=by rw[b];exact d
 refine bt fun w=>?_;have f:=TI.size j w;rw[<-b] at f;simp[execOp,k,p,Option.map_some,Option.map_none,g,m,Sem.run_bind,run_sliceAt_slice w t _ _ _ _ a,run_slice_lh w t i len cap a .i64 .i64 l h c.1 c.2.1 (by omega),f,Result.andThen_ok]
 rfl
theorem Pp {α:Type} {E:TypeId} {R:Rep α} {v:Value} {xs:List α} {l h n:Nat} (p:(ah E R).rd I [v] xs) (h1:l<=h) (s:h<=xs.length) (r:R.size=n):(ah E R).rd I [uf v l h n] ((xs.take h).drop l):=by
 have ⟨g,cap,hv,⟨f,k⟩,e⟩:=p;obtain rfl:v= .slice g xs.length cap:=by grind
 have d:((xs.take h).drop l).length=h - l:=by rw[bF,aB];omega
 by_cases a:h=l
 ·subst a;have a:(xs.take h).drop h= []:=List.eq_nil_of_length_eq_zero (by omega);rw[a];exact ⟨_,_,by simp only[uf,sliced];rw[Nat.sub_self];rfl,⟨Nat.zero_le _,Nat.zero_le _⟩,.inl rfl⟩
 ·rcases e with rfl | ⟨b,off,c,t,m,rfl,q,j⟩
  ·grind
  ·refine ⟨some ⟨b,off+l*n,none⟩,cap - l,?_,⟨by omega,by omega⟩,.inr ⟨b,off+l*n,c,t,m,rfl,q,fun i x e=>?_⟩⟩
   ·grind[uf,sliced,Addr.add_mid]
   grind
theorem Pq {α:Type} {E:TypeId} {R:Rep α} {v:Value} {xs:List α} {l n:Nat} (b:(ah E R).rd I [v] xs) (h1:l<=xs.length) (a:R.size=n):(ah E R).rd I [uf v l xs.length n] (xs.drop l):=by
 have:=Pp b h1 (aH _) a
 grind
theorem Xv {α:Type} {E:TypeId} {R:Rep α} {v:Value} {xs:List α} {h n:Nat} (b:(ah E R).rd I [v] xs) (h1:h<=xs.length) (a:R.size=n):(ah E R).rd I [uf v 0 h n] (xs.take h):=by
 have:=Pp b (Nat.zero_le h) h1 a
 grind
theorem lW {α:Type} {enc:α->Value} {h1: ∀a,(enc a).oneCell'=true} : ∀ {xs:List α} {cur:List Value} {K:List Nat},OwnEls (nA α enc h1) I w cur xs K↔K= [] /\ ∃rest,cur=xs.map enc++rest
 | [],cur,K=>⟨fun h=>⟨h,cur,rfl⟩,fun h=>h.1⟩
 | x::xs,cur,K=>by
  constructor
  ·rintro ⟨c,rest,G,d,rfl,-,rfl,⟨rfl,rfl⟩,b⟩;obtain ⟨rfl,r,rfl⟩:=lW.1 b;simp_all
  ·rintro ⟨rfl,r,rfl⟩;exact ⟨[enc x],xs.map enc++r,[],[],rfl,rfl,rfl,⟨rfl,rfl⟩,lW.2 ⟨rfl,r,rfl⟩⟩
def KM {α:Type} (xs:List α) (lo:Nat) (ys:List α):List α:=xs.take lo++(ys.take (xs.length - lo)++xs.drop (lo+min ys.length (xs.length - lo)))
def Src (w:World) (u:Value) (cs:List Value):Prop:= ∃ao cap,u= .slice ao cs.length cap/\(cs= [] \/ ∃a,ao=some a/\ ∀j v,cs[j]? =some v->w.cell? (a.add j)=some v)
theorem Src.take {u:Value} {cs:List Value} (h:Src w u cs) (n:Nat):n<=cs.length-> ∃b cap,u= .slice b cs.length cap/\(cs.take n= [] \/ ∃a,b=some a/\ ∀j v,(cs.take n)[j]? =some v->w.cell? (a.add j)=some v):=by
 have ⟨b,cap,c,d⟩:=h;grind
theorem Src.of_rd {α:Type} {E:TypeId} {enc:α->Value} {h1: ∀a,(enc a).oneCell'=true} {u:Value} {ys:List α} {d:List Ch} (hs:St I w0 w d) (h:(ah E (nA α enc h1)).rd I [u] ys):Src w u (ys.map enc):=by
 obtain ⟨g,cap,n,-,h⟩:=h;obtain rfl:u= .slice g ys.length cap:=by grind
 refine ⟨g,cap,by simp,?_⟩;rcases h with rfl | ⟨b,off,f,t,l,rfl,m,e⟩
 ·grind
 ·refine .inr ⟨_,rfl,fun j v s=>?_⟩;cases k:ys[j]? with
  | none=>grind
  | some y =>
   have ⟨c,q,p,i⟩:=e j y k;obtain rfl:c= [enc y]:=i;have r:w.heap[b]? =some (.cells f t l):=hs.2.1 b _ m;simp_all[nA,Nat.mul_one,Nat.add_zero,List.getElem?_cons_zero,Option.map_some,Option.some.injEq,Addr.add_mid,World.cell?]
theorem KZ {dT sT ty elem:TypeId} {g o dLen dCap sLen sCap:Nat} {ao:Option Addr} {cur:Array Value} {t:TypeId} {cs:List Value}
  (d:P.underlying dT=some (.slice elem)) (hs:(P.info? elem).map (·.size)=some 1)
  (p:w.heap[g]? =some (.cells cur t (0,0))) (n:cs.length=Nat.min sLen dLen)
  (b:cs= [] \/ ∃a,ao=some a/\ ∀j v,cs[j]? =some v->w.cell? (a.add j)=some v) (k:o+cs.length<=cur.size) (h1: ∀v∈cs,v.oneCell'=true) :
  (Builtin.copy_ #[dT,sT] ty #[.slice (some ⟨g,o,none⟩) dLen dCap,.slice ao sLen sCap]).run P w =
   .ok (goInt cs.length) (w.setRow g (cur.toList.take o++cs++cur.toList.drop (o+cs.length)).toArray):=by
 rcases b with rfl | ⟨a,rfl,h⟩
 ·have f:=n.symm;have e:(w.setRow g (cur.toList.take o++ [] ++cur.toList.drop (o+([] :List Value).length)).toArray)=w:=by
   have:(cur.toList.take o++ [] ++cur.toList.drop (o+([] :List Value).length)).toArray=cur:=by simp
   rw[this];exact setRow_self w g cur t (0,0) p
  rw[e];cases c:P.info? elem with
  | none=>grind
  | some i =>
   have l:i.size=1:=by simpa [c] using hs
   cases ao with
   | none=>simp[Builtin.copy_,run_underlying d,Builtin.lenOf,Builtin.firstCells,sizeOf,typeInfo,c,l,f,storeCells]
   | some a =>
    have m:(loadCells a 0).run P w= .ok #[] w:=run_loadCells_list (P:=P) w a [] (by simp);simp[Builtin.copy_,run_underlying d,Builtin.lenOf,Builtin.firstCells,sizeOf,typeInfo,c,l,f,storeCells,m]
 grind[run_copy_row]
theorem BU {α:Type} {E dT sT:TypeId} {enc:α->Value} {h1: ∀a,(enc a).oneCell'=true} {x y:Operand} {v r u:Value} {xs ys:List α} {lo:Nat} (hT:P.underlying dT=some (.slice E)) (Y:(P.info? E).map (·.size)=some 1)
  (S:o.op= .call { callee:=.builtin .copy,args:= #[x,y],argTypes:= #[dT,sT] }) (hx:ev x=r) (hy:ev y=u) (hlo:lo<=xs.length) (hd:(r=v/\lo=0)\/r=uf v lo xs.length 1)
  (s: ∀w C,St I w0 w (Ch.own (ah E (nA α enc h1)) [v] xs::C)->Src w u (ys.map enc)) :
  OpT P I w0 o ev [Ch.own (ah E (nA α enc h1)) [v] xs] (· = .int .i64 (min ys.length (xs.length - lo):Nat)) (fun _=>[Ch.own (ah E (nA α enc h1)) [v] (KM xs lo ys)]):=by
 intro w C hs;obtain ⟨ao,f,rfl,hc⟩:=s w C hs;have hk:min ys.length (xs.length - lo)<=(ys.map enc).length:=by simp;omega
 have p:=Src.take ⟨ao,f,rfl,hc⟩ _ hk;have ⟨H,q,e0,p⟩:=p;obtain ⟨rfl,rfl⟩:ao=H/\f=q:=by grind
 simp only[execOp,S,hx,hy,resolve,Sem.run_bind,Sem.run_pure,Result.andThen_ok,invoke,builtin];have n:(#[x,y] :Array Operand).map ev= #[r,.slice ao (ys.map enc).length f]:=by simp[hx,hy]
 rw[n];obtain ⟨M,W,F,⟨G,K,rfl,⟨hl,e2⟩,e3⟩,X,h5⟩:=hs;have z:(KM xs lo ys).length=xs.length:=by
  simp[KM,aF,aB,bF];omega
 rcases e2 with ⟨hv,rfl,rfl⟩ | ⟨g,d,cap,cur,K1,hv,V,k2,k3,k4,rfl,Z⟩
 ·
  obtain rfl:v= .slice none 0 0:=by grind
  obtain rfl:lo=0:=by grind
  have m:r= .slice none 0 0:=by
   rcases hd with ⟨rfl,-⟩ | rfl
   ·rfl
   ·rfl
  subst m;have T:(Builtin.copy_ #[dT,sT] o.type #[.slice none 0 0,.slice ao (ys.map enc).length f]).run P w= .ok (goInt 0) w:=by
   cases hq:P.info? E with
   | none=>grind
   | some i =>
    have W:i.size=1:=by simpa [hq] using Y
    cases ao with
    | none=>simp_all[Builtin.copy_,run_underlying,Builtin.lenOf,Builtin.firstCells,sizeOf,typeInfo,storeCells]
    | some a =>
     have h0:=run_loadCells_list (P:=P) w a [] (by simp);simp_all[Builtin.copy_,run_underlying,Builtin.lenOf,Builtin.firstCells,sizeOf,typeInfo,storeCells]
  rw[T];refine ⟨by simp[goInt],M,W,[] ++K,⟨[],K,rfl,⟨?_,.inl ⟨rfl,?_,rfl⟩⟩,e3⟩,X,h5⟩
  ·omega
  grind
 ·obtain rfl:v= .slice (some ⟨g,d,none⟩) xs.length cap:=by grind
  have R:d+cap<=cur.size:=by have:d+cap*1<=cur.size:=k4;omega
  obtain ⟨rfl,rest,l⟩:=lW.1 Z;have N:(cur.toList.drop d).length=cur.size - d:=by grind
  have B:(cur.toList.take d).length=d:=by rw[aB,Array.length_toList];omega
  have m: ∃h dCap,r= .slice (some ⟨g,d+h,none⟩) (xs.length - lo) dCap/\(h=lo\/(xs.length - lo=0/\h<=cap)):=by
   rcases hd with ⟨rfl,rfl⟩ | rfl
   ·grind
   ·by_cases hcl:cap=lo
    ·simp_all[uf,sliced]
    grind[uf,sliced,Addr.add_mid]
  obtain ⟨h,dCap,rfl,ho'⟩:=m;have hm:((ys.map enc).take (min ys.length (xs.length - lo))).length=min ys.length (xs.length - lo):=by
   rw[aB,List.length_map];omega
  have T:=KZ (P:=P) (w:=w) (dT:=dT) (sT:=sT) (ty:=o.type) (elem:=E) (g:=g) (o:=d+h) (dLen:=xs.length - lo) (dCap:=dCap) (sLen:=(ys.map enc).length) (sCap:=f) (ao:=ao) (cur:=cur) (t:=E) (cs:=(ys.map enc).take (min ys.length (xs.length - lo))) hT Y V
   (by grind) p (by omega) (fun v hv=>by
    grind)
  rw[T,hm];have j:(cur.toList.drop d).take h++(ys.map enc).take (min ys.length (xs.length - lo))++(cur.toList.drop d).drop (h+min ys.length (xs.length - lo))=(KM xs lo ys).map enc++rest:=by
   by_cases hz:min ys.length (xs.length - lo)=0
   ·rw[hz];have e:KM xs lo ys=xs:=by
     unfold KM
     have:ys.take (xs.length - lo)= []:=List.eq_nil_of_length_eq_zero (by grind)
     rw[this,hz,List.nil_append,Nat.add_zero,List.take_append_drop]
    simp_all
   ·have S:h=lo:=by omega
    subst S;rw[l,List.take_append_of_le_length (by grind),List.drop_append_of_le_length (by grind)];grind[KM,List.map_take,List.map_drop,aD,List.take_eq_take_iff,List.length_map]
  have k:cur.toList.take (d+h)++(ys.map enc).take (min ys.length (xs.length - lo))++cur.toList.drop (d+h+min ys.length (xs.length - lo))=cur.toList.take d++((KM xs lo ys).map enc++rest):=by
   rw[<-j,List.take_add,Nat.add_assoc,show cur.toList.drop (d+(h+min ys.length (xs.length - lo)))=(cur.toList.drop d).drop (h+min ys.length (xs.length - lo)) from by rw[List.drop_drop]];simp[aD]
  rw[k];have hsz:(cur.toList.take d++((KM xs lo ys).map enc++rest)).length=cur.size:=by
   have:=congrArg List.length l
   rw[aF,List.length_map] at this;rw[aF,B,aF,List.length_map,z];omega
  have U:St I w0 w (Ch.own (ah E (nA α enc h1)) [.slice (some ⟨g,d,none⟩) xs.length cap] xs::C):=⟨M,W,[g] ++K,⟨[g],K,rfl,⟨hl,.inr ⟨g,d,cap,cur,[],rfl,V,k2,k3,k4,rfl,Z⟩⟩,e3⟩,X,h5⟩
  have:=St.step (w:=w) (c:=[Ch.own (ah E (nA α enc h1)) [.slice (some ⟨g,d,none⟩) xs.length cap] xs]) (c':=[Ch.own (ah E (nA α enc h1)) [.slice (some ⟨g,d,none⟩) xs.length cap] (KM xs lo ys)]) (w':=w.setRow g (cur.toList.take d++((KM xs lo ys).map enc++rest)).toArray) U rfl rfl rfl (by simp_all) (by
   rintro F ⟨G2,K2,rfl,⟨hl',Q⟩,rfl⟩ - -;rcases Q with ⟨L,-,-⟩ | ⟨g',A,D,cur',K1',L,k1',k2',k3',R,rfl,O⟩
   ·grind
   obtain ⟨⟨rfl,rfl⟩,rfl⟩:(g=g'/\d=A)/\cap=D:=by grind
   obtain ⟨rfl,-⟩:=lW.1 O;refine ⟨fun b M hn=>?_,[g],⟨[g],[],rfl,⟨by omega,.inr ⟨g,d,cap,(cur.toList.take d++((KM xs lo ys).map enc++rest)).toArray,[],by rw[z],setRow_heap w g cur _ E _ V,by omega,k3,?_,rfl,lW.2 ⟨rfl,rest,List.drop_left' B⟩⟩⟩,rfl⟩,by simp,by simp⟩
   ·grind[World.setRow]
   grind)
  exact ⟨rfl,this⟩
theorem Nm {α:Type} {E E' dT sT:TypeId} {enc:α->Value} {h1: ∀a,(enc a).oneCell'=true} {x y:Operand} {v b u:Value} {xs ys:List α} {lo:Nat} (k:(ah E' (nA α enc h1)).rd I [u] ys) (i:P.underlying dT=some (.slice E)) (f:(P.info? E).map (·.size)=some 1)
  (g:o.op= .call { callee:=.builtin .copy,args:= #[x,y],argTypes:= #[dT,sT] }) (h:ev x=b) (d:ev y=u) (c:lo<=xs.length) (e:(b=v/\lo=0)\/b=uf v lo xs.length 1) :
  OpT P I w0 o ev [Ch.own (ah E (nA α enc h1)) [v] xs] (· = .int .i64 (min ys.length (xs.length - lo):Nat)) (fun _=>[Ch.own (ah E (nA α enc h1)) [v] (KM xs lo ys)]):=
 BU i f g h d c e fun w C j=>Src.of_rd j k
theorem II {α:Type} {E dT sT:TypeId} {enc:α->Value} {h1: ∀a,(enc a).oneCell'=true} {x y:Operand} {v c:Value} {xs:List α} {lo hi:Nat} (p:P.underlying dT=some (.slice E)) (k:(P.info? E).map (·.size)=some 1)
  (l:o.op= .call { callee:=.builtin .copy,args:= #[x,y],argTypes:= #[dT,sT] }) (n:ev x=c) (h:ev y=uf v 0 hi 1) (e:lo<=xs.length) (s:hi<=xs.length) (i:(c=v/\lo=0)\/c=uf v lo xs.length 1) :
  OpT P I w0 o ev [Ch.own (ah E (nA α enc h1)) [v] xs] (· = .int .i64 (min (xs.take hi).length (xs.length - lo):Nat)) (fun _=>[Ch.own (ah E (nA α enc h1)) [v] (KM xs lo (xs.take hi))]):=by
 refine BU p k l n h e i fun w C q=>?_;obtain ⟨B,f,F,⟨G,K,rfl,⟨A,r⟩,Q⟩,z,O⟩:=q;rcases r with ⟨hv,rfl,rfl⟩ | ⟨g,d,cap,cur,N,hv,t,H,L,D,rfl,m⟩
 ·obtain rfl:v= .slice none 0 0:=by grind
  obtain rfl:hi=0:=by grind
  exact ⟨none,0,rfl,.inl (by simp)⟩
 ·obtain ⟨rfl,rest,b⟩:=lW.1 m;refine ⟨some ⟨g,d,none⟩,cap,by grind[uf,sliced,Addr.add_mid],.inr ⟨_,rfl,fun j u M=>?_⟩⟩;simp[Addr.add_mid,World.cell?,t];rw[<-Array.getElem?_toList,<-List.getElem?_drop,b];grind
section
variable {n:Nat} {a:Act} {L:List (Nat×Value)} {Q:Exit->Act->World->Prop} {ops:Array Oper} {rest:List Oper} {C C0 rn_:List Ch} {v:Value} {g d:Nat} {want b:Bool} {fact:Value->Prop} {gv:Value->List Ch}
theorem rn {l:List Oper} (c:Agr n a L) (hs:St I w0 w C) (k: ∀a w,Agr n a L->St I w0 w C->wpList P ops Q l a w):wpList P ops Q l a w:=k a w c hs
end
theorem aeU {T:TypeId} {agg:Bool} (h:TI P T agg 1):(P.info? T).map (·.size)=some 1:=h.2
end
def iU:Nat:=(cast (congrArg (fun p:Prop=> {n:Nat // p}) (propext ⟨fun _=>rfl,fun _=>trivial⟩:True=((0:Nat)=0))) (⟨aP,trivial⟩: {n:Nat // True}): {n:Nat // (0:Nat)=0}).1
theorem Xw:iU=aP:=by
 have key: ∀(p q:Prop) (h:p=q) (x: {n:Nat // p}),(cast (congrArg (fun p:Prop=> {n:Nat // p}) h) x).1=x.1:=by
  intro p q h x;subst h
  rfl
 exact key True ((0:Nat)=0) (propext ⟨fun _=>rfl,fun _=>trivial⟩) ⟨aP,trivial⟩
inductive Tr (α:Type)
 | nil
 | node (a:α) (kids:List (Tr α))
def Tr.get {α:Type} :Tr α->Option (α×List (Tr α))
 | .nil=>none
 | .node a ks=>some (a,ks)
def Tr.isNil {α:Type} :Tr α->Bool
 | .nil=>true
 | .node _ _=>false
def Kids (I:Hp) (v:Value) (n:Nat) (cc:Nat->Value):Prop:= ∃ao cap,v= .slice ao n cap/\(n<=lim/\n<=cap)/\(n=0\/ ∃g off ccs t fr,ao=some ⟨g,off,none⟩/\I g=some (.cells ccs t fr)/\ ∀i,i<n->ccs.toList[off+i]? =some (cc i))
theorem Kids.mono {I J:Hp} {v:Value} {n:Nat} {cc:Nat->Value} (h:Kids I v n cc) (f:I.le J):Kids J v n cc:=by
 have ⟨e,cap,d,l,b⟩:=h;refine ⟨e,cap,d,l,?_⟩;rcases b with b | ⟨g,off,a,t,j,c,k,i⟩
 ·omega
 ·exact .inr ⟨g,off,a,t,j,c,f _ _ k,i⟩
inductive TreeRd {α:Type} (T:TypeId) (R:Rep α) (I:Hp):Value->Tr α->Prop
 | nil:TreeRd T R I (.pointer none) .nil
 | node {b:Nat} {c:List Value} {v:Value} {a:α} {ks:List (Tr α)} {cc:Nat->Value} (hb:I b=some (.cells (c++ [v]).toArray T (0,0))) (ha:R.rd I c a) (hv:Kids I v ks.length cc)
   (hk: ∀i x,ks[i]? =some x->TreeRd T R I (cc i) x):TreeRd T R I (.pointer (some ⟨b,0,none⟩)) (.node a ks)
section
variable {α:Type} {T E:TypeId} {R:Rep α} {I J:Hp} {w w':World} {v:Value} {x:Tr α} {F:List Nat}
theorem TreeRd.mono (h:TreeRd T R I v x) (a:I.le J):TreeRd T R J v x:=by
 induction h with
 | nil=>exact .nil
 | node hb ha hv hk ih=>exact .node (a _ _ hb) (R.rd_mono ha a) (hv.mono a) ih
theorem TreeRd.one (h:TreeRd T R I v x):v.oneCell'=true:=by cases h <;> rfl
def ov (I:Hp) (w:World) (F:List Nat):Hp:=fun b=>if b∈F then w.heap[b]? else I b
theorem aij:ov I w [] =I:=funext fun b=>if_neg (by simp)
theorem acg (h:I.le J):(ov I w F).le (ov J w F):=fun b o a=>by
 unfold ov at a⊢;split at a
 ·grind
 ·rw[if_neg ‹_›];exact h b o a
theorem ach (h: ∀b,b∈F->w'.heap[b]? =w.heap[b]?):ov I w' F=ov I w F:=funext fun b=>by
 grind[ov]
def zg (T:TypeId) (R:Rep α):Rep (Tr α) where
 size:=1
 rd I cs x:= ∃v,cs= [v] /\TreeRd T R I v x
 own I w cs x F:=(∀b,b∈F->b<w.heap.size)/\ ∃v,cs= [v] /\TreeRd T R (ov I w F) v x
 rd_len:=by rintro I cs x ⟨v,rfl,_⟩;rfl
 rd_one:=by rintro I cs x ⟨v,rfl,h⟩ u hu;obtain rfl:=ax hu;exact h.one
 rd_mono:=by rintro I J cs x ⟨v,rfl,h⟩ hJ;exact ⟨v,rfl,h.mono hJ⟩
 own_len:=by rintro I w cs x F ⟨_,v,rfl,_⟩;rfl
 own_one:=by rintro I w cs x F ⟨_,v,rfl,h⟩ u hu;obtain rfl:=ax hu;exact h.one
 own_mono:=by rintro I J w cs x F ⟨h0,v,rfl,h⟩ hJ;exact ⟨h0,v,rfl,h.mono (acg hJ)⟩
 own_stay:=by
  rintro I w w' cs x F ⟨h0,v,rfl,h⟩ hw
  refine ⟨fun b hb=>?_,v,rfl,by rw[ach hw];exact h⟩
  have hlt:=h0 b hb
  have:w.heap[b]? =some w.heap[b]:=Array.getElem?_eq_getElem hlt
  rw[<-hw b hb] at this
  exact (Array.getElem?_eq_some_iff.1 this).1
 own_live h:=h.1
 own_rd:=by
  rintro I J w cs x F ⟨h0,v,rfl,h⟩ hJ hB
  refine ⟨v,rfl,h.mono fun b o hb=>?_⟩
  unfold ov at hb
  split at hb
  ·rw[hB b ‹_›];exact hb
  ·exact hJ b o hb
def SK (R:Rep α):Rep α where
 size:=R.size
 rd:=R.rd
 own I w cs x F:=(cs.length=R.size/\ ∀u∈cs,u.oneCell'=true)/\(∀b,b∈F->b<w.heap.size)/\ ∀J:Hp,I.le J->(∀b,b∈F->J b=w.heap[b]?)->R.rd J cs x
 rd_len:=R.rd_len
 rd_one:=R.rd_one
 rd_mono:=R.rd_mono
 own_len h:=h.1.1
 own_one h:=h.1.2
 own_mono h hJ:=⟨h.1,h.2.1,fun K hK hB=>h.2.2 K (hJ.trans hK) hB⟩
 own_stay:=by
  rintro I w w' cs x F ⟨h0,h1,h⟩ hw
  refine ⟨h0,fun b hb=>?_,fun J hJ hB=>h J hJ fun b hb=>by rw[hB b hb,hw b hb]⟩
  have hlt:=h1 b hb
  have:w.heap[b]? =some w.heap[b]:=Array.getElem?_eq_getElem hlt
  rw[<-hw b hb] at this
  exact (Array.getElem?_eq_some_iff.1 this).1
 own_live h:=h.2.1
 own_rd h hJ hB:=h.2.2 _ hJ hB
theorem S8 {R:Rep α} {cs:List Value} {x:α} {F:List Nat} (h:R.own I w cs x F):(SK R).own I w cs x F:=
 ⟨⟨R.own_len h,R.own_one h⟩,R.own_live h,fun J b a=>R.own_rd h b a⟩
theorem aaq {R:Rep α} {cs:List Value} {x:α} (h:R.rd I cs x):(SK R).own I w cs x []:=
 ⟨⟨R.rd_len h,R.rd_one h⟩,fun b a=>(by cases a),fun J c _=>R.rd_mono h c⟩
theorem aci {R:Rep α} {ls:List Ch} {cs:List Value} {x:α} (h:Bun I ls R cs x):Bun I ls (SK R) cs x:=fun w F a=>S8 (h w F a)
theorem acj {R:Rep α} {c:List Value} {x:α} (h: ∀I,R.rd I c x):Zro (SK R) c x:=fun I w=>aaq (h I)
theorem OwnEls.turn {R S:Rep α} (hs:R.size=S.size) (h: ∀c x G,R.own I w c x G->S.own I w c x G): ∀ {xs:List α} {cur:List Value} {F:List Nat},OwnEls R I w cur xs F->OwnEls S I w cur xs F
 | [],cur,F,h0=>h0
 | y::xs,cur,F,⟨c,rest,G,K,h1,h2,h3,h4,h5⟩=>⟨c,rest,G,K,h1,by omega,h3,h _ _ _ h4,OwnEls.turn hs h h5⟩
theorem S9 {R:Rep α} {J:Hp} (d:I.le J): ∀ {xs:List α} {cur:List Value} {F:List Nat},(∀b,b∈F->J b=w.heap[b]?)->OwnEls (SK R) I w cur xs F->OwnEls (CF R) J w cur xs []
 | [],cur,F,_,h0=>rfl
 | y::xs,cur,F,hB,⟨c,rest,G,K,h1,h2,h3,h4,h5⟩=>by
  subst h3;exact ⟨c,rest,[],[],h1,h2,rfl,⟨rfl,h4.2.2 J d fun b a=>hB b (bq _ a)⟩,S9 d (fun b a=>hB b (bw _ a)) h5⟩
theorem St.freeze_els {R:Rep α} {v:List Value} {xs:List α} {cs:List Ch} {w0:World} (h:St I w0 w (Ch.own (ah E (SK R)) v xs::cs)): ∃J,I.le J/\St J w0 w (Ch.own (ah E (CF R)) v xs::cs):=by
 obtain ⟨e,l,F,⟨G,K,rfl,⟨j,y⟩,m⟩,n,p⟩:=h;rcases y with ⟨rfl,rfl,rfl⟩ | ⟨g,f,cap,cur,k,hv,A,s,u,q,rfl,r⟩
 ·exact ⟨I,Hp.le.rfl,e,l,[] ++K,⟨[],K,rfl,⟨j,.inl ⟨rfl,rfl,rfl⟩⟩,m⟩,n,p⟩
 ·let J:=fun b=>if b∈k then w.heap[b]? else I b;have c:I.le J:=fun b o a=>by
   grind
  have d:=n;have i:=fun z=>(List.nodup_cons.1 d).1 (bw _ z);have ⟨C,t,B⟩:=List.nodup_append.1 (List.nodup_cons.1 d).2;refine ⟨J,c,e,fun b o a=>?_,[g] ++K,⟨[g],K,rfl,⟨j,.inr ⟨g,f,cap,cur,[],hv,A,s,u,q,rfl,?_⟩⟩,m.mono c⟩,List.nodup_cons.2 ⟨i,t⟩,fun b a=>?_⟩
  ·have a:(if b∈k then w.heap[b]? else I b)=some o:=a;split at a
   ·exact a
   ·exact l b o a
  ·exact S9 c (fun b e=>if_pos e) r
  grind
theorem Xx:Cpy (zg T R) (zg T R):=by
 rintro I w c x ⟨v,rfl,h⟩;exact ⟨fun b a=>(by cases a),v,rfl,by exact h⟩
theorem Xy:Zro (zg T R) [.pointer none] .nil:=fun I w=>⟨fun b a=>(by cases a),_,rfl,.nil⟩
theorem Ta {d:List (Tr α)} :(ah E (zg T R)).rd I [v] d↔ ∃f,Kids I v d.length f/\ ∀i x,d[i]? =some x->TreeRd T R I (f i) x:=by
 constructor
 ·rintro ⟨k,cap,e,l,h⟩;obtain rfl:v= .slice k d.length cap:=by grind
  rcases h with rfl | ⟨b,off,a,t,n,rfl,B,p⟩
  ·exact ⟨fun _=>undef,⟨k,cap,rfl,l,.inl rfl⟩,fun i x m=>by grind⟩
  ·refine ⟨fun i=>(a.toList[off+i]?).getD undef,⟨_,cap,rfl,l,.inr ⟨b,off,a,t,n,rfl,B,fun i A=>?_⟩⟩,fun i x m=>?_⟩
   ·have ⟨c,r,s,o⟩:=p i d[i] (List.getElem?_eq_getElem A);simp_all[zg]
   ·have ⟨c,r,s,o⟩:=p i x m;obtain ⟨u,rfl,o⟩:=o;simp_all[zg,undef]
 ·rintro ⟨f,⟨k,cap,rfl,l,h⟩,y⟩;refine ⟨k,cap,rfl,l,?_⟩;rcases h with h | ⟨g,off,a,t,n,q,z,C⟩
  ·grind
  ·refine .inr ⟨g,off,a,t,n,q,z,fun i x m=>⟨[f i],rfl,fun j D=>?_,f i,rfl,y i x m⟩⟩;grind[List.getElem?_eq_some_iff,zg]
theorem Ps {p:α×List (Tr α)} (h:(zg T R).rd I [v] x) (a:x.get=some p): ∃b,v= .pointer (some ⟨b,0,none⟩)/\ ∃cells:List Value,I b=some (.cells cells.toArray T (0,0))/\(aL R (ah E (zg T R))).rd I cells p:=by
 have ⟨u,e,h⟩:=h;obtain rfl:v=u:=by grind
 cases h with
 | nil=>cases a
 | node hb ha hv hk =>
  cases ae a;exact ⟨_,rfl,_,hb,_,_,rfl,ha,Ta.2 ⟨_,hv,hk⟩⟩
theorem Xz (h:(zg T R).rd I [v] x): ∃a:Option Addr,v= .pointer a/\a.isNone=x.isNil:=by
 have ⟨u,e,h⟩:=h;obtain rfl:v=u:=by grind
 cases h <;> exact ⟨_,rfl,rfl⟩
theorem Tb {b:Nat} {c:List Value} {u:Value} {a:α} {d:List (Tr α)} (g:I b=some (.cells (c++ [u]).toArray T (0,0))) (h:R.rd I c a) (e:(ah E (zg T R)).rd I [u] d):(zg T R).rd I [.pointer (some ⟨b,0,none⟩)] (.node a d):=by
 have ⟨j,f,i⟩:=Ta.1 e;exact ⟨_,rfl,.node g h f i⟩
def only (I:Hp) (L:List Nat):Hp:=fun b=>if b∈L then I b else none
theorem qp {L M:List Nat} (h: ∀b,b∈L->b∈M):(only I L).le (only I M):=fun b o a=>by
 simp_all[only,if_pos]
def Rep.Fin {α:Type} (R:Rep α):Prop:= ∀ {I:Hp} {cs:List Value} {x:α},R.rd I cs x-> ∃L,R.rd (only I L) cs x
theorem Kids.fin {n:Nat} {cc:Nat->Value} (h:Kids I v n cc): ∃L,Kids (only I L) v n cc:=by
 have ⟨d,cap,c,e,b⟩:=h;rcases b with b | ⟨g,off,a,t,j,i,k,f⟩
 ·exact ⟨[],d,cap,c,e,.inl b⟩
 ·exact ⟨[g],d,cap,c,e,.inr ⟨g,off,a,t,j,i,by simp_all[only,if_pos],f⟩⟩
theorem TreeRd.fin (m:R.Fin) (h:TreeRd T R I v x): ∃L,TreeRd T R (only I L) v x:=by
 induction h with
 | nil=>exact ⟨[],.nil⟩
 | @node b c v a ks cc f ha hv hk ih =>
  have ⟨j,p⟩:=m ha;have ⟨o,l⟩:=hv.fin;have key: ∀n,∃L,∀i x,i<n->ks[i]? =some x->TreeRd T R (only I L) (cc i) x:=by
   intro n;induction n with
   | zero=>simp_all
   | succ n ihn =>
    have ⟨L,q⟩:=ihn;cases g:ks[n]? with
    | none=>exact ⟨L,fun i x r d=>by
      grind⟩
    | some y =>
     have ⟨M,k⟩:=ih n y g;refine ⟨L++M,fun i x r d=>?_⟩;by_cases e:i=n
     ·subst e;rw[g] at d;cases ae d;exact k.mono (qp fun b f=>by grind)
     ·exact (q i x (by omega) d).mono (qp fun b f=>by grind)
  have ⟨s,t⟩:=key ks.length;refine ⟨b::(j++(o++s)),.node (cc:=cc) (by simp_all[only,if_pos]) (R.rd_mono p (qp fun b f=>by grind)) (l.mono (qp fun b f=>by grind)) fun i x g=>?_⟩;grind[List.getElem?_eq_some_iff,mono,qp]
theorem IJ {enc:α->Value} {h1: ∀a,(enc a).oneCell'=true} :(nA α enc h1).Fin:=fun h=>⟨[],h⟩
theorem XA {α β:Type} {A:Rep α} {B:Rep β} (h:A.Fin) (k:B.Fin):(aL A B).Fin:=by
 rintro I j x ⟨c,d,rfl,e,i⟩;have ⟨L,f⟩:=h e;have ⟨M,a⟩:=k i;exact ⟨L++M,c,d,rfl,A.rd_mono f (qp fun b g=>by grind),B.rd_mono a (qp fun b g=>by grind)⟩
def aar:List Nat->List Nat
 | [] =>[]
 | a::l=>if a∈aar l then aar l else a::aar l
theorem Dc {b:Nat} : ∀ {l:List Nat},b∈aar l↔b∈l
 | [] =>Iff.rfl
 | a::l=>by
  unfold aar;split
  ·rename_i h;rw[Dc,List.mem_cons];exact ⟨.inr,fun k=>k.elim (fun e=>by rw[e];exact Dc.1 h) id⟩
  ·rw[List.mem_cons,List.mem_cons,Dc]
theorem AR: ∀ {l:List Nat},(aar l).Nodup
 | [] =>List.nodup_nil
 | a::l=>by
  unfold aar;split
  ·exact AR
  ·exact List.nodup_cons.2 ⟨‹_›,AR⟩
def Ch.recl (c:Ch):Prop:= ∀ {I J:Hp} {w:World} {F:List Nat},I.le J->J.le (hp w)->c.holds J w F->(∀b,b∈F->J b=none)-> ∃L,(∀b,b∈L->I b=none/\J b≠none)/\L.Nodup/\c.holds I w (F++L)
theorem Tc (i:R.Fin) {cs:List Value} :(Ch.own (zg T R) cs x).recl:=by
 rintro I J w F f d ⟨j,v,rfl,h⟩ l;have ⟨L,k⟩:=h.fin i;let M:=aar (L.filter fun b=>(I b).isNone&&(J b).isSome);have c: ∀b,b∈M↔b∈L/\I b=none/\J b≠none:=fun b=>by
  simp[M,Dc,List.mem_filter,al,Option.isNone_iff_eq_none,Option.isSome_iff_ne_none]
 refine ⟨M,fun b a=>((c b).1 a).2,AR,fun b a=>?_,v,rfl,k.mono fun b o a=>?_⟩
 ·rcases aN a with a | a
  ·grind
  ·have ⟨o,g⟩:=Option.ne_none_iff_exists'.1 ((c b).1 a).2.2;exact (Array.getElem?_eq_some_iff.1 (d b o g)).1
 ·unfold only at a;split at a
  ·unfold ov at a⊢;split at a
   ·grind
   ·cases e:I b with
    | none =>
     rw[if_pos (by grind)];exact d b o a
    | some o' =>
     rw[if_neg (by grind)];rw[<-f b o' e,a] at *
  grind
end
def Ch.back:List Ch->Prop
 | [] =>True
 | c::cs=>(c.deep/\Ch.back cs)\/(c.recl/\Ch.deeps cs)
theorem Ch.back_deeps: ∀ {cs:List Ch},Ch.deeps cs->Ch.back cs
 | [],_=>trivial
 | c::cs,h=>.inl ⟨h.1,back_deeps h.2⟩
theorem St.back {I J:Hp} {w0 w:World} {cs:List Ch} (f:I.le J): ∀ {ds:List Ch},Ch.back ds->St J w0 w (ds++ [Ch.fr I cs])->St I w0 w (ds++cs):=by
 intro ds m ⟨a,u,F,x,v,q⟩;obtain ⟨G,K,rfl,A,i,H,rfl,C,rfl⟩:=x.split;rw[List.append_nil] at v q;have M: ∀b,J b=none->I b=none:=fun b a=>by
  cases z:I b with
  | none=>rfl
  | some o=>rw[f b o z] at a;cases a
 have key: ∀ {ds:List Ch} {G:List Nat},Ch.back ds->Sep J ds w G->(∀b,b∈G->J b=none)-> ∃L,(∀b,b∈L->I b=none/\J b≠none)/\L.Nodup/\ ∃d,d.Perm (G++L)/\Sep I ds w d:=by
  intro ds;induction ds with
  | nil=>intro G _ h _;exact ⟨[],fun b a=>(by cases a),List.nodup_nil,G,by simp,h⟩
  | cons c ds ih =>
   rintro G m ⟨k,p,rfl,t,r⟩ s;rcases m with ⟨hd1,e⟩ | ⟨hd1,e⟩
   ·have ⟨L,l,g,d,j,n⟩:=ih e r fun b a=>s b (bw _ a);exact ⟨L,l,g,k++d,by grind,k,d,rfl,hd1 t,n⟩
   ·have ⟨L,l,g,j⟩:=hd1 f u t fun b a=>s b (bq _ a);refine ⟨L,l,g,(k++L)++p,?_,k++L,p,rfl,j,r.deeps e⟩;grind
 have ⟨L,l,g,d,j,n⟩:=key m A fun b a=>q b (bq _ a);have hp:(d++i).Perm ((G++i)++L):=(j.append_right i).trans (by
  grind)
 refine ⟨a,f.trans u,d++i,n.append C,hp.nodup_iff.2 (List.nodup_append.2 ⟨v,g,fun b B c E y=>?_⟩),fun b D=>?_⟩
 ·grind
 grind
structure LayW (P:Program) (w:World):Prop where
 len: ∃g m,P.globalNamed "internal/bytealg.MaxLen" =some g/\w.cell? ⟨g,0,none⟩=some (.int .i64 m)
 tab:Lib.TabIs P w "internal/strconv.uint64pow10" .u64 Lib.pow10Tab
 syn: ∃tp p,w.var? P "strconv.ErrSyntax" =some #[.iface tp p]
 rng: ∃tp p,w.var? P "strconv.ErrRange" =some #[.iface tp p]
def Lay (P:Program) (J:Hp):Prop:= ∀w:World,J.le (hp w)->LayW P w
theorem Lay.mono {P:Program} {J J':Hp} (h:Lay P J) (a:J.le J'):Lay P J':=fun w b=>h w (a.trans b)
theorem Td {P:Program} {W w:World} {n:String} {cs:Array Value} (d:(hp W).le (hp w)) (h:W.var? P n=some cs):w.var? P n=some cs:=by
 unfold World.var? at h⊢;obtain ⟨g,a,h⟩:=Option.bind_eq_some_iff.1 h;rw[a];show (match w.heap[g]? with | some (.cells cs _ _)=>some cs | _=>none)=some cs;split at h
 ·rename_i c t f b
  have:w.heap[g]? =some (.cells c t f):=d g _ b
  rw[this];exact h
 ·cases h
theorem ack {W w:World} {a:Addr} {v:Value} (c:(hp W).le (hp w)) (h:W.cell? a=some v):w.cell? a=some v:=by
 cases b:W.heap[a.block]? with
 | none=>simp[World.cell?,b] at h
 | some o =>
  have e:w.heap[a.block]? =some o:=c a.block o b;unfold World.cell? at h⊢;rw[b] at h;rw[e];exact h
theorem Lay.of {P:Program} {W:World} (h:LayW P W):Lay P (hp W):=fun w a =>
 ⟨h.len.imp fun g d=>d.imp fun m c=>⟨c.1,ack a c.2⟩,Td a h.tab,h.syn.imp fun t b=>b.imp fun p hp=>Td a hp,h.rng.imp fun t b=>b.imp fun p hp=>Td a hp⟩
end D
namespace R
open Go.RowKit
open D
inductive Ty
 | int (k:IntKind) | bool | str | raw
 | prod (a b:Ty)
 | sl (E:TypeId) (t:Ty)
 | fro (t:Ty)
 | wr (t:Ty)
 | tree (T E:TypeId) (t:Ty)
 | bag (t:Ty)
 deriving DecidableEq
abbrev Raw:= {v:Value // v.oneCell'=true}
def M6:Rep Raw:=nA Raw (·.1) (·.2)
def Ty.den:Ty->Type
 | .int _=>Int
 | .bool=>Bool
 | .str=>ByteArray
 | .raw=>Raw
 | .prod a b=>a.den×b.den
 | .sl _ t=>List t.den
 | .fro t=>t.den
 | .wr t=>t.den
 | .tree _ _ t=>Tr t.den
 | .bag t=>t.den
def Ty.size:Ty->Nat
 | .prod a b=>a.size+b.size
 | .fro t=>t.size
 | .wr t=>t.size
 | .bag t=>t.size
 | _=>1
def Ty.isProd:Ty->Bool
 | .prod _ _=>true
 | .fro t=>t.isProd
 | .wr _=>true
 | .bag t=>t.isProd
 | _=>false
def Ty.rep:(t:Ty)->Rep t.den
 | .int k=>nA Int (.int k) fun _=>rfl
 | .bool=>rp
 | .str=>Iy
 | .raw=>M6
 | .prod a b=>aL a.rep b.rep
 | .sl E t=>ah E t.rep
 | .fro t=>CF t.rep
 | .wr t=>t.rep
 | .tree T _ t=>zg T t.rep
 | .bag t=>SK t.rep
def Ty.erase:Ty->Ty
 | .prod a b=>.prod a.erase b.erase
 | .sl _ t=>.sl 0 t.erase
 | .fro t=>t.erase
 | .bag t=>t.erase
 | .wr t=>.wr t.erase
 | t=>t
theorem Ty.rep_size: ∀t:Ty,t.rep.size=t.size
 | .int _=>rfl
 | .bool=>rfl
 | .str=>rfl
 | .raw=>rfl
 | .prod a b=>by show a.rep.size+b.rep.size=_;rw[rep_size a,rep_size b];rfl
 | .sl _ _=>rfl
 | .fro t=>rep_size t
 | .wr t=>rep_size t
 | .tree _ _ _=>rfl
 | .bag t=>rep_size t
theorem Ty.size_pos: ∀t:Ty,0<t.size
 | .int _=>Nat.one_pos
 | .bool=>Nat.one_pos
 | .str=>Nat.one_pos
 | .raw=>Nat.one_pos
 | .prod a b=>Nat.add_pos_left (size_pos a) _
 | .sl _ _=>Nat.one_pos
 | .fro t=>size_pos t
 | .wr t=>size_pos t
 | .tree _ _ _=>Nat.one_pos
 | .bag t=>size_pos t
abbrev Pk:=(α:Type)×(Nat×(Hp->List Value->α->Prop))
def Ty.pk (t:Ty):Pk:=⟨t.den,t.rep.size,t.rep.rd⟩
def aas (p q:Pk):Pk:=⟨p.1×q.1,p.2.1+q.2.1,fun I cs x=> ∃c d,cs=c++d/\p.2.2 I c x.1/\q.2.2 I d x.2⟩
def aik (p : Pk) : Pk := ⟨List p.1, 1, fun I cs xs => ∃ ao cap, cs = [.slice ao xs.length cap] /\ (xs.length <= lim /\ xs.length <= cap) /\ (xs = [] \/ ∃ b off ccs t fr, ao = some ⟨b, off, none⟩ /\ I b = some (.cells ccs t fr) /\
    ∀ i x, xs[i]? = some x -> ∃ c : List Value, c.length = p.2.1 /\ (∀ j, j < p.2.1 -> ccs.toList[off + i * p.2.1 + j]? = c[j]?) /\ p.2.2 I c x)⟩
theorem Ty.pk_erase: ∀t:Ty,t.erase.pk=t.pk
 | .int _=>rfl
 | .bool=>rfl
 | .str=>rfl
 | .raw=>rfl
 | .prod a b=>by
  show aas a.erase.pk b.erase.pk=aas a.pk b.pk;rw[pk_erase a,pk_erase b]
 | .sl _ t=>by
  show aik t.erase.pk=aik t.pk;rw[pk_erase t]
 | .fro t=>pk_erase t
 | .wr t=>pk_erase t
 | .tree _ _ _=>rfl
 | .bag t=>pk_erase t
theorem Ty.pk_eq {t u:Ty} (h:t.erase=u.erase):t.pk=u.pk:=by grind[pk_erase]
def qq (t u:Ty) (d:t.den):Option u.den:=if h:t.erase=u.erase then some (cast (congrArg Sigma.fst (Ty.pk_eq h)) d) else none
theorem acm {p q:Pk} (h:p=q) {I:Hp} {cs:List Value} {d:p.1} (a:p.2.2 I cs d):q.2.2 I cs (cast (congrArg Sigma.fst h) d):=by subst h;exact a
theorem jB {t u:Ty} {d:t.den} {a:u.den} (h:qq t u d=some a) {J:Hp} {cs:List Value} (c:t.rep.rd J cs d):u.rep.rd J cs a:=by
 unfold qq at h;split at h
 ·rename_i b;cases ae h;exact acm (Ty.pk_eq b) c
 grind
def qu (t u:Ty) (d:t.den):Option u.den:=if h:t=u then some (h ▸ d) else none
theorem qv {t u:Ty} {d:t.den} {a:u.den} (h:qu t u d=some a): ∃e:t=u,a=e ▸ d:=by
 grind[qu,ae]
def Ty.sh:Ty->Bool
 | .prod a b=>a.sh&&b.sh
 | .sl _ _=>false
 | .fro _=>true
 | .wr t=>t.sh
 | .tree _ _ _=>false
 | .bag _=>false
 | _=>true
theorem Ty.sh_ok: ∀ {t:Ty},t.sh=true->t.rep.Sh
 | .int _,_=>ID
 | .bool,_=>abV
 | .str,_=>aeK
 | .raw,_=>ID (α:=Raw) (enc:=(·.1)) (h1:=(·.2))
 | .prod a b,h=>by
  have h:(a.sh&&b.sh)=true:=h;rw[al] at h;exact abU (sh_ok h.1) (sh_ok h.2)
 | .sl _ _,h=>by cases h
 | .fro _,_=>aeJ
 | .wr t,h=>sh_ok (t:=t) h
 | .tree _ _ _,h=>by cases h
 | .bag _,h=>by cases h
theorem Ty.cpy: ∀ {t:Ty},t.sh=true->Cpy t.rep t.rep
 | .int _,_=>za
 | .bool,_=>Pn
 | .str,_=>SV
 | .raw,_=>za (α:=Raw) (enc:=(·.1)) (h1:=(·.2))
 | .prod a b,h=>by
  have h:(a.sh&&b.sh)=true:=h;rw[al] at h;exact Xm (cpy h.1) (cpy h.2)
 | .sl _ _,h=>by cases h
 | .fro _,_=>Xl
 | .wr t,h=>cpy (t:=t) h
 | .tree _ _ _,h=>by cases h
 | .bag _,h=>by cases h
def dens:List Ty->Type
 | [] =>Unit
 | [t] =>t.den
 | t::u::ts=>t.den×dens (u::ts)
def kN:List Ty->Type
 | [] =>Unit
 | t::ts=>t.den×kN ts
def toH:(ts:List Ty)->dens ts->kN ts
 | [],_=>()
 | [_],d=>(d,())
 | _::u::ts,d=>(d.1,toH (u::ts) d.2)
def cur:List Ty->Type->Type
 | [],R=>R
 | t::ts,R=>t.den->cur ts R
def app {R:Type} :(ts:List Ty)->cur ts R->kN ts->R
 | [],f,_=>f
 | _::ts,f,d=>app ts (f d.1) d.2
def Te (J:Hp):(ts:List Ty)->List Value->kN ts->Prop
 | [],vs,_=>vs= []
 | t::ts,vs,d=> ∃v cs r,vs=v::r/\Lds t.isProd cs v/\t.rep.rd J cs d.1/\Te J ts r d.2
def nG (agg:Bool) (v:Value):List Value:=match agg with
 | true=>v.cells.toList
 | false=>[v]
def AS:(i:Nat)->(ts:List Ty)->kN ts->Value->List Ch
 | _,[],_,_=>[]
 | i,t::ts,d,v=>Ch.own t.rep (nG t.isProd (vg v [i])) d.1::AS (i+1) ts d.2 v
def resGv:(ts:List Ty)->kN ts->Value->List Ch
 | [t],d,v=>[Ch.own t.rep (nG t.isProd v) d.1]
 | ts,d,v=>AS 0 ts d v
def qw:Value->Bool
 | .agg _=>true
 | _=>false
def resFa:(ts:List Ty)->Value->Prop
 | [t],v=>qw v=t.isProd
 | ts,v=> ∃vs,v= .tuple vs/\vs.size=ts.length/\ ∀i t,ts[i]? =some t->qw (vs.getD i undef)=t.isProd
def FnOk (P:Program) (w0:World) (J:Hp) (v:Value) (ps rs:List Ty) (e:cur ps (Option (dens rs))):Prop:=
 ∃k first capt,v= .func (.func k) first capt/\Enters P k/\ ∀J',J.le J'-> ∀args d,Te J' ps args d-> ∀r,app ps e d=some r->Con P k (first.toList++args++capt.toList).toArray J' w0 [] (resFa rs) (resGv rs (toH rs r))
theorem FnOk.mono {P:Program} {w0:World} {J J':Hp} {v:Value} {ps rs:List Ty} {e:cur ps (Option (dens rs))} (h:FnOk P w0 J v ps rs e) (f:J.le J'):FnOk P w0 J' v ps rs e:=by
 have ⟨k,first,a,c,g,d⟩:=h;exact ⟨k,first,a,c,g,fun b h=>d b (f.trans h)⟩
theorem FnOk.one {P:Program} {w0:World} {J:Hp} {v:Value} {ps rs:List Ty} {e:cur ps (Option (dens rs))} (h:FnOk P w0 J v ps rs e):v.oneCell'=true:=by
 obtain ⟨k,first,a,rfl,_⟩:=h;rfl
structure Hdr where
 id:Nat
 path:List Nat
def aet:List Nat->List Nat->Bool
 | [],[] =>true
 | a::l,b::m=>Nat.beq a b&&aet l m
 | _,_=>false
def Hdr.beq (a b:Hdr):Bool:=Nat.beq a.id b.id&&aet a.path b.path
theorem Tf: ∀ {l m:List Nat},aet l m=true->l=m
 | [],[],_=>rfl
 | a::l,b::m,h=>by
  have h:(Nat.beq a b&&aet l m)=true:=h;rw[al] at h;rw[aw h.1,Tf h.2]
 | [],_::_,h=>by cases h
 | _::_,[],h=>by cases h
theorem Hdr.beq_eq {a b:Hdr} (h:a.beq b=true):a=b:=by
 unfold Hdr.beq at h;have ⟨i,p⟩:=a;have ⟨j,q⟩:=b;grind[aw,Tf]
inductive LV
 | val (v:Value)
 | nb (b:Bool)
 | rd (h:Hdr) (t:Ty) (d:t.den)
 | own (h:Hdr)
 | ptr (h:Hdr) (off:Nat)
 | fn (h:Hdr) (ps rs:List Ty) (e:cur ps (Option (dens rs)))
 | fz (h:Hdr) (T:TypeId) (t:Ty) (d:t.den) (off:Nat)
 | fzf (h:Hdr) (T:TypeId) (ps rs:List Ty) (e:cur ps (Option (dens rs)))
 | rdn (h:Hdr) (b:Bool) (t:Ty) (d:t.den)
inductive MK
 | int | ii
def MK.den:MK->Type
 | .int=>Int
 | .ii=>Int×Int
def MK.dec:(k:MK)->DecidableEq k.den
 | .int=>(inferInstance:DecidableEq Int)
 | .ii=>(inferInstance:DecidableEq (Int×Int))
def MK.lit:(k:MK)->k.den->Lit
 | .int=>ab9
 | .ii=>ag4
def MK.ok:(k:MK)->k.den->Bool
 | .int=>iOk
 | .ii=>aiT
def MK.val:(k:MK)->k.den->Value
 | .int=>fun n:Int=>.int .i64 n
 | .ii=>fun x:Int×Int=>.agg #[.int .i64 x.1,.int .i64 x.2]
inductive ME
 | int | bool
def ME.den:ME->Type
 | .int=>Int
 | .bool=>Bool
def ME.lit:(e:ME)->e.den->Lit
 | .int=>ab9
 | .bool=>aiS
def ME.ok:(e:ME)->e.den->Bool
 | .int=>iOk
 | .bool=>bOk
def ME.z:(e:ME)->e.den
 | .int=>(0:Int)
 | .bool=>false
def ME.val:(e:ME)->e.den->Value
 | .int=>fun n:Int=>.int .i64 n
 | .bool=>fun b:Bool=>.bool b
inductive AV
 | one (x:LV)
 | agg (xs:List LV)
 | tup (ys:List (Bool×List LV))
 | elr (h:Hdr) (E:TypeId) (t:Ty) (xs:List t.den) (x:t.den) (i:Int) (off:Nat)
 | elo (h:Hdr) (ver:Nat) (E:TypeId) (t:Ty) (xs:List t.den) (x:t.den) (i:Int) (off:Nat)
 | sub (h:Hdr) (ver:Nat) (E:TypeId) (t:Ty) (xs:List t.den) (l:Int)
 | pre (h:Hdr) (ver:Nat) (E:TypeId) (t:Ty) (xs:List t.den) (l:Int)
 | vw (u h:Hdr) (k n:Nat) (l m:Int)
 | xv (top:Bool) (u h:Hdr) (k n:Nat) (l m:Int)
 | capv (h:Hdr) (c:Nat)
 | any (h:Hdr)
 | und
inductive Chk
 | own (t:Ty) (d:t.den)
 | blk (T:TypeId) (cells:List LV)
 | hole (over:Nat) (t:Ty) (d:t.den) (u:Ty) (y:u.den) (f:u.den->t.den) (i:Int) (k off:Nat) (lv:LV)
 | box (T:TypeId) (t:Ty) (d:t.den)
 | map (K E:TypeId) (k:MK) (e:ME) (m:List (k.den×e.den))
 | clo (k:FuncId) (first:List (Bool×List LV)) (capt:List LV)
abbrev Ent:=Hdr×Nat×Chk
structure Sg where
 env:List (Nat×Nat×AV)
 chs:List Ent
 nxt:Nat
def Ch.gap {α β:Type} (R:Rep α) (cs:List Value) (S:Rep β) (f:β->α) (b off:Nat) (v:Value):Ch where
 holds I w K:=b∈K/\(∃cur E,w.heap[b]? =some (.cells cur E (0,0))/\cur[off]? =some v)/\(∀x,x∈K->x<w.heap.size) /\
  ∀J w' v' y G,I.le J->(∀x,x∈K->x≠b->w'.heap[x]? =w.heap[x]?)->(∀cur E,w.heap[b]? =some (.cells cur E (0,0))->w'.heap[b]? =some (.cells (cur.setIfInBounds off v') E (0,0)))->S.own J w' [v'] y G-> ∃F,F.Perm (G++K)/\R.own J w' cs (f y) F
 mono:=by
  rintro I J w K ⟨h1,h2,h3,h4⟩ hJ
  exact ⟨h1,h2,h3,fun J' w' v' y G hJ'=>h4 J' w' v' y G (hJ.trans hJ')⟩
 stay:=by
  rintro I w w' K ⟨h1,⟨cur,E,h2,h2'⟩,h3,h4⟩ hw
  have hb:w'.heap[b]? =some (.cells cur E (0,0)):=by rw[hw b h1];exact h2
  refine ⟨h1,⟨cur,E,hb,h2'⟩,fun x hx=>?_,fun J w'' v' y G hJ k1 k2=>h4 J w'' v' y G hJ (fun x hx hne=>by rw[k1 x hx hne,hw x hx]) fun cur' E' hc=>k2 cur' E' (by rw[hw b h1];exact hc)⟩
  have hlt:=h3 x hx
  have:w.heap[x]? =some w.heap[x]:=Array.getElem?_eq_getElem hlt
  rw[<-hw x hx] at this
  exact (Array.getElem?_eq_some_iff.1 this).1
 live:=fun h=>h.2.2.1
def Ch.box {α:Type} (b:Nat) (T:TypeId) (R:Rep α) (d:α):Ch where
 holds I w F:= ∃(cells:List Value) (G:List Nat),F=b::G/\w.heap[b]? =some (.cells cells.toArray T (0,0))/\R.own I w cells d G
 mono:=by
  rintro I J w F ⟨cells,G,rfl,h1,h2⟩ hJ
  exact ⟨cells,G,rfl,h1,R.own_mono h2 hJ⟩
 stay:=by
  rintro I w w' F ⟨cells,G,rfl,h1,h2⟩ hw
  exact ⟨cells,G,rfl,by rw[hw b (by simp)];exact h1,R.own_stay h2 fun c hc=>hw c (by simp[hc])⟩
 live:=by
  rintro I w F ⟨cells,G,rfl,h1,h2⟩ c hc
  rcases az hc with rfl | hc
  ·exact (Array.getElem?_eq_some_iff.1 h1).1
  ·exact R.own_live h2 c hc
def Ch.emp:Ch where
 holds I w F:=F= []
 mono h _:=h
 stay h _:=h
 live:=by rintro I w F rfl b hb;cases hb
theorem St.emp {I:Hp} {w0 w:World} {C:List Ch} :St I w0 w (Ch.emp::C)↔St I w0 w C:=by
 constructor
 ·rintro ⟨b,d,F,⟨G,K,rfl,rfl,e⟩,a,c⟩;exact ⟨b,d,K,e,a,c⟩
 ·rintro ⟨b,d,F,e,a,c⟩;exact ⟨b,d,F,⟨[],F,rfl,rfl,e⟩,a,c⟩
theorem St.box {I:Hp} {w0 w:World} {C:List Ch} {α:Type} {b:Nat} {T:TypeId} {R:Rep α} {d:α} :St I w0 w (Ch.box b T R d::C)↔ ∃cells,St I w0 w (Ch.blk b cells T::Ch.own R cells d::C):=by
 constructor
 ·rintro ⟨f,j,F,⟨G,K,rfl,⟨cells,a,rfl,h,g⟩,e⟩,c,i⟩;exact ⟨cells,f,j,b::(a++K),⟨[b],a++K,rfl,⟨rfl,h⟩,a,K,rfl,g,e⟩,c,i⟩
 ·rintro ⟨cells,f,j,F,⟨G,K,rfl,⟨rfl,h⟩,a,k,rfl,g,e⟩,c,i⟩;exact ⟨f,j,b::(a++k),⟨b::a,k,rfl,⟨cells,a,rfl,h,g⟩,e⟩,c,i⟩
abbrev Th:=Nat->Value
def hv (θ:Th) (h:Hdr):Value:=vg (θ h.id) h.path
def LV.v (θ:Th):LV->Value
 | .val v=>v
 | .nb b=>.bool (!b)
 | .rd h _ _=>hv θ h
 | .own h=>hv θ h
 | .ptr h off=>.pointer (some ⟨bk (hv θ h),off,none⟩)
 | .fn h _ _ _=>hv θ h
 | .fz h _ _ _ off=>.pointer (some ⟨bk (hv θ h),off,none⟩)
 | .fzf h _ _ _ _=>.pointer (some ⟨bk (hv θ h),0,none⟩)
 | .rdn h _ _ _=>hv θ h
def mu (θ:Th) (y:Bool×List LV):Value:=if y.1 then .agg (y.2.map (·.v θ)).toArray else match y.2 with
 | x::_=>x.v θ
 | [] =>undef
def AV.v (θ:Th):AV->Value
 | .one x=>x.v θ
 | .agg xs=>.agg (xs.map (·.v θ)).toArray
 | .tup ys=>.tuple (ys.map (mu θ)).toArray
 | .elr h _ t _ _ i off=>pt (hv θ h) (i.toNat*t.size+off)
 | .elo h _ _ t _ _ i off=>pt (hv θ h) (i.toNat*t.size+off)
 | .sub h _ _ t xs l=>uf (hv θ h) l.toNat xs.length t.size
 | .pre h _ _ t xs l=>uf (hv θ h) 0 l.toNat t.size
 | .vw u _ _ _ _ _=>hv θ u
 | .xv _ u _ _ _ _ _=>hv θ u
 | .capv _ c=>.int .i64 c
 | .any h=>hv θ h
 | .und=>undef
def Vw (u v:Value) (k n:Nat) (l m:Int):Prop:=(v= .slice none 0 0/\u= .slice none 0 0/\n=0/\l=0/\m=0) \/
 ∃g ofs cap x,v= .slice (some ⟨g,ofs,none⟩) n cap/\u= .slice (some ⟨g,ofs+x,none⟩) (m.toNat - l.toNat) (cap - l.toNat)/\0<=l/\l<=m/\n<=cap/\m<=(cap:Int)/\x<=l.toNat*k/\(cap=l.toNat\/x=l.toNat*k)
def Xd:Value->Nat
 | .slice _ _ c=>c
 | _=>0
def K0:Value->Bool
 | .slice none _ _=>true
 | _=>false
def LV.ok (P:Program) (w0:World) (J:Hp) (θ:Th) (n:Nat):LV->Prop
 | .val v=>v.oneCell'=true
 | .nb _=>True
 | .rd h t d=>h.id<n/\t.rep.rd J [hv θ h] d
 | .own h=>h.id<n/\(hv θ h).oneCell'=true
 | .ptr h _=>h.id<n
 | .fn h ps rs e=>h.id<n/\FnOk P w0 J (hv θ h) ps rs e
 | .fz h T t d _=>h.id<n/\ ∃cells:List Value,J (bk (hv θ h))=some (.cells cells.toArray T (0,0))/\t.rep.rd J cells d
 | .fzf h T ps rs e=>h.id<n/\ ∃u:Value,J (bk (hv θ h))=some (.cells [u].toArray T (0,0))/\FnOk P w0 J u ps rs e
 | .rdn h b t d=>h.id<n/\t.rep.rd J [hv θ h] d/\K0 (hv θ h)=b
def SaysH (x:Chk) (ver:Nat) (c:Chk):Prop:=match x with
 | .hole over t d _ _ _ _ _ _ _=>over=ver/\c= .own t d
 | _=>False
def Says (e:Ent) (h:Hdr) (ver:Nat) (c:Chk):Prop:=e.1=h/\((e.2.1=ver/\c=e.2.2)\/SaysH e.2.2 ver c)
def Mem (chs:List Ent) (n:Nat) (h:Hdr) (ver:Nat) (c:Chk):Prop:=ver<n/\ ∀e,e∈chs-> ∀c',Says e h ver c'->c'=c
def AV.ok (P:Program) (w0:World) (J:Hp) (θ:Th) (n:Nat) (chs:List Ent):AV->Prop
 | .one x=>x.ok P w0 J θ n
 | .agg xs=> ∀x∈xs,x.ok P w0 J θ n
 | .tup ys=> ∀y∈ys,∀x∈y.2,x.ok P w0 J θ n
 | .elr h E t xs x i _=>h.id<n/\aK xs i=some x/\(Ty.sl E t).rep.rd J [hv θ h] xs
 | .elo h ver E t xs x i _=>h.id<n/\aK xs i=some x/\Mem chs n h ver (.own (.sl E t) xs)
 | .sub h ver E t xs l=>h.id<n/\(0<=l/\l<=(xs.length:Int))/\Mem chs n h ver (.own (.sl E t) xs)
 | .pre h ver E t xs l=>h.id<n/\(0<=l/\l<=(xs.length:Int))/\Mem chs n h ver (.own (.sl E t) xs)
 | .vw u h k N l m=>u.id<n/\h.id<n/\Vw (hv θ u) (hv θ h) k N l m/\m<=(N:Int)
 | .xv top u h k N l m=>u.id<n/\h.id<n/\Vw (hv θ u) (hv θ h) k N l m/\(top=true->l=0)
 | .capv h c=>h.id<n/\Xd (hv θ h)=c
 | .any h=>h.id<n
 | .und=>True
def toCh (P:Program) (θ:Th) (e:Ent):Ch:=match e.2.2 with
 | .own t d=>Ch.own t.rep [hv θ e.1] d
 | .blk T cells=>Ch.blk (bk (hv θ e.1)) (cells.map (·.v θ)) T
 | .hole _ t _ u _ f i k off lv=>Ch.gap t.rep [hv θ e.1] u.rep f (ptB (hv θ e.1)) (ptO (hv θ e.1)+(i.toNat*k+off)) (lv.v θ)
 | .box T t d=>Ch.box (bk (hv θ e.1)) T t.rep d
 | .map K E k m md=> @Ch.mp P K E k.den m.den k.dec k.lit k.ok m.lit m.z (hv θ e.1) md
 | .clo _ _ _=>Ch.emp
def okE (P:Program) (w0:World) (J:Hp) (θ:Th) (n:Nat) (chs:List Ent) (e:Ent):Prop:=e.1.id<n/\e.2.1<n/\match e.2.2 with
 | .own _ _=>True
 | .blk _ cells=> ∀x∈cells,x.ok P w0 J θ n
 | .hole over t d u y f _ _ _ lv=>lv.ok P w0 J θ n/\over<e.2.1/\f y=d/\ ∀l,lv= .own l->Mem chs n l e.2.1 (.own u y)
 | .box _ _ _=>True
 | .map _ _ _ _ _=>True
 | .clo k first capt=>(∀y∈first,∀x∈y.2,x.ok P w0 J θ n)/\(∀x∈capt,x.ok P w0 J θ n)/\hv θ e.1= .func (.func k) (first.map (mu θ)).toArray (capt.map (·.v θ)).toArray
def envL (θ:Th) (s:Sg):List (Nat×Value):=s.env.map fun e=>(e.1,e.2.2.v θ)
structure Fine (P:Program) (w0:World) (J:Hp) (θ:Th) (s:Sg):Prop where
 env: ∀e∈s.env,e.2.2.ok P w0 J θ s.nxt s.chs
 ver: ∀e∈s.env,e.2.1<s.nxt
 nd:s.env.Pairwise fun a b=>a.2.1≠b.2.1
 chs: ∀e∈s.chs,okE P w0 J θ s.nxt s.chs e
 lay:Lay P J
structure Sim (P:Program) (I:Hp) (w0:World) (F:Ch) (n:Nat) (J:Hp) (θ:Th) (s:Sg) (a:Act) (w:World):Prop where
 le:I.le J
 agr:Agr n a (envL θ s)
 st:St J w0 w (s.chs.map (toCh P θ)++ [F])
 fine:Fine P w0 J θ s
section
variable {P:Program} {w0:World} {J J':Hp} {θ θ':Th} {n m:Nat} {v:Value} {chs chs':List Ent}
theorem LV.one {x:LV} (h:x.ok P w0 J θ n):(x.v θ).oneCell'=true:=by
 cases x with
 | val v=>exact h
 | nb b=>rfl
 | rd h' t d=>exact Rep.rd_one _ h.2 _ (by simp[LV.v])
 | own h'=>exact h.2
 | ptr h' off=>rfl
 | fn h' ps rs e=>exact h.2.one
 | fz _ _ _ _ _=>rfl
 | fzf _ _ _ _ _=>rfl
 | rdn h' b t d=>exact Rep.rd_one _ h.2.1 _ (by simp[LV.v])
theorem K4 {v:Value} (h:v.oneCell'=true):v.cells= [v].toArray:=by cases v <;> first | rfl | cases h
def Same (n:Nat) (θ θ':Th):Prop:= ∀i,i<n->θ' i=θ i
theorem Same.upd:Same n θ (upd θ n v):=fun i a=>Pg (by omega)
theorem Same.rfl:Same n θ θ:=fun i a=>Eq.refl _
theorem Same.trans {θ'':Th} (h:Same n θ θ') (k:Same m θ' θ'') (b:n<=m):Same n θ θ'':=fun i a=>(k i (by omega)).trans (h i a)
theorem a7 (hs:Same n θ θ') {h:Hdr} (a:h.id<n):hv θ' h=hv θ h:=by unfold hv;rw[hs _ a]
theorem LV.v_same (hs:Same n θ θ') {x:LV} (h:x.ok P w0 J θ n):x.v θ'=x.v θ:=by
 cases x with
 | val _=>rfl
 | nb _=>rfl
 | rd h' t d=>exact a7 hs h.1
 | own h'=>exact a7 hs h.1
 | ptr h' off=>show Value.pointer (some ⟨bk (hv θ' h'),off,none⟩)=_;rw[a7 hs h];rfl
 | fn h' ps rs e=>exact a7 hs h.1
 | fz h' T t d off=>show Value.pointer (some ⟨bk (hv θ' h'),off,none⟩)=_;rw[a7 hs h.1];rfl
 | fzf h' T ps rs e=>show Value.pointer (some ⟨bk (hv θ' h'),0,none⟩)=_;rw[a7 hs h.1];rfl
 | rdn h' b t d=>exact a7 hs h.1
theorem LV.ok_same (hs:Same n θ θ') (a:n<=m) {x:LV} (h:x.ok P w0 J θ n) (c:J.le J'):x.ok P w0 J' θ' m:=by
 cases x with
 | val _=>exact h
 | nb _=>trivial
 | rd h' t d=>exact ⟨aC h.1 a,by rw[a7 hs h.1];exact Rep.rd_mono _ h.2 c⟩
 | own h'=>exact ⟨aC h.1 a,by rw[a7 hs h.1];exact h.2⟩
 | ptr h' off=>exact aC h a
 | fn h' ps rs e=>exact ⟨aC h.1 a,by rw[a7 hs h.1];exact h.2.mono c⟩
 | fz h' T t d off =>
  have ⟨f,cells,i,g⟩:=h;exact ⟨aC f a,cells,by rw[a7 hs f];exact c _ _ i,Rep.rd_mono _ g c⟩
 | fzf h' T ps rs e =>
  have ⟨f,u,i,g⟩:=h;exact ⟨aC f a,u,by rw[a7 hs f];exact c _ _ i,g.mono c⟩
 | rdn h' b t d=>exact ⟨aC h.1 a,by rw[a7 hs h.1];exact ⟨Rep.rd_mono _ h.2.1 c,h.2.2⟩⟩
theorem jc (hs:Same n θ θ') {xs:List LV} (h: ∀x∈xs,x.ok P w0 J θ n):xs.map (·.v θ')=xs.map (·.v θ):=List.map_congr_left fun x a=>LV.v_same hs (h x a)
theorem AT (hs:Same n θ θ') {y:Bool×List LV} (a: ∀x∈y.2,x.ok P w0 J θ n):mu θ' y=mu θ y:=by
 unfold mu;rw[jc hs a];split
 ·rfl
 ·cases b:y.2 with
  | nil=>rfl
  | cons x l=>exact LV.v_same hs (a x (by grind))
theorem AV.v_same (hs:Same n θ θ') {x:AV} (h:x.ok P w0 J θ n chs):x.v θ'=x.v θ:=by
 cases x with
 | one x=>exact LV.v_same hs h
 | agg xs=>show Value.agg _=Value.agg _;rw[jc hs h]
 | tup ys =>
  show Value.tuple _=Value.tuple _;congr 2;refine List.map_congr_left fun y a=>?_;exact AT hs (h y a)
 | elr h' E t xs x i off=>show pt (hv θ' h') _=_;rw[a7 hs h.1];rfl
 | elo h' ver E t xs x i off=>show pt (hv θ' h') _=_;rw[a7 hs h.1];rfl
 | sub h' ver E t xs l=>show uf (hv θ' h') _ _ _=_;rw[a7 hs h.1];rfl
 | pre h' ver E t xs l=>show uf (hv θ' h') _ _ _=_;rw[a7 hs h.1];rfl
 | vw u h' k N l m=>exact a7 hs h.1
 | xv top u h' k N l m=>exact a7 hs h.1
 | capv h' c=>rfl
 | any h'=>exact a7 hs h
 | und=>rfl
def Newer (n:Nat) (chs chs':List Ent):Prop:= ∀e,e∈chs'-> ∀h ver c,Says e h ver c->n<=ver\/ ∃e0,e0∈chs/\Says e0 h ver c
theorem Newer.rfl:Newer n chs chs:=fun e b h d c a=>.inr ⟨e,b,a⟩
theorem Mem.newer (j:Newer n chs chs') (f:n<=m) {h:Hdr} {ver:Nat} {c:Chk} (k:Mem chs n h ver c):Mem chs' m h ver c:=
 ⟨aC k.1 f,fun e i b d=>by
  rcases j e i h ver b d with a | ⟨g,l,a⟩
  ·have:=k.1;omega
  ·exact k.2 g l b a⟩
theorem AV.ok_same (hs:Same n θ θ') (a:n<=m) (e:Newer n chs chs') {x:AV} (h:x.ok P w0 J θ n chs) (b:J.le J'):x.ok P w0 J' θ' m chs':=by
 cases x with
 | one x=>exact LV.ok_same hs a h b
 | agg xs=>exact fun x d=>LV.ok_same hs a (h x d) b
 | tup ys=>exact fun y f x d=>LV.ok_same hs a (h y f x d) b
 | elr h' E t xs x i off=>exact ⟨aC h.1 a,h.2.1,by rw[a7 hs h.1];exact Rep.rd_mono _ h.2.2 b⟩
 | elo h' ver E t xs x i off=>exact ⟨aC h.1 a,h.2.1,h.2.2.newer e a⟩
 | sub h' ver E t xs l=>exact ⟨aC h.1 a,h.2.1,h.2.2.newer e a⟩
 | pre h' ver E t xs l=>exact ⟨aC h.1 a,h.2.1,h.2.2.newer e a⟩
 | vw u h' k N l m=>exact ⟨aC h.1 a,aC h.2.1 a,by rw[a7 hs h.1,a7 hs h.2.1];exact h.2.2⟩
 | xv top u h' k N l m=>exact ⟨aC h.1 a,aC h.2.1 a,by rw[a7 hs h.1,a7 hs h.2.1];exact h.2.2⟩
 | capv h' c=>exact ⟨aC h.1 a,by rw[a7 hs h.1];exact h.2⟩
 | any h'=>exact aC h a
 | und=>trivial
theorem qx (hs:Same n θ θ') {e:Ent} (h:okE P w0 J θ n chs e):toCh P θ' e=toCh P θ e:=by
 have ⟨k,a,c⟩:=e;cases c with
 | own t d=>show Ch.own _ [hv θ' k] d=_;rw[a7 hs h.1];rfl
 | blk T cells=>show Ch.blk (bk (hv θ' k)) (cells.map (·.v θ')) T=_;rw[a7 hs h.1,jc hs h.2.2];rfl
 | hole over t d u y f i kk off lv=>show Ch.gap _ [hv θ' k] _ f (ptB (hv θ' k)) (ptO (hv θ' k)+(i.toNat*kk+off)) (lv.v θ')=_;rw[a7 hs h.1,LV.v_same hs h.2.2.1];rfl
 | box T t d=>show Ch.box (bk (hv θ' k)) T _ d=_;rw[a7 hs h.1];rfl
 | map K E kk e m=>show @Ch.mp P K E kk.den e.den kk.dec kk.lit kk.ok e.lit e.z (hv θ' k) m=_;rw[a7 hs h.1];rfl
 | clo _ _ _=>rfl
theorem gx (hs:Same n θ θ') (a:n<=m) (s:Newer n chs chs') {e:Ent} (h:okE P w0 J θ n chs e) (g:J.le J'):okE P w0 J' θ' m chs' e:=by
 have ⟨k,w,c⟩:=e;cases c with
 | own t d=>exact ⟨aC h.1 a,aC h.2.1 a,trivial⟩
 | blk T cells=>exact ⟨aC h.1 a,aC h.2.1 a,fun x b=>LV.ok_same hs a (h.2.2 x b) g⟩
 | hole over t d u y f i kk off lv=>exact ⟨aC h.1 a,aC h.2.1 a,LV.ok_same hs a h.2.2.1 g,h.2.2.2.1,h.2.2.2.2.1,fun l r=>(h.2.2.2.2.2 l r).newer s a⟩
 | box T t d=>exact ⟨aC h.1 a,aC h.2.1 a,trivial⟩
 | map K E kk e m=>exact ⟨aC h.1 a,aC h.2.1 a,trivial⟩
 | clo f first capt =>
  have ⟨p,A,q,o,z⟩:=h;refine ⟨aC p a,aC A a,fun y j x b=>LV.ok_same hs a (q y j x b) g,fun x b=>LV.ok_same hs a (o x b) g,?_⟩;rw[a7 hs p,jc hs o,List.map_congr_left fun y j=>AT hs (q y j)];exact z
theorem kh (hs:Same n θ θ') {l:List Ent} (h: ∀e∈l,okE P w0 J θ n chs e):l.map (toCh P θ')=l.map (toCh P θ):=List.map_congr_left fun e a=>qx hs (h e a)
theorem DF (hs:Same n θ θ') {s:Sg} (h: ∀e∈s.env,e.2.2.ok P w0 J θ n chs):envL θ' s=envL θ s:=List.map_congr_left fun e a=>by grind[AV.v_same]
end
def look (l:List (Nat×Nat×AV)) (t:Nat):Option AV:=match l with
 | [] =>none
 | (u,_,v)::l=>if Nat.beq u t then some v else look l t
def Nn (v:Value):Option AV:=match v.oneCell' with
 | true=>some (.one (.val v))
 | false=>none
def opd (s:Sg):Operand->Option AV
 | .tmp t=>look s.env t
 | .const v=>Nn v
 | .func f=>some (.one (.val (.func (.func f) #[] #[])))
 | .global _=>none
theorem wG {t:Nat} {v:AV} : ∀ {l:List (Nat×Nat×AV)},look l t=some v-> ∃e∈l,e.2.2=v
 | (u,k,x)::l,h=>by
  unfold look at h;split at h
  ·simp_all
  ·have ⟨e,a,b⟩:=wG h;grind
theorem iV {θ:Th} {t:Nat} {v:AV} : ∀ {l:List (Nat×Nat×AV)},look l t=some v->(l.map fun e=>(e.1,e.2.2.v θ)).lookup t=some (v.v θ)
 | (u,k,x)::l,h=>by
  unfold look at h;rw[List.map_cons,List.lookup_cons];split at h
  ·simp_all
  ·rename_i b;have a:(t==u)=false:=by
    simp[beq_eq_false_iff_ne];intro e;subst e;exact b (Nat.beq_refl t)
   rw[show (t==(u,x.v θ).1)=false from a];exact iV h
section
variable {P:Program} {w0:World} {J:Hp} {θ:Th} {s:Sg} {x:Operand} {v:AV}
theorem Hv {c:Value} (h:Nn c=some v):c.oneCell'=true/\v= .one (.val c):=by
 grind[Nn,ae]
theorem bQ (d:Fine P w0 J θ s) (h:opd s x=some v):v.ok P w0 J θ s.nxt s.chs:=by
 cases x with
 | tmp t=>obtain ⟨e,b,rfl⟩:=wG h;exact d.env e b
 | const c=>obtain ⟨a,rfl⟩:=Hv h;exact a
 | func f=>rw[<-ae h];rfl
 | global g=>cases h
theorem aG (h:opd s x=some v):evL (envL θ s) x=v.v θ:=by
 cases x with
 | tmp t =>
  have:=iV (θ:=θ) h
  show ((envL θ s).lookup t).getD undef=_;grind[envL]
 | const c=>obtain ⟨a,rfl⟩:=Hv h;rfl
 | func f=>rw[<-ae h];rfl
 | global g=>cases h
def okO (n:Nat) (s:Sg) (o:Oper):Bool:=o.op.operands.toList.all (fun x=>(opd s x).isSome || match x with | .global _=>true | _=>false)&&dstOk n o.dst&&noSelect o
theorem aat {n:Nat} {o:Oper} (h:okO n s o=true):(Iz (envL θ s) o&&dstOk n o.dst&&noSelect o)=true:=by
 unfold okO at h;rw[al,al] at h;rw[al,al];refine ⟨⟨List.all_eq_true.2 fun x a=>?_,h.1.2⟩,h.2⟩;have a:=List.all_eq_true.1 h.1.1 x a;cases x with
 | tmp t =>
  simp[Bool.or_false] at a;have ⟨v,hv⟩:=Option.isSome_iff_exists.1 a
  have:=iV (θ:=θ) (show look s.env t=some v from hv)
  show ((envL θ s).lookup t).isSome=true;grind[envL]
 | const c=>rfl
 | func f=>rfl
 | global g=>rfl
end
structure Res where
 rs:List Ent
 ns:List Ent
 rest:List Ent
 gives:List (Hdr×Chk)
 av:AV
def Res.chs (r:Res) (ver:Nat):List Ent:=r.gives.map (fun g=>(g.1,ver,g.2))++(r.rs++r.rest)
def Tg (d:Option Nat) (n:Nat) (v:AV) (l:List (Nat×Nat×AV)):List (Nat×Nat×AV):=match d with
 | some d=>(d,n,v)::l
 | none=>l
def after (s:Sg) (d:Option Nat) (r:Res):Sg:=⟨Tg d s.nxt r.av s.env,r.chs s.nxt,s.nxt+1⟩
def Res.pure (s:Sg) (av:AV):Res:=⟨[],[],s.chs,[],av⟩
structure Good (P:Program) (w0:World) (s:Sg) (o:Oper) (r:Res):Prop where
 perm:s.chs.Perm (r.rs++r.ns++r.rest)
 says: ∀J θ,Fine P w0 J θ s-> ∀g,g∈r.gives-> ∀ver c,SaysH g.2 ver c-> ∃e0,e0∈s.chs/\Says e0 g.1 ver c
 op: ∀J θ,Fine P w0 J θ s->OpT P J w0 o (evL (envL θ s)) ((r.rs++r.ns).map (toCh P θ))
  (fun v=>r.av.ok P w0 J (upd θ s.nxt v) (s.nxt+1) (r.chs s.nxt)/\r.av.v (upd θ s.nxt v)=v/\ ∀g∈r.gives,okE P w0 J (upd θ s.nxt v) (s.nxt+1) (r.chs s.nxt) (g.1,s.nxt,g.2))
  (fun v=>r.rs.map (toCh P θ)++r.gives.map fun g=>toCh P (upd θ s.nxt v) (g.1,s.nxt,g.2))
structure GoodA (P:Program) (w0:World) (J:Hp) (θ:Th) (s:Sg) (o:Oper) (r:Res):Prop where
 perm:s.chs.Perm (r.rs++r.ns++r.rest)
 says: ∀g,g∈r.gives-> ∀ver c,SaysH g.2 ver c-> ∃e0,e0∈s.chs/\Says e0 g.1 ver c
 op:OpT P J w0 o (evL (envL θ s)) ((r.rs++r.ns).map (toCh P θ))
  (fun v=>r.av.ok P w0 J (upd θ s.nxt v) (s.nxt+1) (r.chs s.nxt)/\r.av.v (upd θ s.nxt v)=v/\ ∀g∈r.gives,okE P w0 J (upd θ s.nxt v) (s.nxt+1) (r.chs s.nxt) (g.1,s.nxt,g.2))
  (fun v=>r.rs.map (toCh P θ)++r.gives.map fun g=>toCh P (upd θ s.nxt v) (g.1,s.nxt,g.2))
theorem Good.at {P:Program} {w0:World} {J:Hp} {θ:Th} {s:Sg} {o:Oper} {r:Res} (h:Good P w0 s o r) (a:Fine P w0 J θ s):GoodA P w0 J θ s o r:=⟨h.perm,h.says J θ a,h.op J θ a⟩
def plain (l:List (Hdr×Chk)):Bool:=l.all fun g=>match g.2 with
 | .hole _ _ _ _ _ _ _ _ _ _=>false
 | _=>true
theorem aS {P:Program} {w0:World} {s:Sg} {l:List (Hdr×Chk)} {chs:List Ent} (h:plain l=true): ∀J θ,Fine P w0 J θ s-> ∀g,g∈l-> ∀a c,SaysH g.2 a c-> ∃e0,e0∈chs/\Says e0 g.1 a c:=fun _ _ _ g d a c b=>by
 have:=(List.all_eq_true.1 h) g d
 have ⟨e,x⟩:=g;cases x with
 | hole _ _ _ _ _ _ _ _ _ _=>grind
 | _=>exact b.elim
theorem OpT.weak {P:Program} {w0:World} {o:Oper} {I:Hp} {ev:Operand->Value} {rn:List Ch} {fact a:Value->Prop} {gv b:Value->List Ch} (h:OpT P I w0 o ev rn fact gv) (d: ∀v,fact v->a v) (e: ∀v,fact v->gv v=b v):OpT P I w0 o ev rn a b :=
 fun w C c=>(h w C c).imp fun v w hv=>⟨d v hv.1,by grind⟩
section
variable {P:Program} {I:Hp} {w0 w:World} {F:Ch} {n:Nat} {J:Hp} {θ:Th} {s:Sg} {a:Act} {o:Oper} {r:Res} {av:AV}
theorem Res.newer (hp:s.chs.Perm (r.rs++r.ns++r.rest)) (hs: ∀g,g∈r.gives-> ∀b c,SaysH g.2 b c-> ∃e0,e0∈s.chs/\Says e0 g.1 b c):Newer s.nxt s.chs (r.chs s.nxt):=fun e d h b c k=>by
 rcases aN d with d | d
 ·obtain ⟨g,f,rfl⟩:=List.mem_map.1 d;obtain ⟨rfl,k⟩:=k;grind
 grind
theorem fj (e: ∀J θ,Fine P w0 J θ s->OpT P J w0 o (evL (envL θ s)) [] (· =av.v θ) (fun _=>[])) (b: ∀J θ,Fine P w0 J θ s->av.ok P w0 J θ s.nxt s.chs):Good P w0 s o (Res.pure s av):=
 ⟨List.Perm.refl _,fun _ _ _ g c=>(by cases c),fun J θ d=>OpT.weak (e J θ d) (fun v hv=>by
  subst hv;exact ⟨AV.ok_same Same.upd (Nat.le_succ _) Newer.rfl (b J θ d) Hp.le.rfl,AV.v_same Same.upd (b J θ d),fun g c=>by cases c⟩) (fun v hv=>rfl)⟩
theorem IK {θ':Th} {d:Option Nat} {v:Value} (h:envL θ' s=envL θ s) (hv:av.v θ'=v) {chs:List Ent} {m:Nat} :envL θ' ⟨Tg d s.nxt av s.env,chs,m⟩=Xa d v (envL θ s):=by
 cases d with
 | none=>exact h
 | some d=>show (d,av.v θ')::envL θ' s=_;rw[h,hv];rfl
theorem tk {e:Nat×Nat×AV} {k:Nat} : ∀ {d:Option Nat} {l:List (Nat×Nat×AV)},e∈Tg d k av l->(e.2.2=av/\e.2.1=k)\/e∈l:=by
 intro d l b;cases d with
 | none=>exact .inr b
 | some d =>
  rcases az b with rfl | h
  ·grind
  grind
theorem K5 {d:Option Nat} {k:Nat} {l:List (Nat×Nat×AV)} (h:l.Pairwise fun a b=>a.2.1≠b.2.1) (hv: ∀e∈l,e.2.1<k):(Tg d k av l).Pairwise fun a b=>a.2.1≠b.2.1:=by
 cases d with
 | none=>exact h
 | some d=>exact List.pairwise_cons.2 ⟨fun e f c=>by grind,h⟩
theorem aau {ops:Array Oper} {rest:List Oper} {Q:Exit->Act->World->Prop} (i:GoodA P w0 J θ s o r) (d:Sim P I w0 F n J θ s a w) (l:o.guard=none) (m:okO n s o=true)
  (k: ∀θ' a w,Same s.nxt θ θ'->Sim P I w0 F n J θ' (after s o.dst r) a w->wpList P ops Q rest a w):wpList P ops Q (o::rest) a w:=by
 have hp:(s.chs.map (toCh P θ)++ [F]).Perm ((r.rs++r.ns).map (toCh P θ)++(r.rest.map (toCh P θ)++ [F])):=by
  have:=(i.perm.map (toCh P θ)).append_right [F]
  grind
 have b: ∀e,e∈r.rs\/e∈r.rest->okE P w0 J θ s.nxt s.chs e:=fun e c=>d.fine.chs e (i.perm.mem_iff.2 (by grind));have f:=Res.newer i.perm i.says;refine aeF d.agr d.st l (i.op) hp (aat m) fun v a w hv A S=>k (upd θ s.nxt v) a w Same.upd ⟨d.le,?_,?_,?_,?_,K5 d.fine.nd d.fine.ver,?_,d.fine.lay⟩
 ·rw[show envL (upd θ s.nxt v) (after s o.dst r)=Xa o.dst v (envL θ s) from IK (DF Same.upd d.fine.env) hv.2.1];exact A
 ·have e:(after s o.dst r).chs.map (toCh P (upd θ s.nxt v))=(r.gives.map fun g=>toCh P (upd θ s.nxt v) (g.1,s.nxt,g.2))++(r.rs.map (toCh P θ)++r.rest.map (toCh P θ)):=by
   show (Res.chs r s.nxt).map _=_;unfold Res.chs;rw[aU,aU,List.map_map,kh Same.upd fun e c=>b e (.inl c),kh Same.upd fun e c=>b e (.inr c)]
   rfl
  refine S.perm ?_;grind[aD,List.perm_append_comm_assoc]
 ·intro e c;rcases tk c with h | h
  ·rw[h.1];exact hv.1
  ·exact AV.ok_same Same.upd (Nat.le_succ _) f (d.fine.env e h) Hp.le.rfl
 ·intro e c;rcases tk c with h | h
  ·rw[h.2];exact ay _
  ·exact aW (d.fine.ver e h)
 ·intro e c;rcases aN c with c | c
  ·obtain ⟨g,j,rfl⟩:=List.mem_map.1 c;exact hv.2.2 g j
  ·exact gx Same.upd (Nat.le_succ _) f (b e (by grind)) Hp.le.rfl
theorem acn {ops:Array Oper} {rest:List Oper} {Q:Exit->Act->World->Prop} {g d:Nat} {want b:Bool} (l:GoodA P w0 J θ s o r) (i:Sim P I w0 F n J θ s a w) (t:o.guard=some (g,want)) (p:((ops[g]?).bind (·.dst))=some d) (hv:(envL θ s).lookup d=some (.bool b)) (q:b=want) (u:okO n s o=true)
  (k: ∀θ' a w,Same s.nxt θ θ'->Sim P I w0 F n J θ' (after s o.dst r) a w->wpList P ops Q rest a w):wpList P ops Q (o::rest) a w:=by
 have hp:(s.chs.map (toCh P θ)++ [F]).Perm ((r.rs++r.ns).map (toCh P θ)++(r.rest.map (toCh P θ)++ [F])):=by
  have:=(l.perm.map (toCh P θ)).append_right [F]
  grind
 have c: ∀e,e∈r.rs\/e∈r.rest->okE P w0 J θ s.nxt s.chs e:=fun e f=>i.fine.chs e (l.perm.mem_iff.2 (by grind));have j:=Res.newer l.perm l.says;refine Xr i.agr i.st t p hv q (l.op) hp (aat u) fun v a w hv A S=>k (upd θ s.nxt v) a w Same.upd ⟨i.le,?_,?_,?_,?_,K5 i.fine.nd i.fine.ver,?_,i.fine.lay⟩
 ·rw[show envL (upd θ s.nxt v) (after s o.dst r)=Xa o.dst v (envL θ s) from IK (DF Same.upd i.fine.env) hv.2.1];exact A
 ·have e:(after s o.dst r).chs.map (toCh P (upd θ s.nxt v))=(r.gives.map fun g=>toCh P (upd θ s.nxt v) (g.1,s.nxt,g.2))++(r.rs.map (toCh P θ)++r.rest.map (toCh P θ)):=by
   show (Res.chs r s.nxt).map _=_;unfold Res.chs;rw[aU,aU,List.map_map,kh Same.upd fun e f=>c e (.inl f),kh Same.upd fun e f=>c e (.inr f)]
   rfl
  refine S.perm ?_;grind[aD,List.perm_append_comm_assoc]
 ·intro e f;rcases tk f with h | h
  ·rw[h.1];exact hv.1
  ·exact AV.ok_same Same.upd (Nat.le_succ _) j (i.fine.env e h) Hp.le.rfl
 ·intro e f;rcases tk f with h | h
  ·rw[h.2];exact ay _
  ·exact aW (i.fine.ver e h)
 ·intro e f;rcases aN f with f | f
  ·obtain ⟨g,m,rfl⟩:=List.mem_map.1 f;exact hv.2.2 g m
  ·exact gx Same.upd (Nat.le_succ _) j (c e (by grind)) Hp.le.rfl
def skip (s:Sg) (d:Option Nat):Sg:=⟨Tg d s.nxt .und s.env,s.chs,s.nxt+1⟩
theorem Ti {v:AV} {d:Option Nat} (b:Sim P I w0 F n J θ s a w) {f:Act} (g:Agr n f (Xa d (v.v θ) (envL θ s))) (hv:v.ok P w0 J θ s.nxt s.chs):Sim P I w0 F n J θ ⟨Tg d s.nxt v s.env,s.chs,s.nxt+1⟩ f w:=
 ⟨b.le,by grind[IK],b.st,fun e c=>by
  rcases tk c with h | h
  ·rw[h.1];exact AV.ok_same Same.rfl (Nat.le_succ _) Newer.rfl hv Hp.le.rfl
  ·exact AV.ok_same Same.rfl (Nat.le_succ _) Newer.rfl (b.fine.env e h) Hp.le.rfl,fun e c=>by
  rcases tk c with h | h
  ·grind
  ·exact aW (b.fine.ver e h),K5 b.fine.nd b.fine.ver,fun e c=>gx Same.rfl (Nat.le_succ _) Newer.rfl (b.fine.chs e c) Hp.le.rfl,b.fine.lay⟩
theorem XB {ops:Array Oper} {rest:List Oper} {Q:Exit->Act->World->Prop} {g d:Nat} {want b:Bool} (c:Sim P I w0 F n J θ s a w) (e:o.guard=some (g,want)) (i:((ops[g]?).bind (·.dst))=some d) (hv:(envL θ s).lookup d=some (.bool b)) (h:b= !want) (f:dstOk n o.dst=true)
  (k: ∀a,Sim P I w0 F n J θ (skip s o.dst) a w->wpList P ops Q rest a w):wpList P ops Q (o::rest) a w:=
 Xq c.agr c.st e i hv h f fun a A=>k a (Ti c A trivial)
theorem Q7 {ops:Array Oper} {rest:List Oper} {Q:Exit->Act->World->Prop} {g d:Nat} {want:Bool} (b:Sim P I w0 F n J θ s a w) (c:o.guard=some (g,want)) (f:((ops[g]?).bind (·.dst))=some d) (hv:(envL θ s).lookup d=some undef) (e:dstOk n o.dst=true)
  (k: ∀a,Sim P I w0 F n J θ (skip s o.dst) a w->wpList P ops Q rest a w):wpList P ops Q (o::rest) a w:=
 Q5 b.agr b.st c f hv e fun a A=>k a (Ti b A trivial)
end
def ikD:Option IntKind->TypeDesc
 | some k=>.int k
 | none=>.string
structure MD where
 K:TypeId
 E:TypeId
 k:MK
 e:ME
def MDok (P:Program) (T:TypeId) (m:MD):Prop:=
 P.underlying T=some (.map m.K m.E)/\ @KeyOk P m.K m.k.den m.k.dec m.k.val m.k.lit m.k.ok/\EltOk P m.E m.e.val m.e.lit m.e.ok m.e.z
structure TD where
 agg:Bool
 n:Nat
 el:Option TypeId
 ty:Ty
 fields:List (Nat×Nat)
 bytes:Option Nat
 place:Option (List (Nat×Nat))
 boo:Bool
 eq:Option (List (Option IntKind))
 mp:Option MD
 ik:Option (Option IntKind)
 fz:Bool
 pt:Option TypeId
def Curq:List (Option IntKind)->(List Value->List Value->Bool->Prop)->Prop
 | [],p=>p [] [] true
 | none::ks,p=> ∀a b:Bool,Curq ks fun xs ys r=>p (.bool a::xs) (.bool b::ys) ((a==b)&&r)
 | some k::ks,p=> ∀a b:Int,Curq ks fun xs ys r=>p (.int k a::xs) (.int k b::ys) ((a==b)&&r)
def lvB:LV->Option Bool
 | .val (.bool b)=>some b
 | .nb b=>some (!b)
 | _=>none
def lvI (k:IntKind):LV->Option Int
 | .val (.int j m)=>if j=k then some m else none
 | _=>none
theorem ag5 {θ:Th} {x:LV} {b:Bool} (h:lvB x=some b):x.v θ= .bool b:=by
 unfold lvB at h;split at h <;> first | (cases h;rfl) | cases h
theorem ag6 {θ:Th} {k:IntKind} {x:LV} {m:Int} (h:lvI k x=some m):x.v θ= .int k m:=by
 unfold lvI at h;split at h
 ·split at h
  ·rename_i e;subst e;cases h;rfl
  grind
 grind
def aiU:Option IntKind->LV->LV->Option Bool
 | none,x,y=>(lvB x).bind fun a=>(lvB y).bind fun b=>some (a==b)
 | some k,x,y=>(lvI k x).bind fun a=>(lvI k y).bind fun b=>some (a==b)
def ag7:List (Option IntKind)->List LV->List LV->Option Bool
 | [],[],[] =>some true
 | k::ks,x::xs,y::ys=>(aiU k x y).bind fun q=>(ag7 ks xs ys).bind fun r=>some (q&&r)
 | _,_,_=>none
theorem aco {θ:Th} : ∀ {d:List (Option IntKind)} {p:List Value->List Value->Bool->Prop} {xs ys:List LV} {r:Bool},Curq d p->ag7 d xs ys=some r->p (xs.map (·.v θ)) (ys.map (·.v θ)) r:=by
 intro d;induction d with
 | nil =>
  intro p xs ys r hp h
  match xs,ys,h with
  | [],[],h=>cases h;exact hp
 | cons k d ih =>
  intro p xs ys r hp h
  match xs,ys,h with
  | x::xs,y::ys,h =>
   have ⟨q,c,h⟩:=Option.bind_eq_some_iff.1 h;have ⟨i,e,h⟩:=Option.bind_eq_some_iff.1 h;cases k with
   | none =>
    have ⟨a,f,c⟩:=Option.bind_eq_some_iff.1 c;have ⟨b,g,c⟩:=Option.bind_eq_some_iff.1 c
    have:=ih (hp a b) e
    grind[ag5]
   | some k =>
    have ⟨a,f,c⟩:=Option.bind_eq_some_iff.1 c;have ⟨b,g,c⟩:=Option.bind_eq_some_iff.1 c
    have:=ih (hp a b) e
    grind[ag6]
def zeroCells:Ty->List Value
 | .int k=>[.int k 0]
 | .bool=>[.bool false]
 | .str=>[.string ⟨#[]⟩]
 | .raw=>[.int .i64 0]
 | .prod a b=>zeroCells a++zeroCells b
 | .sl _ _=>[.slice none 0 0]
 | .fro t=>zeroCells t
 | .wr t=>zeroCells t
 | .tree _ _ _=>[.pointer none]
 | .bag t=>zeroCells t
def IL:(t:Ty)->t.den
 | .int _=>(0:Int)
 | .bool=>false
 | .str=>(⟨#[]⟩:ByteArray)
 | .raw=>(⟨.int .i64 0,rfl⟩:Raw)
 | .prod a b=>(IL a,IL b)
 | .sl _ t=>([] :List t.den)
 | .fro t=>IL t
 | .wr t=>IL t
 | .tree _ _ t=>(Tr.nil:Tr t.den)
 | .bag t=>IL t
theorem rW: ∀(t:Ty) (I:Hp),t.rep.rd I (zeroCells t) (IL t)
 | .int k,I=>rfl
 | .bool,I=>rfl
 | .str,I=>rfl
 | .raw,I=>rfl
 | .prod a b,I=>⟨_,_,rfl,rW a I,rW b I⟩
 | .sl _ _,I=>aao
 | .fro t,I=>rW t I
 | .wr t,I=>rW t I
 | .tree _ _ _,I=>⟨_,rfl,.nil⟩
 | .bag t,I=>rW t I
theorem Dd: ∀(t:Ty),Zro t.rep (zeroCells t) (IL t)
 | .int k=>Db
 | .bool=>(Db (h1:=fun _=>rfl))
 | .str=>(Db (h1:=fun _=>rfl))
 | .raw=>(Db (α:=Raw) (enc:=(·.1)) (h1:=(·.2)) (x:=⟨.int .i64 0,rfl⟩))
 | .prod a b=>Xt (Dd a) (Dd b)
 | .sl _ _=>ab7
 | .fro t=>ab8 (rW t)
 | .wr t=>Dd t
 | .tree _ _ _=>Xy
 | .bag t=>acj (rW t)
theorem Pt: ∀(t:Ty),∀v∈zeroCells t,v.oneCell'=true:=fun t v hv=>Rep.rd_one _ (rW t fun _=>none) v hv
theorem nK: ∀t:Ty,zeroCells t.erase=zeroCells t
 | .int _=>rfl
 | .bool=>rfl
 | .str=>rfl
 | .raw=>rfl
 | .prod a b=>by show zeroCells a.erase++zeroCells b.erase=_;rw[nK a,nK b];rfl
 | .sl _ _=>rfl
 | .fro t=>nK t
 | .wr t=>nK t
 | .tree _ _ _=>rfl
 | .bag t=>nK t
theorem zh (t:Ty):(zeroCells t).length=t.size:=(Rep.rd_len _ (rW t fun _=>none)).trans t.rep_size
abbrev TT:=List (TypeId×TD)
def td (tt:TT) (T:Nat):Option TD:=match tt with
 | [] =>none
 | (U,d)::l=>if Nat.beq U T then some d else td l T
structure TDok (P:Program) (T:TypeId) (d:TD):Prop where
 ti:TI P T d.agg d.n
 one:(d.agg || d.n==1)=true
 sz:d.ty.size=d.n
 el: ∀E,d.el=some E->P.underlying T=some (.slice E)
 fld: ∀f q,d.fields[f]? =some q->TF P T f q.1 q.2
 zero: ∀b,d.bytes=some b-> ∃z,TZ P T z d.n b/\z.cells=(zeroCells d.ty).toArray/\1<=b
 place: ∀pl,d.place=some pl->TB P T pl
 boo:d.boo=true->P.underlying T=some .bool
 eq: ∀ks,d.eq=some ks-> ∀w,Curq ks fun xs ys r=>EqT P T (.agg xs.toArray) (.agg ys.toArray) r w
 mp: ∀m,d.mp=some m->MDok P T m
 ik: ∀k,d.ik=some k->P.underlying T=some (ikD k)
 fz:d.fz=true-> ∃b,TZ P T .nilFunc 1 b
 pt: ∀e,d.pt=some e->P.underlying T=some (.pointer e)
def TTok (P:Program):TT->Prop
 | [] =>True
 | (T,d)::l=>TDok P T d/\TTok P l
theorem TTok.get {P:Program} {T:Nat} {d:TD} : ∀ {tt:TT},TTok P tt->td tt T=some d->TDok P T d
 | (U,x)::l,⟨h1,h2⟩,h=>by
  unfold td at h;split at h
  ·rename_i a
   have:=aw a
   subst this;rw[<-ae h];exact h1
  ·exact TTok.get h2 h
def rX (id:Nat):(t:Ty)->t.den->Nat->List LV
 | .int k,d,_=>[.val (.int k d)]
 | .bool,d,_=>[.val (.bool d)]
 | .str,d,_=>[.val (.string d)]
 | .raw,d,_=>[.val d.1]
 | .prod a b,d,j=>rX id a d.1 j++rX id b d.2 (j+a.size)
 | .sl E t,d,j=>[.rd ⟨id,[j]⟩ (.sl E t) d]
 | .fro t,d,j=>rX id t d j
 | .bag t,d,j=>rX id t d j
 | .wr t,d,j=>rX id t d j
 | .tree T E t,d,j=>[.rd ⟨id,[j]⟩ (.tree T E t) d]
def Tj (id:Nat):(t:Ty)->t.den->AV
 | .prod a b,d=>.agg (rX id (.prod a b) d 0)
 | .int k,d=>.one (.val (.int k d))
 | .bool,d=>.one (.val (.bool d))
 | .str,d=>.one (.val (.string d))
 | .raw,d=>.one (.val d.1)
 | .sl E t,d=>.one (.rd ⟨id,[]⟩ (.sl E t) d)
 | .fro t,d=>Tj id t d
 | .bag t,d=>Tj id t d
 | .wr t,d=>.agg (rX id t d 0)
 | .tree T E t,d=>.one (.rd ⟨id,[]⟩ (.tree T E t) d)
theorem jC {P:Program} {w0:World} {J:Hp} {θ:Th} {id n:Nat} (e:id<n) {all:List Value} (f:θ id= .agg all.toArray): ∀(t:Ty) (d:t.den) (j:Nat) (cs:List Value),t.rep.rd J cs d->(∀i v,cs[i]? =some v->all[j+i]? =some v)->
  (∀x∈rX id t d j,x.ok P w0 J θ n)/\(rX id t d j).map (·.v θ)=cs
 | .int k,d,j,cs,h,_=>⟨fun x c=>by cases ax c;rfl,h.symm⟩
 | .bool,d,j,cs,h,_=>⟨fun x c=>by cases ax c;rfl,h.symm⟩
 | .str,d,j,cs,h,_=>⟨fun x c=>by cases ax c;rfl,h.symm⟩
 | .raw,d,j,cs,h,_=>⟨fun x c=>by cases ax c;exact d.2,h.symm⟩
 | .prod a b,d,j,cs,h,hc=>by
  obtain ⟨p,o,rfl,l,r⟩:=h;have s:=(Rep.rd_len _ l).trans a.rep_size;obtain ⟨m,y⟩:=jC e f a d.1 j p l fun i v hv=>hc i v (by grind);obtain ⟨q,w⟩:=jC e f b d.2 (j+a.size) o r fun i v hv=>by
   have:=hc (a.size+i) v (by grind)
   grind
  refine ⟨fun x c=>?_,?_⟩
  ·rcases aN c with c | c
   ·exact m x c
   ·exact q x c
  grind[rX]
 | .sl E t,d,j,cs,h,hc=>by
  obtain ⟨u,rfl⟩:=List.length_eq_one_iff.1 (Rep.rd_len _ h);have g:hv θ ⟨id,[j]⟩=u:=by
   show vg (θ id) [j] =u;rw[f];show (all.toArray.getD j undef)=u
   have:=hc 0 u rfl
   rw[Nat.add_zero] at this;simp[Array.getD_eq_getD_getElem?,this]
  refine ⟨fun x c=>?_,?_⟩
  ·cases ax c;exact ⟨e,by grind⟩
  ·show [hv θ ⟨id,[j]⟩] = [u];rw[g]
 | .fro t,d,j,cs,h,hc=>jC e f t d j cs h hc
 | .bag t,d,j,cs,h,hc=>jC e f t d j cs h hc
 | .wr t,d,j,cs,h,hc=>jC e f t d j cs h hc
 | .tree T E t,d,j,cs,h,hc=>by
  obtain ⟨u,rfl⟩:=List.length_eq_one_iff.1 (Rep.rd_len _ h);have g:hv θ ⟨id,[j]⟩=u:=by
   show vg (θ id) [j] =u;rw[f];show (all.toArray.getD j undef)=u
   have:=hc 0 u rfl
   rw[Nat.add_zero] at this;simp[Array.getD_eq_getD_getElem?,this]
  refine ⟨fun x c=>?_,?_⟩
  ·cases ax c;exact ⟨e,by grind⟩
  ·show [hv θ ⟨id,[j]⟩] = [u];rw[g]
theorem sy {P:Program} {w0:World} {J:Hp} {θ:Th} {id n:Nat} {chs:List Ent} (e:id<n) {u:Value} (f:θ id=u): ∀(t:Ty) (d:t.den) (cs:List Value),t.rep.rd J cs d->Lds t.isProd cs u->(Tj id t d).ok P w0 J θ n chs/\(Tj id t d).v θ=u
 | .int k,d,cs,h,c=>⟨Eq.refl true,by
  rw[h] at c;exact (List.cons.inj c).1⟩
 | .bool,d,cs,h,c=>⟨Eq.refl true,by
  rw[h] at c;exact (List.cons.inj c).1⟩
 | .str,d,cs,h,c=>⟨Eq.refl true,by
  rw[h] at c;exact (List.cons.inj c).1⟩
 | .raw,d,cs,h,c=>⟨d.2,by
  rw[h] at c;exact (List.cons.inj c).1⟩
 | .prod a b,d,cs,h,c=>by
  have c:u= .agg cs.toArray:=c;obtain ⟨g,l⟩:=jC (J:=J) e (f.trans c) (.prod a b) d 0 cs h (fun i v hv=>by grind);exact ⟨g,by show Value.agg _=_;grind⟩
 | .sl E t,d,cs,h,c=>by
  subst c;have j:hv θ ⟨id,[]⟩=u:=f;exact ⟨⟨e,by grind⟩,j⟩
 | .fro t,d,cs,h,c=>sy e f t d cs h c
 | .bag t,d,cs,h,c=>sy e f t d cs h c
 | .wr t,d,cs,h,c=>by
  have c:u= .agg cs.toArray:=c;obtain ⟨g,l⟩:=jC (J:=J) e (f.trans c) t d 0 cs h (fun i v hv=>by grind);exact ⟨g,by show Value.agg _=_;grind⟩
 | .tree T E t,d,cs,h,c=>by
  subst c;have j:hv θ ⟨id,[]⟩=u:=f;exact ⟨⟨e,by grind⟩,j⟩
structure Part (t:Ty) where
 ty:Ty
 get:t.den->ty.den
 set:t.den->ty.den->t.den
def AU (g:Bool):(t:Ty)->Nat->Nat->Option (Part t)
 | t,off,n=>if Nat.beq off 0&&(Nat.beq t.size n&&(t.isProd==g)) then some ⟨t,fun x=>x,fun _ y=>y⟩ else match t with
  | .prod a b=>if Nat.blt off a.size then (AU g a off n).bind fun r=>some ⟨r.ty,fun x=>r.get x.1,fun x y=>(r.set x.1 y,x.2)⟩ else (AU g b (off - a.size) n).bind fun r=>some ⟨r.ty,fun x=>r.get x.2,fun x y=>(x.1,r.set x.2 y)⟩
  | .fro a=>(AU g a off n).bind fun r=>some ⟨.fro r.ty,r.get,r.set⟩
  | .wr a=>(AU g a off n).bind fun r=>some ⟨r.ty,r.get,r.set⟩
  | _=>none
def Lens {α β:Type} (R:Rep α) (off:Nat) (S:Rep β) (f:α->β) (u:α->β->α):Prop:= ∀I w c x G,R.own I w c x G-> ∃d G1 K,G.Perm (G1++K)/\(c.drop off).take S.size=d/\S.own I w d (f x) G1 /\
 ∀J w' d' y G',I.le J->(∀b,b∈K->w'.heap[b]? =w.heap[b]?)->S.own J w' d' y G'-> ∃F,F.Perm (G'++K)/\R.own J w' (spl c off d') (u x y) F
theorem Lens.self {α:Type} {R:Rep α} :Lens R 0 R (fun x=>x) (fun _ y=>y):=fun I w c x G h =>
 ⟨c,G,[],by simp,by rw[<-R.own_len h];simp,h,fun J d e y b f g a=>⟨b,by simp,by rw[Hu _ _ _ (by rw[R.own_len h,R.own_len a];omega),R.own_len a,<-R.own_len h];grind⟩⟩
theorem Lens.fst {α β γ:Type} {A:Rep α} {B:Rep β} {S:Rep γ} {off:Nat} {f:α->γ} {u:α->γ->α} (hs:off+S.size<=A.size) (h:Lens A off S f u):Lens (aL A B) off S (fun x=>f x.1) (fun x y=>(u x.1 y,x.2)):=by
 rintro I w c x G ⟨m,s,r,g,rfl,rfl,a,z⟩;have ⟨d,D,K,p,H,v,C⟩:=h I w m x.1 r a;refine ⟨d,D,K++g,by grind,?_,v,fun J t l y o j i n=>?_⟩
 ·have E:=A.own_len a;grind
 ·have ⟨F,q,k⟩:=C J t l y o j (fun b e=>i b (bq _ e)) n;refine ⟨F++g,by grind,spl m off l,s,F,g,?_,rfl,k,B.own_stay (B.own_mono z j) fun b e=>i b (bw _ e)⟩;rw[ze _ _ _ _ (by rw[A.own_len a,S.own_len n];exact hs)]
theorem Lens.snd {α β γ:Type} {A:Rep α} {B:Rep β} {S:Rep γ} {off:Nat} {f:β->γ} {u:β->γ->β} (h:Lens B off S f u):Lens (aL A B) (A.size+off) S (fun x=>f x.2) (fun x y=>(x.1,u x.2 y)):=by
 rintro I w c x G ⟨s,m,a,t,rfl,rfl,g,C⟩;have ⟨d,E,K,p,H,v,D⟩:=h I w m x.2 t C;have o:=A.own_len g;refine ⟨d,E,a++K,(p.append_left a).trans (List.perm_append_comm_assoc _ _ _),?_,v,fun J r l y n j i z=>?_⟩
 ·grind[List.drop_append,List.drop_of_length_le,Nat.add_sub_cancel_left]
 ·have ⟨F,q,k⟩:=D J r l y n j (fun b e=>i b (bw _ e)) z;refine ⟨a++F,(q.append_left a).trans (List.perm_append_comm_assoc _ _ _),s,spl m off l,a,F,?_,rfl,A.own_stay (A.own_mono g j) fun b e=>i b (bq _ e),k⟩;rw[<-o,sx]
theorem Lens.fro {α β:Type} {R:Rep α} {S:Rep β} {off:Nat} {f:α->β} {u:α->β->α} (h:Fld R off S f) (k:Upd R off S u):Lens (CF R) off (CF S) f u:=by
 rintro I w c x G ⟨rfl,a⟩;have ⟨d,i,j⟩:=h I c x a;refine ⟨d,[],[],by simp,i,⟨rfl,j⟩,fun J n g y m e l b=>⟨[],by rw[b.1];simp,rfl,k J c x g y (R.rd_mono a e) b.2⟩⟩
structure PartOk {t:Ty} (off n:Nat) (r:Part t):Prop where
 fld:Fld t.rep off r.ty.rep r.get
 upd:Upd t.rep off r.ty.rep r.set
 updO:UpdO t.rep off r.ty.rep r.set
 lens:Lens t.rep off r.ty.rep r.get r.set
 eta: ∀x,r.set x (r.get x)=x
 size:r.ty.size=n
 fit:off+n<=t.size
theorem De {g:Bool} : ∀(t:Ty) (off n:Nat) (r:Part t),AU g t off n=some r->PartOk off n r:=by
 intro t;induction t with
 | prod a b p o =>
  intro off n r h;unfold AU at h;split at h
  ·rename_i f;rw[al,al] at f;have j:=aw f.1;have l:=aw f.2.1;subst j;cases ae h;exact ⟨Fld.self,Upd.self,UpdO.self,Lens.self,fun _=>rfl,l,by omega⟩
  ·simp only at h;split at h
   ·have ⟨q,e,h⟩:=bind_some h;cases ae h;have k:=p off n q e;have i:off+q.ty.rep.size<=a.rep.size:=by rw[q.ty.rep_size,a.rep_size,k.size];exact k.fit
    exact ⟨Fld.fst k.fld,Upd.fst i k.upd,UpdO.fst i k.updO,Lens.fst i k.lens,fun x=>congrArg (fun z=>(z,x.2)) (k.eta x.1),k.size,by have:=k.fit;show off+n<=a.size+b.size;omega⟩
   ·rename_i s;have ⟨q,e,h⟩:=bind_some h;cases ae h;have k:=o (off - a.size) n q e;have u:a.size<=off:=by
     rw[Nat.blt_eq] at s;omega
    have m:a.rep.size+(off - a.size)=off:=by rw[a.rep_size];omega
    refine ⟨?_,?_,?_,?_,fun x=>congrArg (fun z=>(x.1,z)) (k.eta x.2),k.size,by have:=k.fit;show off+n<=a.size+b.size;omega⟩
    ·have:=Fld.snd (A:=a.rep) k.fld
     rwa [m] at this
    ·have:=Upd.snd (A:=a.rep) k.upd
     rwa [m] at this
    ·have:=UpdO.snd (A:=a.rep) k.updO
     rwa [m] at this
    ·have:=Lens.snd (A:=a.rep) k.lens
     rwa [m] at this
 | fro a ih =>
  intro off n r h;unfold AU at h;split at h
  ·rename_i f;rw[al,al] at f;have j:=aw f.1;have l:=aw f.2.1;subst j;cases ae h;exact ⟨Fld.self,Upd.self,UpdO.self,Lens.self,fun _=>rfl,l,by omega⟩
  ·have ⟨q,e,h⟩:=bind_some h;cases ae h;have k:=ih off n q e;exact ⟨k.fld,k.upd,fun I w c x G d y K j l=>⟨[],[],⟨rfl,k.upd I c x d y j.2 l.2⟩,by rw[j.1,l.1]⟩,Lens.fro k.fld k.upd,k.eta,k.size,k.fit⟩
 | wr a ih =>
  intro off n r h;unfold AU at h;split at h
  ·rename_i f;rw[al,al] at f;have j:=aw f.1;have l:=aw f.2.1;subst j;cases ae h;exact ⟨Fld.self,Upd.self,UpdO.self,Lens.self,fun _=>rfl,l,by omega⟩
  ·have ⟨q,e,h⟩:=bind_some h;cases ae h;have k:=ih off n q e;exact ⟨k.fld,k.upd,k.updO,k.lens,k.eta,k.size,k.fit⟩
 | _ =>
  intro off n r h;unfold AU at h;split at h
  ·rename_i f;rw[al,al] at f;have j:=aw f.1;have l:=aw f.2.1;subst j;cases ae h;exact ⟨Fld.self,Upd.self,UpdO.self,Lens.self,fun _=>rfl,l,by omega⟩
  grind
end R
end Go.Proofs.YteapgmibbpckoaaGreatDoor
