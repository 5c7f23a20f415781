/- FnMessages: for every input the law returns true and changes nothing that was there. Part 2 of 9. -/
import Derived.Test.YtncnbjfngmhfaaaGreatDoorRows
import Derived.WalkKit
import Derived.WalkSpells
import Derived.WalkLawsBesides
import Derived.ProofKit
import Derived.Orders
import Derived.Deep.MidRow
import Derived.Maps.AppendAt
import Derived.OwnWalk
import Derived.Great.BuildSlice
import Derived.Shelf.Abstract
import Derived.Laws.StructEq
import Derived.Lib.SliceRun
import Derived.Maps.OwnSet
import Derived.DeepKeys4
import Derived.Laws.CopyRow
import Derived.Lib.LaidTab
import Derived.Lib.ItoaNum
import Derived.Lib.AppendZeros
import Derived.Lib.Overlaps
import Derived.Laws.AppendOwn
import Derived.Shelf.SlSortCmp.NoneTotal
import Derived.Lib.SortBridge
import Derived.Test.YtncnbjfngmhfaaaGreatDoorProg
import Derived.Shelf.Sort.Plain
import Derived.Shelf.Slices.In.SortNone
import Derived.Shelf.Strings.OnBuilder
import Derived.Shelf.Strconv.Itoa3
import Derived.Sort.Grow
import Derived.Shelf.LaysM
import Derived.Deep.Slices
import Derived.Lib.ItoaLen
import Derived.Lib.Join
import Derived.Test.YtncnbjfngmhfaaaGreatDoorCards
import Derived.Test.YtncnbjfngmhfaaaGreatDoorTie
import Derived.LaidMore
import Derived.OpenShut
import Derived.Stop.Joined
import Derived.SevenTiedAt
import Derived.Stop.LaidErr
import Derived.SizedLaws
import Derived.Lay
set_option synthInstance.maxSize 20000
set_option synthInstance.maxHeartbeats 2000000
set_option linter.unusedVariables false
set_option linter.unusedSimpArgs false
set_option linter.unnecessarySimpa false
set_option linter.unusedSectionVars false
set_option maxRecDepth 1000000
namespace Go.Proofs.YtncnbjfngmhfaaaGreatDoor
open Go.IntKind (i64)
theorem aa: ∀ {α:Type _} {β:Type _} (a:α) (f:α->Option β),(some a).bind f=f a:= @Option.bind_some
theorem ae: ∀ {α:Type _} {a b:α},some a=some b->a=b:= @Option.some.inj
theorem bu: ∀ {n m:Nat},n.ble m=true->n<=m:= @Nat.le_of_ble_eq_true
theorem al: ∀ {n m:Nat},n.beq m=true->n=m:= @Nat.eq_of_beq_eq_true
theorem aC: ∀ {α:Type _} (x y z:List α),x++y++z=x++(y++z):= @List.append_assoc
theorem az: ∀ {α:Type _} {x y:List α},(x++y).length=x.length+y.length:= @List.length_append
theorem aH: ∀ {α:Type _} {a:α} {x:List α},(a::x).length=x.length+1:= @List.length_cons
theorem ak: ∀ {α:Type _} {a b:α},a ∈ [b] ->a=b:=fun h=>List.mem_singleton.1 h
theorem aA: ∀ {α:Type _} {b:α} {l:List α} {a:α},a∈b::l->a=b\/a∈l:=fun h=>List.mem_cons.1 h
theorem aG: ∀ {α:Type _} {a:α} {s t:List α},a∈s++t->a∈s\/a∈t:=fun h=>List.mem_append.1 h
theorem aj: ∀(a b:Bool),((a&&b)=true)=(a=true/\b=true):= @Bool.and_eq_true
theorem ax: ∀(n:Nat),n<n.succ:= @Nat.lt_succ_self
theorem aB: ∀ {α:Type _} {i:Nat} {l:List α},(List.take i l).length=min i l.length:= @List.length_take
theorem bP: ∀ {α:Type _} {i:Nat} {l:List α},(List.drop i l).length=l.length - i:= @List.length_drop
theorem aD: ∀ {n m k:Nat},n<m->m<=k->n<k:= @Nat.lt_of_lt_of_le
theorem aL: ∀(n:Nat),n<=n:= @Nat.le_refl
theorem bY: ∀ {α:Type _} (y:α) {a:α} {l:List α},a∈l->a∈y::l:= @List.mem_cons_of_mem
theorem bm: ∀ {α:Type _} {a:α} {x:List α} (y:List α),a∈x->a∈x++y:= @List.mem_append_left
theorem bq: ∀ {α:Type _} {b:α} (x:List α) {y:List α},b∈y->b∈x++y:= @List.mem_append_right
theorem aJ: ∀ {α:Type _},([] :List α).length=0:= @List.length_nil
theorem aW: ∀ {α:Type _} {β:Type _} {f:α->β} {l₁ l₂:List α},List.map f (l₁++l₂)=List.map f l₁++List.map f l₂:= @List.map_append
theorem aZ: ∀ {n m:Nat},n<m->n<m.succ:= @Nat.lt_succ_of_lt
namespace D
open Go.RowKit
def lim:Nat:=9223372036854775807
def Hp:=Nat->Option Obj
def Hp.le (I J:Hp):Prop:= ∀b o,I b=some o->J b=some o
def hp (w:World):Hp:=fun b=>w.heap[b]?
theorem Hp.le.rfl {I:Hp} :I.le I:=fun _ _ h=>h
theorem Hp.le.trans {I J K:Hp} (h:I.le J) (k:J.le K):I.le K:=fun b o e=>k b o (h b o e)
structure Rep (α:Type) where
 size:Nat
 rd:Hp->List Value->α->Prop
 own:Hp->World->List Value->α->List Nat->Prop
 rd_len: ∀ {I cs a},rd I cs a->cs.length=size
 rd_one: ∀ {I cs a},rd I cs a-> ∀u∈cs,u.oneCell'=true
 rd_mono: ∀ {I J cs a},rd I cs a->I.le J->rd J cs a
 own_len: ∀ {I w cs a F},own I w cs a F->cs.length=size
 own_one: ∀ {I w cs a F},own I w cs a F-> ∀u∈cs,u.oneCell'=true
 own_mono: ∀ {I J w cs a F},own I w cs a F->I.le J->own J w cs a F
 own_stay: ∀ {I w w' cs a F},own I w cs a F->(∀b,b∈F->w'.heap[b]? =w.heap[b]?)->own I w' cs a F
 own_live: ∀ {I w cs a F},own I w cs a F-> ∀b,b∈F->b<w.heap.size
 own_rd: ∀ {I J w cs a F},own I w cs a F->I.le J->(∀b,b∈F->J b=w.heap[b]?)->rd J cs a
def mu (α:Type) (enc:α->Value) (h1: ∀a,(enc a).oneCell'=true):Rep α where
 size:=1
 rd _ cs a:=cs= [enc a]
 own _ _ cs a F:=F= [] /\cs= [enc a]
 rd_len h:=by rw[h];rfl
 rd_one h:=by rw[h];intro u hu;simp at hu;subst hu;exact h1 _
 rd_mono h _:=h
 own_len h:=by rw[h.2];rfl
 own_one h:=by rw[h.2];intro u hu;simp at hu;subst hu;exact h1 _
 own_mono h _:=h
 own_stay h _:=h
 own_live h:=by rw[h.1];intro b hb;cases hb
 own_rd h _ _:=h.2
def rU8:Rep Int:=mu Int (.int .u8) fun _=>rfl
def MS:Rep Bool:=mu Bool .bool fun _=>rfl
def QI:Rep ByteArray:=mu ByteArray .string fun _=>rfl
def si {α β:Type} (R:Rep α) (S:Rep β):Rep (α×β) where
 size:=R.size+S.size
 rd I cs x:= ∃c d,cs=c++d/\R.rd I c x.1/\S.rd I d x.2
 own I w cs x F:= ∃c d G K,cs=c++d/\F=G++K/\R.own I w c x.1 G/\S.own I w d x.2 K
 rd_len:=by
  rintro I cs x ⟨c,d,rfl,h1,h2⟩
  rw[az,R.rd_len h1,S.rd_len h2]
 rd_one:=by
  rintro I cs x ⟨c,d,rfl,h1,h2⟩ u hu
  rcases aG hu with h | h
  ·exact R.rd_one h1 u h
  ·exact S.rd_one h2 u h
 rd_mono:=by
  rintro I J cs x ⟨c,d,rfl,h1,h2⟩ h
  exact ⟨c,d,rfl,R.rd_mono h1 h,S.rd_mono h2 h⟩
 own_len:=by
  rintro I w cs x F ⟨c,d,G,K,rfl,rfl,h1,h2⟩
  rw[az,R.own_len h1,S.own_len h2]
 own_one:=by
  rintro I w cs x F ⟨c,d,G,K,rfl,rfl,h1,h2⟩ u hu
  rcases aG hu with h | h
  ·exact R.own_one h1 u h
  ·exact S.own_one h2 u h
 own_mono:=by
  rintro I J w cs x F ⟨c,d,G,K,rfl,rfl,h1,h2⟩ h
  exact ⟨c,d,G,K,rfl,rfl,R.own_mono h1 h,S.own_mono h2 h⟩
 own_stay:=by
  rintro I w w' cs x F ⟨c,d,G,K,rfl,rfl,h1,h2⟩ h
  exact ⟨c,d,G,K,rfl,rfl,R.own_stay h1 fun b hb=>h b (bm _ hb),S.own_stay h2 fun b hb=>h b (bq _ hb)⟩
 own_live:=by
  rintro I w cs x F ⟨c,d,G,K,rfl,rfl,h1,h2⟩ b hb
  rcases aG hb with h | h
  ·exact R.own_live h1 b h
  ·exact S.own_live h2 b h
 own_rd:=by
  rintro I J w cs x F ⟨c,d,G,K,rfl,rfl,h1,h2⟩ hJ h
  exact ⟨c,d,rfl,R.own_rd h1 hJ fun b hb=>h b (bm _ hb),S.own_rd h2 hJ fun b hb=>h b (bq _ hb)⟩
def zz {α:Type} (R:Rep α):Rep α where
 size:=R.size
 rd:=R.rd
 own I _ cs a F:=F= [] /\R.rd I cs a
 rd_len:=R.rd_len
 rd_one:=R.rd_one
 rd_mono:=R.rd_mono
 own_len h:=R.rd_len h.2
 own_one h:=R.rd_one h.2
 own_mono h k:=⟨h.1,R.rd_mono h.2 k⟩
 own_stay h _:=h
 own_live h:=by rw[h.1];intro b hb;cases hb
 own_rd h k _:=R.rd_mono h.2 k
def OwnEls {α:Type} (R:Rep α) (I:Hp) (w:World):List Value->List α->List Nat->Prop
 | _,[],F=>F= []
 | cur,x::xs,F=> ∃c rest G K,cur=c++rest/\c.length=R.size/\F=G++K/\R.own I w c x G/\OwnEls R I w rest xs K
section
variable {α:Type} {R:Rep α} {I J:Hp}
theorem OwnEls.stay {w w':World} : ∀ {xs:List α} {cur F},OwnEls R I w cur xs F->(∀b,b∈F->w'.heap[b]? =w.heap[b]?)->OwnEls R I w' cur xs F
 | [],_,_,h,_=>h
 | x::xs,cur,F,⟨c,rest,G,K,h1,h2,h3,h4,h5⟩,h=>by
  subst h3;exact ⟨c,rest,G,K,h1,h2,rfl,R.own_stay h4 fun b a=>h b (bm _ a),h5.stay fun b a=>h b (bq _ a)⟩
theorem OwnEls.mono {w:World} : ∀ {xs:List α} {cur F},OwnEls R I w cur xs F->I.le J->OwnEls R J w cur xs F
 | [],_,_,h,_=>h
 | x::xs,cur,F,⟨c,rest,G,K,h1,h2,h3,h4,h5⟩,h=>⟨c,rest,G,K,h1,h2,h3,R.own_mono h4 h,h5.mono h⟩
theorem OwnEls.live {w:World} : ∀ {xs:List α} {cur F},OwnEls R I w cur xs F-> ∀b,b∈F->b<w.heap.size
 | [],_,_,h,b,hb=>by rw[show _= [] from h] at hb;cases hb
 | x::xs,cur,F,⟨c,rest,G,K,_,_,h3,h4,h5⟩,b,hb=>by
  subst h3;rcases aG hb with h | h
  ·exact R.own_live h4 b h
  ·exact h5.live b h
theorem OwnEls.at {w:World} : ∀ {xs:List α} {cur F},OwnEls R I w cur xs F->I.le J->(∀b,b∈F->J b=w.heap[b]?)-> ∀(i:Nat) x,xs[i]? =some x-> ∃c:List Value,c.length=R.size/\(∀j,j<R.size->cur[i*R.size+j]? =c[j]?)/\R.rd J c x
 | [],_,_,_,_,_,i,x,a=>by grind
 | y::xs,cur,F,⟨c,rest,G,K,h1,h2,h3,h4,h5⟩,hJ,hB,i,x,a=>by
  subst h3;match i,a with
  | 0,a =>
   simp at a;subst a;exact ⟨c,h2,fun j g=>by grind,R.own_rd h4 hJ fun b e=>hB b (bm _ e)⟩
  | i+1,a =>
   have ⟨d,f,h,k⟩:=h5.at hJ (fun b e=>hB b (bq _ e)) i x (by grind);grind
theorem OwnEls.rest {w:World} : ∀ {xs:List α} {cur cur' F},OwnEls R I w cur xs F->cur'.take (xs.length*R.size)=cur.take (xs.length*R.size)->OwnEls R I w cur' xs F
 | [],_,_,_,h,_=>h
 | y::xs,cur,cur',F,⟨c,rest,G,K,h1,h2,h3,h4,h5⟩,h=>by
  subst h1;rw[aH,Nat.add_mul,Nat.one_mul,Nat.add_comm] at h;rw[List.take_append,List.take_of_length_le (l:=c) (by omega),h2,Nat.add_sub_cancel_left] at h;have a:cur'.take R.size=c:=by
   have:=congrArg (List.take R.size) h
   rw[List.take_take,Nat.min_eq_left (by omega),<-h2,List.take_left,h2] at this;exact this
  refine ⟨c,cur'.drop R.size,G,K,?_,h2,h3,h4,h5.rest ?_⟩
  ·rw[<-a,List.take_append_drop]
  ·have:=congrArg (List.drop R.size) h
   grind
theorem OwnEls.join {w:World} : ∀ {xs ys:List α} {cur rest F G},OwnEls R I w cur xs F->cur.length=xs.length*R.size->OwnEls R I w rest ys G->OwnEls R I w (cur++rest) (xs++ys) (F++G)
 | [],ys,cur,rest,F,G,h,hl,k=>by
  have:cur= []:=List.eq_nil_of_length_eq_zero (by grind)
  subst this;rw[show F= [] from h];exact k
 | x::xs,ys,cur,rest,F,G,⟨c,r,G1,K,h1,h2,h3,h4,h5⟩,hl,k=>by
  subst h1;subst h3;refine ⟨c,r++rest,G1,K++G,by simp,h2,by simp,h4,h5.join ?_ k⟩;grind
theorem OwnEls.parts {w:World} : ∀ {xs ys:List α} {cur F},OwnEls R I w cur (xs++ys) F-> ∃G K,F=G++K/\OwnEls R I w cur xs G/\OwnEls R I w (cur.drop (xs.length*R.size)) ys K
 | [],ys,cur,F,h=>⟨[],F,rfl,rfl,by simp_all⟩
 | x::xs,ys,cur,F,⟨c,r,G1,K,h1,h2,h3,h4,h5⟩=>by
  have ⟨G,d,a,b,e⟩:=h5.parts;subst h1;subst h3;subst a;refine ⟨G1++G,d,by simp,⟨c,r,G1,G,rfl,h2,rfl,h4,b⟩,?_⟩;simp_all[aH,Nat.add_mul,Nat.one_mul,Nat.add_comm,List.drop_append,List.drop_of_length_le,Nat.add_sub_cancel_left]
end
def aw {α:Type} (E:TypeId) (R:Rep α):Rep (List α) where
 size:=1
 rd I cs xs:= ∃ao cap,cs= [.slice ao xs.length cap] /\(xs.length<=lim/\xs.length<=cap)/\(xs= [] \/ ∃b off ccs t fr,ao=some ⟨b,off,none⟩/\I b=some (.cells ccs t fr) /\
  ∀i x,xs[i]? =some x-> ∃c:List Value,c.length=R.size/\(∀j,j<R.size->ccs.toList[off+i*R.size+j]? =c[j]?)/\R.rd I c x)
 own I w cs xs F:=xs.length<=lim/\((cs= [.slice none 0 0] /\xs= [] /\F= []) \/
  ∃g ofs cap cur K,cs= [.slice (some ⟨g,ofs,none⟩) xs.length cap] /\w.heap[g]? =some (.cells cur E (0,0))/\xs.length<=cap/\cap<=maxLen/\ofs+cap*R.size<=cur.size/\F=g::K/\OwnEls R I w (cur.toList.drop ofs) xs K)
 rd_len:=by rintro I cs xs ⟨ao,cap,rfl,_⟩;rfl
 rd_one:=by rintro I cs xs ⟨ao,cap,rfl,_⟩ u hu;simp at hu;subst hu;rfl
 rd_mono:=by
  rintro I J cs xs ⟨ao,cap,rfl,hl,h⟩ hJ
  refine ⟨ao,cap,rfl,hl,?_⟩
  rcases h with h | ⟨b,off,ccs,t,fr,h1,h2,h4⟩
  ·exact .inl h
  ·exact .inr ⟨b,off,ccs,t,fr,h1,hJ _ _ h2,fun i x hx=>let ⟨c,e1,e2,e3⟩:=h4 i x hx; ⟨c,e1,e2,R.rd_mono e3 hJ⟩⟩
 own_len:=by
  rintro I w cs xs F ⟨hl,h⟩
  rcases h with ⟨rfl,_⟩ | ⟨g,ofs,cap,cur,K,rfl,_⟩ <;> rfl
 own_one:=by
  rintro I w cs xs F ⟨hl,h⟩ u hu
  rcases h with ⟨rfl,_⟩ | ⟨g,ofs,cap,cur,K,rfl,_⟩ <;> (simp at hu;subst hu;rfl)
 own_mono:=by
  rintro I J w cs xs F ⟨hl,h⟩ hJ
  refine ⟨hl,?_⟩
  rcases h with h | ⟨g,ofs,cap,cur,K,h1,h2,h3,h4,h5,h6,h7⟩
  ·exact .inl h
  ·exact .inr ⟨g,ofs,cap,cur,K,h1,h2,h3,h4,h5,h6,h7.mono hJ⟩
 own_stay:=by
  rintro I w w' cs xs F ⟨hl,h⟩ hw
  refine ⟨hl,?_⟩
  rcases h with h | ⟨g,ofs,cap,cur,K,h1,h2,h3,h4,h5,rfl,h6⟩
  ·exact .inl h
  ·exact .inr ⟨g,ofs,cap,cur,K,h1,by rw[hw g (by simp)];exact h2,h3,h4,h5,rfl,h6.stay fun b hb=>hw b (by simp[hb])⟩
 own_live:=by
  rintro I w cs xs F ⟨hl,h⟩ b hb
  rcases h with ⟨_,_,rfl⟩ | ⟨g,ofs,cap,cur,K,h1,h2,h3,h4,h5,rfl,h6⟩
  ·cases hb
  ·rcases aA hb with rfl | hb
   ·exact (Array.getElem?_eq_some_iff.1 h2).1
   ·exact h6.live b hb
 own_rd:=by
  rintro I J w cs xs F ⟨hl,h⟩ hJ hB
  rcases h with ⟨rfl,rfl,rfl⟩ | ⟨g,ofs,cap,cur,K,rfl,h2,h3,h4,h5,rfl,h6⟩
  ·exact ⟨none,0,rfl,by simp,.inl rfl⟩
  ·refine ⟨some ⟨g,ofs,none⟩,cap,rfl,⟨hl,h3⟩,.inr ⟨g,ofs,cur,E,(0,0),rfl,by rw[hB g (by simp)];exact h2,fun i x hx=>?_⟩⟩
   obtain ⟨c,e1,e2,e3⟩:=h6.at hJ (fun b hb=>hB b (by simp[hb])) i x hx
   exact ⟨c,e1,fun j hj=>by rw[Nat.add_assoc,<-List.getElem?_drop];exact e2 j hj,e3⟩
structure Ch where
 holds:Hp->World->List Nat->Prop
 mono: ∀ {I J w F},holds I w F->I.le J->holds J w F
 stay: ∀ {I w w' F},holds I w F->(∀b,b∈F->w'.heap[b]? =w.heap[b]?)->holds I w' F
 live: ∀ {I w F},holds I w F-> ∀b,b∈F->b<w.heap.size
def Ch.own {α:Type} (R:Rep α) (cs:List Value) (a:α):Ch:=⟨fun I w F=>R.own I w cs a F,fun h=>R.own_mono h,fun h=>R.own_stay h,fun h=>R.own_live h⟩
def Ch.blk (g:Nat) (cs:List Value) (E:TypeId):Ch:=
 ⟨fun _ w F=>F= [g] /\w.heap[g]? =some (.cells cs.toArray E (0,0)),fun h _=>h,fun h hw=>⟨h.1,by rw[hw g (by rw[h.1];simp)];exact h.2⟩,fun h b hb=>by rw[h.1] at hb;simp at hb;subst hb;exact (Array.getElem?_eq_some_iff.1 h.2).1⟩
def Sep (I:Hp):List Ch->World->List Nat->Prop
 | [],_,F=>F= []
 | c::cs,w,F=> ∃G K,F=G++K/\c.holds I w G/\Sep I cs w K
section
variable {I J:Hp}
theorem Sep.stay {w w':World} : ∀ {d F},Sep I d w F->(∀b,b∈F->w'.heap[b]? =w.heap[b]?)->Sep I d w' F
 | [],_,h,_=>h
 | c::d,F,⟨G,K,h1,h2,h3⟩,h=>by
  subst h1;exact ⟨G,K,rfl,c.stay h2 fun b a=>h b (bm _ a),h3.stay fun b a=>h b (bq _ a)⟩
theorem Sep.mono {w:World} : ∀ {a F},Sep I a w F->I.le J->Sep J a w F
 | [],_,h,_=>h
 | c::a,F,⟨G,K,h1,h2,h3⟩,h=>⟨G,K,h1,c.mono h2 h,h3.mono h⟩
theorem Sep.live {w:World} : ∀ {a F},Sep I a w F-> ∀b,b∈F->b<w.heap.size
 | [],_,h,b,hb=>by rw[show _= [] from h] at hb;cases hb
 | c::a,F,⟨G,K,h1,h2,h3⟩,b,hb=>by
  subst h1;rcases aG hb with h | h
  ·exact c.live h2 b h
  ·exact h3.live b h
theorem Sep.append {w:World} : ∀ {b a F G},Sep I b w F->Sep I a w G->Sep I (b++a) w (F++G)
 | [],a,F,G,h,k=>by rw[show F= [] from h];exact k
 | c::b,a,F,G,⟨G1,K,h1,h2,h3⟩,k=>by
  subst h1;exact ⟨G1,K++G,by simp,h2,h3.append k⟩
theorem Sep.split {w:World} : ∀ {b a F},Sep I (b++a) w F-> ∃G K,F=G++K/\Sep I b w G/\Sep I a w K
 | [],a,F,h=>⟨[],F,rfl,rfl,h⟩
 | c::b,a,F,⟨G,K,h1,h2,h3⟩=>by
  have ⟨d,i,e,f,g⟩:=Sep.split h3;subst e;subst h1;exact ⟨G++d,i,by simp,⟨G,d,rfl,h2,f⟩,g⟩
theorem Sep.perm {w:World} {cs ds:List Ch} (h:cs.Perm ds): ∀ {F},Sep I cs w F-> ∃G,G.Perm F/\Sep I ds w G:=by
 induction h with
 | nil=>grind
 | cons c _ ih =>
  rintro F ⟨G,K,rfl,e,k⟩;have ⟨d,g,j⟩:=ih k;exact ⟨G++d,g.append_left G,G,d,rfl,e,j⟩
 | swap a b l =>
  rintro F ⟨G,K,rfl,e,⟨f,d,rfl,i,m⟩⟩;exact ⟨f++(G++d),List.perm_append_comm_assoc _ _ _,f,G++d,rfl,i,G,d,rfl,e,m⟩
 | trans _ _ ih1 ih2 =>
  grind
end
def St (I:Hp) (w0 w:World) (cs:List Ch):Prop:=
 (w.os=w0.os/\w.tape=w0.tape/\w.output=w0.output/\w0.heap.size<=w.heap.size)/\I.le (hp w)/\ ∃F,Sep I cs w F/\F.Nodup/\ ∀b,b∈F->I b=none
section
variable {I J:Hp} {w0 w w':World} {cs ds:List Ch}
theorem St.init (w:World):St (hp w) w w []:=⟨⟨rfl,rfl,rfl,aL _⟩,.rfl,[],rfl,List.nodup_nil,by simp⟩
theorem St.perm (h:St I w0 w cs) (hp:cs.Perm ds):St I w0 w ds:=by
 have ⟨e,d,F,i,g,j⟩:=h;have ⟨G,c,f⟩:=i.perm hp;exact ⟨e,d,G,f,c.nodup_iff.2 g,fun b a=>j b (c.mem_iff.1 a)⟩
theorem Ld {α:Type} {l:List α} {c:α} : ∀ {i:Nat},l[i]? =some c->l.Perm (c::l.eraseIdx i):=by
 induction l with
 | nil=>grind
 | cons x l ih =>
  intro i h;cases i with
  | zero=>simp_all
  | succ i=>exact ((ih (by grind)).cons x).trans (.swap _ _ _)
theorem St.front (h:St I w0 w cs) {c:Ch} (i:Nat) (hi:cs[i]? =some c):St I w0 w (c::cs.eraseIdx i):=h.perm (Ld hi)
theorem St.tail {c:Ch} (h:St I w0 w (c::cs)):St I w0 w cs:=by
 obtain ⟨e,d,F,⟨G,K,rfl,j,g⟩,f,i⟩:=h;exact ⟨e,d,K,g,(List.nodup_append.1 f).2.1,fun b a=>i b (bq _ a)⟩
theorem St.left (h:St I w0 w (cs++ds)):St I w0 w cs:=by
 have ⟨d,c,F,g,f,i⟩:=h;obtain ⟨G,K,rfl,e,j⟩:=g.split;exact ⟨d,c,G,e,(List.nodup_append.1 f).1,fun b a=>i b (bm _ a)⟩
theorem St.step {c:List Ch} {c':List Ch} (h:St I w0 w (c++cs)) (A:w'.os=w.os) (H:w'.tape=w.tape) (B:w'.output=w.output) (M:w.heap.size<=w'.heap.size)
  (hs: ∀F,Sep I c w F->F.Nodup->(∀b,b∈F->I b=none)->(∀b,b<w.heap.size->b∉F->w'.heap[b]? =w.heap[b]?)/\ ∃F',Sep I c' w' F'/\F'.Nodup/\ ∀b,b∈F'->b∈F\/w.heap.size<=b):St I w0 w' (c'++cs):=by
 have ⟨⟨z,r,q,v⟩,m,F,s,y,t⟩:=h;obtain ⟨G,K,rfl,x,i⟩:=s.split;have ⟨L,u,p⟩:=List.nodup_append.1 y;have ⟨k,D,E,n,l⟩:=hs G x L fun b d=>t b (bm _ d);have C:=fun b a=>k b (i.live b a) fun j=>p b j b a rfl;have g:=fun b o d=>(Array.getElem?_eq_some_iff.1 (m b o d)).1;refine ⟨⟨A.trans z,H.trans r,B.trans q,Nat.le_trans v M⟩,fun b o d=>?_,D++K,E.append (i.stay C),List.nodup_append.2 ⟨n,u,?_⟩,?_⟩
 ·show w'.heap[b]? =some o;rw[k b (g b o d) fun j=>by grind];exact m b o d
 ·rintro b f c e rfl;rcases l b f with h | h
  ·grind
  ·have:=i.live b e;omega
 ·intro b a;rcases aG a with h | h
  ·rcases l b h with h | h
   ·grind
   ·cases N:I b with
    | none=>rfl
    | some o=>grind
  grind
theorem St.drawn (h:St I w0 w cs) (e:w'.os=w.os) (a:w'.tape=w.tape) (f:w'.output=w.output) (d:w'.heap=w.heap):St I w0 w' cs:=by
 refine St.step (w:=w) (c:=[]) (c':=[]) h e a f (by grind) ?_;rintro F rfl - -;exact ⟨fun b g _=>by rw[d],[],rfl,List.nodup_nil,by simp⟩
theorem St.drew (h:St I w0 w cs):St I w0 w.drew cs:=h.drawn rfl rfl rfl rfl
def Ch.fr (I:Hp) (cs:List Ch):Ch:=⟨fun _ w F=>Sep I cs w F,fun h _=>h,fun h=>h.stay,fun h=>h.live⟩
def Ch.deep (c:Ch):Prop:= ∀ {I J w F},c.holds J w F->c.holds I w F
def Ch.deeps:List Ch->Prop
 | [] =>True
 | c::cs=>c.deep/\Ch.deeps cs
theorem Sep.deeps {w:World} : ∀ {cs F},Ch.deeps cs->Sep J cs w F->Sep I cs w F
 | [],_,_,h=>h
 | c::cs,F,hd,⟨G,K,h1,h2,h3⟩=>⟨G,K,h1,hd.1 h2,h3.deeps hd.2⟩
theorem St.lend {ls:List Ch} (h:St I w0 w (ls++cs)): ∃J,I.le J/\(∀ {α:Type} (R:Rep α) (v:List Value) (a:α),Ch.own R v a∈ls->R.rd J v a)/\(∀g l E,Ch.blk g l E∈ls->J g=some (.cells l.toArray E (0,0)))/\St J w0 w [Ch.fr I cs] /\
  ∀w' ds,Ch.deeps ds->St J w0 w' (ds++ [Ch.fr I cs])->St I w0 w' (ds++(ls++cs)):=by
 have ⟨q,N,F,L,O,X⟩:=h;obtain ⟨G,K,rfl,n,T⟩:=L.split;have ⟨n1,M,V⟩:=List.nodup_append.1 O;let J:=fun b=>if b∈G then w.heap[b]? else I b;have j:I.le J:=fun b o f=>by
  grind
 have k: ∀b,b∈G->J b=w.heap[b]? :=fun b f=>if_pos f;have r: ∀b,b∉G->J b=I b:=fun b f=>if_neg f;have i: ∀ {ls:List Ch} {G:List Nat} {c:Ch},Sep I ls w G->c∈ls-> ∃p,(∀b,b∈p->b∈G)/\c.holds I w p:=by
  intro ls;induction ls with
  | nil=>grind
  | cons d ls ih =>
   rintro G c ⟨G1,K1,rfl,e,e'⟩ Y;grind
 refine ⟨J,j,fun R v a t=>?_,fun g l E t=>?_,⟨q,fun b o f=>?_,K,⟨K,[],by simp,T,rfl⟩,M,fun b f=>?_⟩,?_⟩
 ·have ⟨p,y,x⟩:=i n t;exact R.own_rd x j fun b q=>k b (y b q)
 ·have ⟨p,y,x,f3⟩:=i n t;grind
 ·by_cases m:b∈G
  ·rw[k b m] at f;exact f
  ·rw[r b m] at f;exact N b o f
 ·grind
 ·rintro w' ds Q ⟨D,z,F',C,k2,U⟩;obtain ⟨A,W,rfl,P,S,Z,rfl,H,rfl⟩:=C.split;have s:=n.live;have u: ∀b,b∈G->w'.heap[b]? =w.heap[b]? :=fun b m=>by
   have ⟨o,B⟩: ∃o,w.heap[b]? =some o:=⟨_,Array.getElem?_eq_getElem (s b m)⟩;rw[B];exact z b o (by grind)
  refine ⟨D,j.trans z,A++(G++S),(P.deeps Q).append ((n.stay u).append H),?_,fun b f=>?_⟩
  ·grind
  grind
theorem St.freeze {α:Type} {R:Rep α} {v:List Value} {a:α} (h:St I w0 w (Ch.own R v a::cs)): ∃J,I.le J/\R.rd J v a/\St J w0 w cs:=by
 obtain ⟨e,g,F,⟨G,K,rfl,i,k⟩,j,m⟩:=h;have ⟨n,f,l⟩:=List.nodup_append.1 j;refine ⟨fun b=>if b∈G then w.heap[b]? else I b,fun b o c=>?_,R.own_rd i (fun b o c=>?_) fun b c=>if_pos c,e,fun b o c=>?_,K,k.mono fun b o c=>?_,f,fun b c=>?_⟩
 ·grind
 ·grind
 ·have d:(if b∈G then w.heap[b]? else I b)=some o:=c;split at d
  ·exact d
  ·exact g b o d
 ·grind
 grind
theorem St.freeze_blk {g:Nat} {l:List Value} {E:TypeId} (h:St I w0 w (Ch.blk g l E::cs)): ∃J,I.le J/\J g=some (.cells l.toArray E (0,0))/\St J w0 w cs:=by
 obtain ⟨d,f,F,⟨G,K,rfl,⟨rfl,i⟩,k⟩,j,n⟩:=h;have ⟨p,e,m⟩:=List.nodup_append.1 j;refine ⟨fun b=>if b ∈ [g] then w.heap[b]? else I b,fun b o c=>?_,(if_pos (by simp)).trans i,d,fun b o c=>?_,K,k.mono fun b o c=>?_,e,fun b c=>?_⟩
 ·grind
 ·have a:(if b ∈ [g] then w.heap[b]? else I b)=some o:=c;split at a
  ·exact a
  ·exact f b o a
 ·grind
 grind
theorem St.heap (h:St I w0 w cs) {g:Nat} {l:List Value} {E:TypeId} (i:Nat) (hi:cs[i]? =some (Ch.blk g l E)):w.heap[g]? =some (.cells l.toArray E (0,0)):=by
 have ⟨c,_,F,⟨G,K,b,a,e⟩,d,f⟩:=h.front i hi;exact a.2
theorem St.alloc (h:St I w0 w cs) (l:List Value) (E:TypeId):St I w0 (w.alloc (.cells l.toArray E)) (Ch.blk w.heap.size l E::cs):=by
 refine St.step (w:=w) (c:=[]) (c':=[Ch.blk w.heap.size l E]) (w':=w.alloc (.cells l.toArray E)) h rfl rfl rfl (by simp) ?_;rintro F rfl - -;refine ⟨fun b a _=>?_,[w.heap.size],⟨[w.heap.size],[],rfl,⟨rfl,heap_alloc_new w _⟩,rfl⟩,by simp,by simp⟩;show (w.heap.push _)[b]? =_;grind
theorem gC {w:World} {g o:Nat} {v:Value} {cur:Array Value} {E:TypeId} {a:Nat×Nat} (h:w.heap[g]? =some (.cells cur E a)):(w.setCell ⟨g,o,none⟩ v).heap[g]? =some (.cells (cur.setIfInBounds o v) E a):=by
 simp[World.setCell,Array.getElem?_modify,h]
theorem St.set {g:Nat} {l:List Value} {E:TypeId} (h:St I w0 w (Ch.blk g l E::cs)) (j:Nat) (v:Value):St I w0 (w.setCell ⟨g,j,none⟩ v) (Ch.blk g (l.set j v) E::cs):=by
 refine St.step (c:=[Ch.blk g l E]) (c':=[Ch.blk g (l.set j v) E]) (w':=w.setCell ⟨g,j,none⟩ v) h rfl rfl rfl (by simp) ?_;rintro F ⟨G,K,rfl,⟨rfl,a⟩,rfl⟩ - -;refine ⟨fun b d e=>Below.heap_setCell _ _ _ _ (by grind),[g],⟨[g],[],rfl,⟨rfl,?_⟩,rfl⟩,by simp,by simp⟩;rw[gC a];simp
end
def evL (L:List (Nat×Value)):Operand->Value
 | .tmp t=>(L.lookup t).getD undef
 | .const v=>v
 | .global g=>.pointer (some ⟨g,0,none⟩)
 | .func f=>.func (.func f) #[] #[]
def MT (L:List (Nat×Value)):Operand->Bool
 | .tmp t=>(L.lookup t).isSome
 | _=>true
def DY (L:List (Nat×Value)) (o:Oper):Bool:=o.op.operands.toList.all (MT L)
def Agr (n:Nat) (a:Act) (L:List (Nat×Value)):Prop:=a.defers= [] /\a.tmps.size=n/\ ∀t v,L.lookup t=some v->a.tmps.getD t undef=v
def QJ (d:Option Tmp) (v:Value) (L:List (Nat×Value)):List (Nat×Value):=
 match d with
 | some d=>(d,v)::L
 | none=>L
def dstOk (n:Nat):Option Tmp->Bool
 | some d=>decide (d<n)
 | none=>true
section
variable {n:Nat} {a:Act} {L L':List (Nat×Value)}
theorem Agr.eval (h:Agr n a L) {x:Operand} (b:MT L x=true):a.eval x=evL L x:=by
 cases x with
 | tmp t =>
  have ⟨v,hv⟩:=Option.isSome_iff_exists.1 b;simp only[Act.eval,evL,hv];exact h.2.2 t v hv
 | _=>rfl
theorem vY {l:Array Value} {d:Nat} {v x:Value} (h:d<l.size):(l.setIfInBounds d v).getD d x=v:=by
 simp_all
theorem getD_set_ne {l:Array Value} {d t:Nat} {v x:Value} (h:d≠t):(l.setIfInBounds d v).getD t x=l.getD t x:=by
 simp_all
theorem Agr.put (h:Agr n a L) {d:Option Tmp} (v:Value) (c:dstOk n d=true):Agr n (a.put d v) (QJ d v L):=by
 cases d with
 | none=>exact h
 | some d =>
  have c:d<n:=by simpa [dstOk] using c
  refine ⟨h.1,by simp[Act.put,h.2.1],fun t u b=>?_⟩;simp[QJ,List.lookup_cons] at b;by_cases e:t=d
  ·subst e;simp at b;subst b;exact vY (by rw[h.2.1];exact c)
  ·have:(t==d)=false:=by simpa using e
   rw[this] at b;show (a.tmps.setIfInBounds d v).getD t undef=u;rw[getD_set_ne (fun f=>e f.symm)];exact h.2.2 t u b
theorem Agr.sub (h:Agr n a L) (hs: ∀t v,L'.lookup t=some v->L.lookup t=some v):Agr n a L':=⟨h.1,h.2.1,fun t v hv=>h.2.2 t v (hs t v hv)⟩
theorem Agr.pick (h:Agr n a L) (L':List (Nat×Value)) (hs: ∀p∈L',L.lookup p.1=some p.2):Agr n a L':=by
 refine h.sub fun t v hv=>?_
 have: ∀(M:List (Nat×Value)),(∀p∈M,L.lookup p.1=some p.2)->M.lookup t=some v->L.lookup t=some v:=by
  intro M;induction M with
  | nil=>grind
  | cons p M ih =>
   grind
 grind
theorem Agr.start {args:Array Value} {m:Nat} (L:List (Nat×Value)) (e:args.size+m=n) (hs: ∀p∈L,args[p.1]? =some p.2):Agr n { tmps:=args++Array.replicate m undef,defers:=[] } L:=by
 have d:Agr n { tmps:=args++Array.replicate m undef,defers:=[] } (args.toList.zipIdx.map fun p=>(p.2,p.1)):=by
  refine ⟨rfl,by grind,fun t v hv=>?_⟩;have key: ∀(l:List Value) (k:Nat),((l.zipIdx k).map fun p=>(p.2,p.1)).lookup t=some v->k<=t/\l[t - k]? =some v:=by
   intro l;induction l with
   | nil=>grind
   | cons x l ih =>
    grind[List.zipIdx_cons]
  obtain ⟨-,b⟩:=key _ 0 hv;rw[Nat.sub_zero,Array.getElem?_toList] at b;have c:=(Array.getElem?_eq_some_iff.1 b).1;rw[Array.getD_eq_getD_getElem?,Array.getElem?_append_left c,b];rfl
 refine d.pick L fun p hp=>?_;have key: ∀(l:List Value) (k:Nat),k<=p.1->l[p.1 - k]? =some p.2->((l.zipIdx k).map fun p=>(p.2,p.1)).lookup p.1=some p.2:=by
  intro l;induction l with
  | nil=>grind
  | cons x l ih =>
   grind[List.zipIdx_cons]
 grind
end
def Upon (P:Program) (ok:Value->World->Prop):Result Next->Prop
 | .ok (.value v) w'=>ok v w'
 | .ok .skip w'=>ok undef w'
 | .ok (.enter f args) w'=>Calls P f args w' fun e w''=> ∃v,e= .returned v/\ok v w''
 | _=>False
def OpT (P:Program) (I:Hp) (w0:World) (o:Oper) (ev:Operand->Value) (rn:List Ch) (fact:Value->Prop) (gv:Value->List Ch):Prop:=
 ∀w C,St I w0 w (rn++C)->Upon P (fun v w'=>fact v/\St I w0 w' (gv v++C)) ((execOp ev o).run P w)
theorem Upon.wp {P:Program} {o:Oper} {a:Act} {w:World} {ok:Value->World->Prop} {K:Act->World->Prop} {Q:Exit->Act->World->Prop} (b:Upon P ok ((execOp a.eval o).run P w)) (d: ∀v c,ok v c->K (a.put o.dst v) c):o.wp P a w K Q:=by
 unfold Oper.wp;generalize (execOp a.eval o).run P w=r at b;cases r with
 | halt h c=>exact b.elim
 | ok x c =>
  cases x <;> first | exact b.elim | exact d _ _ b | skip
  refine Calls.mono b ?_;grind
def noSelect (o:Oper):Bool:=match o.op with | .select .. =>false | _=>true
theorem rb {ρ ρ':Operand->Value} {o:Oper} (hs:noSelect o=true) (h: ∀x∈o.op.operands,ρ x=ρ' x):execOp ρ o=execOp ρ' o:=
 execOp_congr o (fun a b e=>by grind[noSelect]) h
section
variable {P:Program} {I:Hp} {w0 w:World} {n:Nat} {a:Act} {L:List (Nat×Value)} {C0 C rn:List Ch} {ops:Array Oper} {Q:Exit->Act->World->Prop} {o:Oper} {rest:List Oper}
theorem X3 {fact:Value->Prop} {gv:Value->List Ch} (f:Agr n a L) (hs:St I w0 w C0) (i:o.guard=none) (b:OpT P I w0 o (evL L) rn fact gv) (hp:C0.Perm (rn++C)) (g:(DY L o&&dstOk n o.dst&&noSelect o)=true)
  (k: ∀v a w,fact v->Agr n a (QJ o.dst v L)->St I w0 w (gv v++C)->wpList P ops Q rest a w):wpList P ops Q (o::rest) a w:=by
 simp[aj] at g;have ⟨⟨c,e⟩,d⟩:=g;refine wpList_plain i fun K l=>?_;have j:=rb d fun x p=>f.eval ((List.all_eq_true.1 c) x (by grind));have h:=b w C (hs.perm hp);rw[<-j] at h;exact h.wp fun v m hv=>l _ _ (k v _ m hv.1 (f.put v e) hv.2)
end
structure OpRec where
 reads:List Nat
 needs:List Nat
 gives:List Nat
 deps:List Nat
 fact:List Value->Prop
 src:List (Nat×Option Nat)
structure ResRec where
 deps:List Nat
 ch:List Value->Ch
structure Plan where
 ops:List OpRec
 res:List ResRec
 base:List Nat
 pre:List (List Nat)
 fin:List (Nat×Option Nat)
 left:List Nat
def upd (vs:Nat->Value) (i:Nat) (v:Value):Nat->Value:=fun j=>if j=i then v else vs j
theorem ig {vs:Nat->Value} {i:Nat} {v:Value} :upd vs i v i=v:=by simp[upd]
theorem Jp {vs:Nat->Value} {i j:Nat} {v:Value} (h:j≠i):upd vs i v j=vs j:=by simp[upd,h]
namespace Plan
def op (p:Plan) (i:Nat):OpRec:=p.ops.getD i ⟨[],[],[],[],fun _=>True,[]⟩
def chunk (p:Plan) (r:Nat) (vs:Nat->Value):Ch:=
 match p.res[r]? with
 | some x=>x.ch (x.deps.map vs)
 | none=>Ch.fr (fun _=>none) []
def fact (p:Plan) (i:Nat) (vs:Nat->Value):Prop:=(p.op i).fact ((p.op i).deps.map vs)
end Plan
def edgesOf (o:Oper):List Nat:=(o.after.toList.filter (Region.binds .any)).map (·.on)
def slotsOf (ops:Array Oper) (o:Oper):List Nat:=o.looksAt ops
def Le (o:Oper) (vs:Nat->Value):Option Bool:=
 match o.guard with
 | none=>some true
 | some (g,want)=>match vs g with
  | .bool b=>some (b==want)
  | _=>some false
section
variable {p:Plan} {C:List Ch} {P:Program} {I:Hp} {w0:World} {n:Nat} {L:List (Nat×Value)} {ops:List Oper} {S:Nat->Bool} {vs:Nat->Value} {a:Act} {w:World} {i:Nat} {o:Oper}
theorem mem_ready {ops:Array Oper} {listed:Array Bool} {i:Nat} :i∈Region.ready .any ops listed↔i<ops.size/\listed.getD i true=false/\ ∀o,ops[i]? =some o-> ∀j,j∈edgesOf o->listed.getD j false=true:=by
 unfold Region.ready;rw[List.mem_filter,List.mem_range];constructor
 ·grind[Array.all_eq_true',edgesOf]
 ·rintro ⟨b,d,f⟩;refine ⟨b,?_⟩;simp only[aj,Bool.not_eq_true'];refine ⟨d,?_⟩;have c:=Array.getElem?_eq_getElem b;rw[c];simp only[Option.map_some,Option.getD_some,Array.all_eq_true',Bool.or_eq_true,Bool.not_eq_true'];intro e h;cases g:Region.binds .any e with
  | false=>grind
  | true =>
   refine .inr (f _ c _ ?_);grind[edgesOf]
def leftOf (m:Nat) (listed:Array Bool):Nat:=((List.range m).filter fun i=> !listed.getD i false).length
end
end D
namespace D
open Go.RowKit
def X4:TypeDesc->Bool
 | .struct _ | .array _ _=>true
 | _=>false
def TI (P:Program) (T:TypeId) (agg:Bool) (n:Nat):Prop:=(∃d,P.underlying T=some d/\X4 d=agg)/\(P.info? T).map (·.size)=some n
def TZ (P:Program) (T:TypeId) (z:Value) (n bytes:Nat):Prop:=(P.info? T).map (fun i=>(i.zero,i.size,i.bytes))=some (some z,n,bytes)
def TF (P:Program) (T:TypeId) (f off n:Nat):Prop:= ∃fs fd,P.underlying T=some (.struct fs)/\fs[f]? =some fd/\fd.offset=off/\(P.info? fd.type).map (·.size)=some (n+1)
section
variable {P:Program}
theorem TI.run_agg {T:TypeId} {agg:Bool} {n:Nat} (h:TI P T agg n) (w:World):(isAgg T).run P w= .ok agg w:=by
 obtain ⟨⟨d,a,rfl⟩,-⟩:=h;unfold isAgg;rw[Sem.run_bind,run_underlying a w];cases d <;> rfl
theorem TI.run_size {T:TypeId} {agg:Bool} {n:Nat} (h:TI P T agg n) (w:World):(sizeOf T).run P w= .ok n w:=by
 obtain ⟨-,h⟩:=h;cases a:P.info? T with
 | none=>grind
 | some i =>
  simp_all[sizeOf,typeInfo]
theorem TZ.run_zero {T:TypeId} {z:Value} {n b:Nat} (h:TZ P T z n b) (w:World):(zeroValue T).run P w= .ok z w:=by
 have ⟨i,a,c,d,e⟩:=info_parts h;simp[zeroValue,typeInfo,a,c]
variable {I:Hp} {w0:World} {o:Oper} {ev:Operand->Value}
theorem bp {v:Value} (h: ∀w,(execOp ev o).run P w= .ok (.value v) w):OpT P I w0 o ev [] (· =v) (fun _=>[]):=by
 intro w C a;rw[h];exact ⟨rfl,a⟩
theorem QS {x:Operand} {v:Value} (a:o.op= .move x) (hv:ev x=v):OpT P I w0 o ev [] (· =v) (fun _=>[]):=
 bp fun w=>by simp_all[execOp]
theorem Lf {x:Operand} {v:Value} (a:o.op= .assign x) (hv:ev x=v):OpT P I w0 o ev [] (· =v) (fun _=>[]):=
 bp fun w=>by simp_all[execOp]
theorem Jq {c x y:Operand} {b:Bool} {v:Value} (d:o.op= .pick c x y) (a:ev c= .bool b) (hv:(if b then ev x else ev y)=v):OpT P I w0 o ev [] (· =v) (fun _=>[]):=
 bp fun w=>by simp_all[execOp,asBool]
theorem Al {x:Operand} {vs:Array Value} {i:Nat} {v:Value} (b:o.op= .extract x i) (a:ev x= .tuple vs) (hv:vs[i]? =some v):OpT P I w0 o ev [] (· =v) (fun _=>[]):=
 bp fun w=>by simp_all[execOp,Instr.extract,Result.andThen]
theorem MU {x:Operand} {t:TypeId} {b:Bool} (c:o.op= .unOp .not t x) (a:ev x= .bool b):OpT P I w0 o ev [] (· = .bool (!b)) (fun _=>[]):=
 bp fun w=>by simp[execOp,c,a];rfl
theorem U6 {x:Operand} {t:TypeId} {n:Int} (b:o.op= .unOp .neg t x) (a:ev x= .int .i64 n):OpT P I w0 o ev [] (· = .int .i64 (i64.wrap (-n))) (fun _=>[]):=
 bp fun w=>by simp[execOp,b,a,Op.unary,Op.intArith,Result.andThen]
def X5:BinOp->Bool
 | .eql | .neq | .lss | .leq | .gtr | .geq=>true
 | _=>false
def cmpI:BinOp->Int->Int->Bool
 | .eql,a,b=>a==b
 | .neq,a,b=>a !=b
 | .lss,a,b=>decide (a<b)
 | .leq,a,b=>decide (a<=b)
 | .gtr,a,b=>decide (a>b)
 | _,a,b=>decide (a≥b)
theorem vd {x y:Operand} {b:BinOp} {t u:TypeId} {k:IntKind} {m n:Int} {c:Bool} (g:o.op= .binOp b t x y u) (f:ev x= .int k m) (d:ev y= .int k n) (a:X5 b=true) (e:cmpI b m n=c):OpT P I w0 o ev [] (· = .bool c) (fun _=>[]):=
 bp fun w=>by
  subst e;simp[execOp,g,f,d];cases b <;> first | exact absurd a (by decide) | (cases k <;> rfl)
theorem U7 {x y:Operand} {t u:TypeId} {m n:Int} (c:o.op= .binOp .add t x y u) (b:ev x= .int .i64 m) (a:ev y= .int .i64 n):OpT P I w0 o ev [] (· = .int .i64 (i64.wrap (m+n))) (fun _=>[]):=
 bp fun w=>by simp[execOp,c,b,a];rfl
theorem U8 {x y:Operand} {t u:TypeId} {m n:Int} (c:o.op= .binOp .sub t x y u) (b:ev x= .int .i64 m) (a:ev y= .int .i64 n):OpT P I w0 o ev [] (· = .int .i64 (i64.wrap (m - n))) (fun _=>[]):=
 bp fun w=>by simp[execOp,c,b,a];rfl
theorem U9 {x y:Operand} {t u:TypeId} {m n:Int} (c:o.op= .binOp .mul t x y u) (b:ev x= .int .i64 m) (a:ev y= .int .i64 n):OpT P I w0 o ev [] (· = .int .i64 (i64.wrap (m*n))) (fun _=>[]):=
 bp fun w=>by simp[execOp,c,b,a];rfl
def FD (m n:Int):Int:=i64.wrap (m.tdiv n)
theorem Va {x y:Operand} {t u:TypeId} {m n:Int} (d:o.op= .binOp .quo t x y u) (c:ev x= .int .i64 m) (a:ev y= .int .i64 n) (b:n≠0):OpT P I w0 o ev [] (· = .int .i64 (FD m n)) (fun _=>[]):=
 bp fun w=>by simp_all[execOp,eqGuard,binOp,Op.intDiv,Result.andThen,FD]
theorem Vc {x y:Operand} {t u:TypeId} {m n:Int} (d:o.op= .binOp .rem t x y u) (c:ev x= .int .i64 m) (a:ev y= .int .i64 n) (b:n≠0):OpT P I w0 o ev [] (· = .int .i64 (m.tmod n)) (fun _=>[]):=
 bp fun w=>by simp_all[execOp,eqGuard,binOp,Op.intDiv,Result.andThen]
def vZ (m n:Int):Int:=i64.wrap (m*2 ^ (min n.toNat 64))
def n9 (m n:Int):Int:=m.fdiv (2 ^ (min n.toNat 64))
theorem Vd {x y:Operand} {t u:TypeId} {m n:Int} (c:o.op= .binOp .shl t x y u) (b:ev x= .int .i64 m) (a:ev y= .int .i64 n) (d:0<=n):OpT P I w0 o ev [] (· = .int .i64 (vZ m n)) (fun _=>[]):=
 bp fun w=>by simp[execOp,c,b,a,eqGuard,binOp,Op.shift,show¬n<0 from by omega,Result.andThen,vZ,IntKind.bits]
theorem Ve {x y:Operand} {t u:TypeId} {m n:Int} (c:o.op= .binOp .shr t x y u) (b:ev x= .int .i64 m) (a:ev y= .int .i64 n) (d:0<=n):OpT P I w0 o ev [] (· = .int .i64 (n9 m n)) (fun _=>[]):=
 bp fun w=>by simp[execOp,c,b,a,eqGuard,binOp,Op.shift,show¬n<0 from by omega,Result.andThen,n9,IntKind.bits]
def qp (m n:Int):Int:=i64.wrap ((BitVec.ofInt 64 m &&& BitVec.ofInt 64 n).toNat:Nat)
def orI (m n:Int):Int:=i64.wrap ((BitVec.ofInt 64 m ||| BitVec.ofInt 64 n).toNat:Nat)
def Z5 (m n:Int):Int:=i64.wrap ((BitVec.ofInt 64 m ^^^ BitVec.ofInt 64 n).toNat:Nat)
theorem Vf {x y:Operand} {t u:TypeId} {m n:Int} (c:o.op= .binOp .and t x y u) (b:ev x= .int .i64 m) (a:ev y= .int .i64 n):OpT P I w0 o ev [] (· = .int .i64 (qp m n)) (fun _=>[]):=
 bp fun w=>by simp[execOp,c,b,a];rfl
theorem X6 {x y:Operand} {t u:TypeId} {m n:Int} (c:o.op= .binOp .or t x y u) (b:ev x= .int .i64 m) (a:ev y= .int .i64 n):OpT P I w0 o ev [] (· = .int .i64 (orI m n)) (fun _=>[]):=
 bp fun w=>by simp[execOp,c,b,a];rfl
theorem Vg {x y:Operand} {t u:TypeId} {m n:Int} (c:o.op= .binOp .xor t x y u) (b:ev x= .int .i64 m) (a:ev y= .int .i64 n):OpT P I w0 o ev [] (· = .int .i64 (Z5 m n)) (fun _=>[]):=
 bp fun w=>by simp[execOp,c,b,a];rfl
theorem Am {t:TypeId} {b c:Bool} (a:P.underlying t=some .bool) (w:World):(Op.equal t (.bool b) (.bool c)).run P w= .ok (b==c) w:=by
 unfold Op.equal Op.maxDepth;rw[Op.equalIn,Sem.run_bind,run_underlying a];rfl
theorem Vh {x y:Operand} {t u:TypeId} {b c:Bool} (e:P.underlying t=some .bool) (h:o.op= .binOp .eql t x y u) (g:ev x= .bool b) (d:ev y= .bool c):OpT P I w0 o ev [] (· = .bool (b==c)) (fun _=>[]):=
 bp fun w=>by
  have f:eqGuard .eql t x y (.bool b) (.bool c)=pure ():=rfl;have a:binOp .eql t (.bool b) (.bool c)=(do pure (.bool (<-Op.equal t (.bool b) (.bool c)))):=rfl;simp_all[execOp,Sem.run_bind,Sem.run_pure,Am,Result.andThen_ok]
theorem Vi {x y:Operand} {t u:TypeId} {b c:Bool} (e:P.underlying t=some .bool) (h:o.op= .binOp .neq t x y u) (g:ev x= .bool b) (d:ev y= .bool c):OpT P I w0 o ev [] (· = .bool (b !=c)) (fun _=>[]):=
 bp fun w=>by
  have f:eqGuard .neq t x y (.bool b) (.bool c)=pure ():=rfl;have a:binOp .neq t (.bool b) (.bool c)=(do pure (.bool (!(<-Op.equal t (.bool b) (.bool c))))):=rfl;simp only[execOp,h,g,d,f,a,Sem.run_bind,Sem.run_pure,Am e,Result.andThen_ok];rfl
theorem mR {x:Operand} {T:TypeId} {f g off b n:Nat} (k:TF P T f off n) (l:o.op= .fieldAddr T x f) (p:ev x= .pointer (some ⟨g,b,none⟩)):OpT P I w0 o ev [] (· = .pointer (some ⟨g,b+off,none⟩)) (fun _=>[]):=by
 have ⟨fs,m,d,j,e,c⟩:=k;refine bp fun w=>?_;cases a:P.info? m.type with
 | none=>grind
 | some i =>
  have h:i.size=n+1:=by simpa [a] using c
  simp[execOp,l,p,Instr.fieldAt,Instr.sureAddr,run_underlying d,j,fieldPlace,sizeOf,typeInfo,a,h,e,Result.andThen,Addr.add_mid]
theorem v7 {x:Operand} {T:TypeId} {E:TypeId} {a:Option Addr} {n c:Nat} (b:P.underlying T=some (.slice E)) (e:o.op= .call { callee:=.builtin .len,args:= #[x],argTypes:= #[T] }) (d:ev x= .slice a n c):OpT P I w0 o ev [] (· = .int .i64 n) (fun _=>[]):=
 bp fun w=>by simp[execOp,e,d,resolve,invoke,builtin,Builtin.len_,run_underlying b,Result.andThen,goInt]
theorem HP {x:Operand} {T:TypeId} {s:ByteArray} (a:P.underlying T=some .string) (c:o.op= .call { callee:=.builtin .len,args:= #[x],argTypes:= #[T] }) (b:ev x= .string s):OpT P I w0 o ev [] (· = .int .i64 s.size) (fun _=>[]):=
 bp fun w=>by simp[execOp,c,b,resolve,invoke,builtin,Builtin.len_,run_underlying a,Result.andThen,goInt]
theorem DZ {f:Fn} {first captured:Array Operand} {v:Value} (c:o.op= .makeFunc f first captured) (hv:Value.func f (first.toList.map ev).toArray (captured.toList.map ev).toArray=v):OpT P I w0 o ev [] (· =v) (fun _=>[]):=
 bp fun w=>by
  have b:first.map ev=(first.toList.map ev).toArray:=by grind
  have a:captured.map ev=(captured.toList.map ev).toArray:=by grind
  simp[execOp,c,<-hv,b,a];rfl
end
section
variable {P:Program} {I:Hp} {w0 w w':World} {cs:List Ch}
theorem Upon.imp {ok a:Value->World->Prop} {r:Result Next} (h:Upon P ok r) (k: ∀v w,ok v w->a v w):Upon P a r:=by
 cases r with
 | halt x w=>exact h
 | ok x w =>
  cases x <;> first | exact h | exact k _ _ h | skip
  exact Calls.mono h fun e w' ⟨v,b,c⟩=>⟨v,b,k _ _ c⟩
def bk:Value->Nat
 | .pointer (some a)=>a.block
 | _=>0
def aav (v:Value):Prop:= ∃g,v= .pointer (some ⟨g,0,none⟩)
variable {o:Oper} {ev:Operand->Value}
theorem FE {T:TypeId} {z:Value} {n b:Nat} {l:List Value} (f:TZ P T z n b) (a:z.cells=l.toArray) (d:o.op= .alloc T):OpT P I w0 o ev [] aav (fun v=>[Ch.blk (bk v) l T]):=by
 intro w C c;have e:(execOp ev o).run P w= .ok (.value (.pointer (some ⟨w.heap.size,0,none⟩))) (w.alloc (.cells l.toArray T)):=by
  simp[execOp,d,Instr.alloc,Sem.run_bind,f.run_zero,Result.andThen_ok];simp[newVar,newRow,a,Result.andThen]
 rw[e];exact ⟨⟨_,rfl⟩,c.alloc l T⟩
theorem Vj {T:TypeId} {x:Operand} {u:Value} {l:List Value} (e:ev x=u) (a:u.cells=l.toArray) (d:o.op= .box T x):OpT P I w0 o ev [] aav (fun v=>[Ch.blk (bk v) l T]):=by
 intro w C b;have c:(execOp ev o).run P w= .ok (.value (.pointer (some ⟨w.heap.size,0,none⟩))) (w.alloc (.cells l.toArray T)):=by
  simp[execOp,d,Instr.box,e,Sem.run_bind];simp[newVar,newRow,a,Result.andThen]
 rw[c];exact ⟨⟨_,rfl⟩,b.alloc l T⟩
def Lds (agg:Bool) (d:List Value) (u:Value):Prop:=if agg then u= .agg d.toArray else d= [u]
theorem MV {T:TypeId} {agg:Bool} {n b off:Nat} {d:List Value} (e:TI P T agg n) (i:d.length=n) (f:agg=false->n=1) (c:w.rangeAt b off d): ∃u,(Instr.loadAt T (.pointer (some ⟨b,off,none⟩))).run P w= .ok u w/\Lds agg d u:=by
 cases agg with
 | true =>
  have ⟨⟨t,h,g⟩,j⟩:=e;exact ⟨_,run_loadAt_mid w b off T d t c h (by cases t <;> first | rfl | cases g) (by grind),rfl⟩
 | false =>
  obtain ⟨u,rfl⟩:=List.length_eq_one_iff.1 (i.trans (f rfl));refine ⟨u,?_,rfl⟩;have a:=c 0 u rfl;rw[Nat.add_zero] at a;simp[Instr.loadAt,Instr.sureAddr,loadVar,Sem.run_bind,e.run_agg,load,Sem.run,a,Result.andThen]
theorem D0 {T:TypeId} {x:Operand} {agg:Bool} {n b off:Nat} {d:List Value} {rn:List Ch} (g:TI P T agg n) (i:o.op= .load T x) (k:ev x= .pointer (some ⟨b,off,none⟩)) (h:d.length=n) (c:agg=false->n=1) (f: ∀w C,St I w0 w (rn++C)->w.rangeAt b off d):OpT P I w0 o ev rn (Lds agg d) (fun _=>rn):=by
 intro w C a;have ⟨u,e,j⟩:=MV g h c (f w C a);simp[execOp,i,k,Sem.run_bind,e,Result.andThen_ok];exact ⟨j,a⟩
theorem MW {g off:Nat} {l d:List Value} {E:TypeId} {C:List Ch} (h:St I w0 w (Ch.blk g l E::C)) (c:(l.drop off).take d.length=d):w.rangeAt g off d:=by
 intro j v a;have b:=h.heap 0 rfl;grind[World.cell?]
theorem FF {T:TypeId} {x:Operand} {agg:Bool} {n g off:Nat} {l d:List Value} {E:TypeId} {u:Value} (c:TI P T agg n) (f:o.op= .load T x) (i:ev x= .pointer (some ⟨g,off,none⟩)) (j:(agg || n==1)=true) (k:(l.drop off).take n=d) (a:d.length=n) (m:(if agg then Value.agg d.toArray else d.getD 0 undef)=u) :
  OpT P I w0 o ev [Ch.blk g l E] (· =u) (fun _=>[Ch.blk g l E]):=by
 intro w C b;refine (D0 (rn:=[Ch.blk g l E]) c f i a (fun e=>by grind) (fun w C h=>MW h (by grind)) w C b).imp fun v w hv=>⟨?_,hv.2⟩
 grind[Lds]
theorem yL {T:TypeId} {x:Operand} {agg:Bool} {n g off:Nat} {l d:List Value} {E:TypeId} {b:Nat×Nat} {u:Value} (i:I g=some (.cells l.toArray E b)) (f:TI P T agg n) (k:o.op= .load T x) (m:ev x= .pointer (some ⟨g,off,none⟩)) (p:(agg || n==1)=true) (s:(l.drop off).take n=d) (a:d.length=n) (t:(if agg then Value.agg d.toArray else d.getD 0 undef)=u) :
  OpT P I w0 o ev [] (· =u) (fun _=>[]):=by
 intro w C c;refine (D0 (rn:=[]) f k m a (fun e=>by grind) (fun w C h j v r=>?_) w C c).imp fun v w hv=>⟨?_,hv.2⟩
 ·have q:w.heap[g]? =some (.cells l.toArray E b):=h.2.1 g _ i;grind[World.cell?]
 grind[Lds]
def Fld {α β:Type} (R:Rep α) (off:Nat) (S:Rep β) (f:α->β):Prop:= ∀I c x,R.rd I c x-> ∃d,(c.drop off).take S.size=d/\S.rd I d (f x)
theorem Fld.self {α:Type} {R:Rep α} :Fld R 0 R (fun x=>x):=fun I c x h=>⟨c,by rw[<-R.rd_len h];simp,h⟩
theorem Fld.fst {α β γ:Type} {A:Rep α} {B:Rep β} {S:Rep γ} {off:Nat} {f:α->γ} (h:Fld A off S f):Fld (si A B) off S (fun x=>f x.1):=by
 rintro I c x ⟨e,j,rfl,b,k⟩;have ⟨d,g,a⟩:=h I e x.1 b;have i:=S.rd_len a;grind[aB,bP,List.drop_append]
theorem Fld.snd {α β γ:Type} {A:Rep α} {B:Rep β} {S:Rep γ} {off:Nat} {f:β->γ} (h:Fld B off S f):Fld (si A B) (A.size+off) S (fun x=>f x.2):=by
 rintro I c x ⟨j,e,rfl,a,i⟩;have ⟨d,b,g⟩:=h I e x.2 i;refine ⟨d,?_,g⟩;rw[List.drop_append,List.drop_of_length_le (by rw[A.rd_len a];omega),A.rd_len a,Nat.add_sub_cancel_left];exact b
def ptB:Value->Nat
 | .slice (some a) _ _=>a.block
 | _=>0
def ptO:Value->Nat
 | .slice (some a) _ _=>a.off
 | _=>0
def pt (v:Value) (o:Nat):Value:=.pointer (some ⟨ptB v,ptO v+o,none⟩)
def aP {α:Type} (xs:List α) (i:Int):Option α:=if 0<=i then xs[i.toNat]? else none
def inI {α:Type} (xs:List α) (i:Int):Prop:=0<=i/\i.toNat<xs.length
theorem D1 {α:Type} {xs:List α} {i:Int} {x:α} (h:aP xs i=some x):inI xs i:=by
 unfold aP at h;split at h
 ·exact ⟨‹_›,(List.getElem?_eq_some_iff.1 h).1⟩
 grind
theorem ve {α:Type} {xs:List α} {i:Int} {x:α} (h:aP xs i=some x):xs[i.toNat]? =some x:=by
 grind[aP]
def Hd (v:Value) (n:Nat):Prop:= ∃ao cap,v= .slice ao n cap/\(0<n-> ∃b off,ao=some ⟨b,off,none⟩)/\n<=cap
theorem Hd.of_rd {α:Type} {E:TypeId} {R:Rep α} {v:Value} {xs:List α} (h:(aw E R).rd I [v] xs):Hd v xs.length:=by
 have ⟨b,cap,hv,a,h⟩:=h;refine ⟨b,cap,by grind,fun hp=>?_,a.2⟩;grind
theorem Hd.of_own {α:Type} {E:TypeId} {R:Rep α} {v:Value} {xs:List α} {F:List Nat} (h:(aw E R).own I w [v] xs F):Hd v xs.length:=by
 have ⟨c,h⟩:=h;rcases h with ⟨hv,rfl,rfl⟩ | ⟨g,a,cap,cur,K,hv,_,b,_⟩
 ·exact ⟨none,0,by grind,by simp,aL _⟩
 ·exact ⟨_,cap,by grind,fun _=>⟨g,a,rfl⟩,by omega⟩
theorem St.hd {α:Type} {E:TypeId} {R:Rep α} {v:Value} {xs:List α} (h:St I w0 w cs) (i:Nat) (hi:cs[i]? =some (Ch.own (aw E R) [v] xs)):Hd v xs.length/\xs.length<=lim:=by
 have ⟨c,_,F,⟨G,K,b,a,e⟩,d,f⟩:=h.front i hi;exact ⟨Hd.of_own (I:=I) (w:=w) (E:=E) (R:=R) (F:=G) a,a.1⟩
theorem C4 {x:Operand} {T E:TypeId} {v:Value} {n:Nat} (h:Hd v n) (b:P.underlying T=some (.slice E)) (c:o.op= .call { callee:=.builtin .len,args:= #[x],argTypes:= #[T] }) (a:ev x=v):OpT P I w0 o ev [] (· = .int .i64 n) (fun _=>[]):=by
 obtain ⟨d,cap,rfl,_⟩:=h;exact v7 b c a
theorem sw {α:Type} {x y:Operand} {T E:TypeId} {v:Value} {xs:List α} {i:Int} {n:Nat} {agg:Bool} (h:Hd v xs.length) (c:P.underlying T=some (.slice E)) (d:TI P E agg n) (f:o.op= .indexAddr T x y) (a:ev x=v) (g:ev y= .int .i64 i) (hi:inI xs i):OpT P I w0 o ev [] (· =pt v (i.toNat*n)) (fun _=>[]):=by
 obtain ⟨j,cap,rfl,hp,-⟩:=h;obtain ⟨b,off,rfl⟩:=hp (by have:=hi.2;omega);refine bp fun w=>?_;have e:i<(xs.length:Int):=by have:=hi.2;omega
 simp[execOp,f,a,g,Instr.indexAt,asIntOf,run_underlying c,d.run_size,hi.1,e,Result.andThen,pt,ptB,ptO,Addr.add_mid]
theorem yM {x:Operand} {T:TypeId} {f off n b:Nat} {v:Value} (a:TF P T f off n) (d:o.op= .fieldAddr T x f) (c:ev x=pt v b):OpT P I w0 o ev [] (· =pt v (b+off)) (fun _=>[]):=by
 have:=mR (I:=I) (w0:=w0) a d c
 rw[Nat.add_assoc] at this;exact this
theorem HQ {α β:Type} {E T:TypeId} {R:Rep α} {S:Rep β} {off n k:Nat} {f:α->β} {x:Operand} {v:Value} {xs:List α} {a:α} {i:Int} {agg:Bool} (q:(aw E R).rd I [v] xs) (r:aP xs i=some a) (A:Fld R off S f) (z:TI P T agg n) (H:S.size=n) (L:(agg || n==1)=true) (F:o.op= .load T x) (s:ev x=pt v (i.toNat*k+off)) (Q:R.size=k) :
  OpT P I w0 o ev [] (fun u=> ∃d,S.rd I d (f a)/\Lds agg d u) (fun _=>[]):=by
 have ⟨W,cap,hv,V,h⟩:=q;have G:=ve r;rcases h with rfl | ⟨b,y,l,t,D,rfl,B,g⟩
 ·grind
 have ⟨c,M,K,J⟩:=g i.toNat a G;have ⟨d,O,m⟩:=A I c a J;intro w C p;refine (D0 (rn:=[]) z F s ((S.rd_len m).trans H) (fun e=>by grind) (fun w C h j u U=>?_) w C p).imp fun u w hv=>⟨⟨d,m,hv.1⟩,hv.2⟩
 have N:w.heap[b]? =some (.cells l t D):=h.2.1 b _ B;grind[List.getElem?_eq_some_iff,ptB,ptO,World.cell?]
def Rep.Sh {α:Type} (R:Rep α):Prop:= ∀ {I w cs a F},R.own I w cs a F->F= [] /\R.rd I cs a
theorem D2 {α:Type} {enc:α->Value} {h1: ∀a,(enc a).oneCell'=true} :(mu α enc h1).Sh:=fun h=>h
theorem Vk {α β:Type} {R:Rep α} {S:Rep β} (h:R.Sh) (k:S.Sh):(si R S).Sh:=by
 rintro I w cs a F ⟨c,d,G,K,rfl,rfl,e,f⟩;have ⟨j,b⟩:=h e;have ⟨i,g⟩:=k f;exact ⟨by grind,c,d,rfl,b,g⟩
theorem X7 {α:Type} {R:Rep α} :(zz R).Sh:=fun h=>h
theorem Vl:MS.Sh:=D2
theorem X8:QI.Sh:=D2
theorem OwnEls.sh {α:Type} {R:Rep α} (a:R.Sh): ∀ {xs:List α} {cur F},OwnEls R I w cur xs F->F= []
 | [],_,_,h=>h
 | x::xs,cur,F,⟨c,rest,G,K,h1,h2,h3,h4,h5⟩=>by rw[h3,(a h4).1,h5.sh a];rfl
def pY (w:World) (g:Nat):Nat->List Value->World
 | _,[] =>w
 | o,v::vs=>pY (w.setCell ⟨g,o,none⟩ v) g (o+1) vs
theorem sx {g:Nat} : ∀(vs:List Value) (w:World) (o i:Nat),(∀j,j<vs.length->(w.cell? ⟨g,o+i+j,none⟩).isSome=true)->(∀j,w.frozen? ⟨g,o+j,none⟩=false)->(∀v,v∈vs->v.oneCell'=true)->
  (storeCells ⟨g,o,none⟩ vs i).run P w= .ok () (pY w g (o+i) vs)
 | [],w,o,i,_,_,_=>by rfl
 | v::vs,w,o,i,hc,hf,h1=>by
  have d:=sx vs (w.setCell ⟨g,o+i,none⟩ v) o (i+1) (fun j c=>by
   have:=hc (j+1) (by grind)
   rw[Option.isSome_iff_exists] at this⊢;have ⟨u,b⟩:=this;simp[World.cell?,World.setCell,Array.getElem?_modify] at b⊢;cases e:w.heap[g]? with
   | none=>grind
   | some ob=>grind) (fun j=>by
   simp_all) (fun u b=>h1 u (by grind))
  have hv:=h1 v (by simp);simp[storeCells,Sem.run_bind,Addr.add_mid,store];have a:(Sem.store .plain ⟨g,o+i,none⟩ v (.pure ())).run P w= .ok () (w.setCell ⟨g,o+i,none⟩ v):=by
   cases v <;> first | grind[Sem.run] | (simp[Value.oneCell'] at hv)
  grind[Result.andThen_ok,pY]
theorem Jr {T:TypeId} {agg:Bool} {n g o:Nat} {u:Value} {l:List Value} (b:TI P T agg n) (a:u.cells=l.toArray) (e:l.length=n) (d: ∀j,j<n->(w.cell? ⟨g,o+j,none⟩).isSome=true) (c: ∀j,w.frozen? ⟨g,o+j,none⟩=false) (h1: ∀v,v∈l->v.oneCell'=true) :
  (Instr.storeAt T (.pointer (some ⟨g,o,none⟩)) u).run P w= .ok () (pY w g o l):=by
 have:=sx (P:=P) (g:=g) l w o 0 (by grind) c h1
 simp[Instr.storeAt,Instr.sureAddr,storeVar,Sem.run_bind,Sem.run_pure,Result.andThen_ok,b.run_size,a];grind
def spl (l:List Value):Nat->List Value->List Value
 | _,[] =>l
 | o,v::vs=>spl (l.set o v) (o+1) vs
theorem xF: ∀(vs l:List Value) (o:Nat),(spl l o vs).length=l.length
 | [],l,o=>rfl
 | v::vs,l,o=>by rw[spl,xF vs,List.length_set]
theorem St.sets {g:Nat} {E:TypeId} : ∀(vs l:List Value) (o:Nat) {w:World},St I w0 w (Ch.blk g l E::cs)->St I w0 (pY w g o vs) (Ch.blk g (spl l o vs) E::cs)
 | [],l,o,w,h=>h
 | v::vs,l,o,w,h=>St.sets vs (l.set o v) (o+1) (h.set o v)
theorem D3 {T:TypeId} {x y:Operand} {agg:Bool} {n g off:Nat} {l d:List Value} {E:TypeId} {u:Value} (e:TI P T agg n) (h:o.op= .store T x y) (m:ev x= .pointer (some ⟨g,off,none⟩)) (k:ev y=u) (i:u.cells=d.toArray) (f:d.length=n) (h1:d.all (·.oneCell')=true) (q:off+n<=l.length) :
  OpT P I w0 o ev [Ch.blk g l E] (fun _=>True) (fun _=>[Ch.blk g (spl l off d) E]):=by
 intro w C a;have c:=a.heap 0 rfl;have b:=Jr (P:=P) (w:=w) e (g:=g) (o:=off) i f (fun j p=>by
  grind[World.cell?]) (fun j=>by simp[World.frozen?,c]) (fun v hv=>List.all_eq_true.1 h1 v hv)
 simp only[execOp,h,m,k,Sem.run_bind,b,Result.andThen_ok];exact ⟨trivial,St.sets d l off a⟩
end
section
variable {P:Program} {I:Hp} {w0 w w':World} {cs:List Ch} {o:Oper} {ev:Operand->Value} {α:Type} {R:Rep α} {E:TypeId}
theorem MX: ∀(l:List Value) (k:Nat) (cells:Array Value),k+l.length<=cells.size->((l.toArray.zipIdx).foldl (fun cs (c,j)=>cs.setIfInBounds (k+j) c) cells).toList=cells.toList.take k++l++cells.toList.drop (k+l.length):=by
 intro l k cells h;have key: ∀(l:List Value) (i:Nat) (cells:Array Value),k+i+l.length<=cells.size->((l.zipIdx i).foldl (fun cs (p:Value×Nat)=>cs.setIfInBounds (k+p.2) p.1) cells).toList=cells.toList.take (k+i)++l++cells.toList.drop (k+i+l.length):=by
  intro l;induction l with
  | nil=>simp_all
  | cons x l ih =>
   intro i cells h;rw[aH] at h;rw[List.zipIdx_cons,List.foldl_cons,ih (i+1) _ (by grind),Array.toList_setIfInBounds];have d:cells.toList.length=cells.size:=Array.length_toList;have a:(cells.toList.set (k+i) x).take (k+i+1)=cells.toList.take (k+i)++ [x]:=by
    rw[List.take_add_one,List.take_set_of_le (aL _),List.getElem?_set_self (by omega)];rfl
   have b:(cells.toList.set (k+i) x).drop (k+(i+1)+l.length)=cells.toList.drop (k+(i+1)+l.length):=List.drop_set_of_lt (by omega);rw[b,show k+(i+1)=k+i+1 from rfl,a,aH,show k+i+(l.length+1)=k+i+1+l.length from by omega];simp
 grind
theorem FG (size:Nat): ∀(us:List (Value×List Value)) (k:Nat) (cells:Array Value),(∀u∈us,u.1.cells=u.2.toArray/\u.2.length=size)->(k+us.length)*size<=cells.size->
  ∃c,Instr.fill (fun i=>some (i*size,size)) cells ((us.zipIdx k).map fun p=>(p.2,p.1.1))=some c/\c.toList=cells.toList.take (k*size)++us.flatMap (·.2)++cells.toList.drop ((k+us.length)*size)
 | [],k,cells,_,_=>⟨cells,rfl,by simp⟩
 | (u,l)::us,k,cells,h,hs=>by
  have ⟨j,q⟩:=h (u,l) (by simp);simp only at j q;have f:(k+1+us.length)*size<=cells.size:=by rw[show k+1+us.length=k+(us.length+1) from by omega];exact hs
  have d:(k+1)*size<=cells.size:=Nat.le_trans (Nat.mul_le_mul_right _ (by omega)) f;rw[Nat.add_mul,Nat.one_mul] at d;have e:=MX l (k*size) cells (by omega);have b:((l.toArray.zipIdx).foldl (fun cs (p:Value×Nat)=>cs.setIfInBounds (k*size+p.2) p.1) cells).size=cells.size:=by
   rw[<-Array.length_toList,e];simp[az,aB,bP,Array.length_toList];omega
  obtain ⟨c,s,m⟩:=FG size us (k+1) _ (fun u j=>h u (by grind)) (by rw[b];exact f);refine ⟨c,?_,?_⟩
  ·grind[List.zipIdx_cons,Instr.fill]
  ·rw[m,e];have n:(k+1)*size=k*size+l.length:=by grind
   have g:(k+1+us.length)*size=k*size+l.length+us.length*size:=by grind
   have r:(k+(us.length+1))*size=k*size+l.length+us.length*size:=by rw[<-g];congr 1;omega
   have a:(cells.toList.take (k*size)).length=k*size:=by rw[aB,Array.length_toList];omega
   rw[n,g,aH,r,List.flatMap_cons];rw[aC,aC,aC];rw[List.take_append,a,List.take_of_length_le (by omega),Nat.add_sub_cancel_left,List.take_left];rw[List.drop_append,a,List.drop_of_length_le (by omega),List.drop_append,show k*size+l.length+us.length*size - k*size - l.length=us.length*size from by omega,List.drop_of_length_le (by omega),List.drop_drop];simp
theorem QU {T:TypeId} (f:P.underlying T=some (.slice E)) {agg:Bool} {n:Nat} (h:TI P E agg n) (i:o.op= .buildSlice T 0 #[]):OpT P I w0 o ev [] (fun _=>True) (fun v=>[Ch.own (aw E R) [v] []]):=by
 intro w C c;have a:(execOp ev o).run P w= .ok (.value (.slice (some ⟨w.heap.size,0,none⟩) 0 0)) (w.alloc (.cells #[] E)):=by
  simp[execOp,i,Instr.buildSlice,run_underlying f,h.run_size,Instr.fill,newRow,Result.andThen];grind
 rw[a];refine ⟨trivial,?_⟩;obtain ⟨b,g,F,⟨G,K,rfl,⟨rfl,d⟩,a⟩,j,e⟩:=c.alloc [] E;exact ⟨b,g,[w.heap.size] ++K,⟨[w.heap.size],K,rfl,⟨by simp,.inr ⟨w.heap.size,0,0,#[],[],rfl,d,by simp,by simp,by simp,rfl,rfl⟩⟩,a⟩,j,e⟩
def FH (R:Rep α):List (List Value)->List α->List Ch
 | c::ls,x::xs=>Ch.own R c x::FH R ls xs
 | _,_=>[]
theorem Js: ∀ {ls:List (List Value)} {xs:List α} {F},ls.length=xs.length->Sep I (FH R ls xs) w F->OwnEls R I w (ls.flatMap (fun l=>l)) xs F
 | [],[],F,_,h=>h
 | l::ls,x::xs,F,he,⟨G,K,h1,h2,h3⟩=>⟨l,ls.flatMap (fun l=>l),G,K,by simp,R.own_len h2,h1,h2,Js (by grind) h3⟩
 | [],_::_,F,he,h=>by grind
 | _::_,[],F,he,h=>by grind
theorem Jt {n:Nat} : ∀us:List (Value×List Value),(∀u∈us,u.2.length=n)->(us.flatMap (·.2)).length=us.length*n
 | [],_=>by simp
 | u::us,h=>by rw[List.flatMap_cons,az,aH,Nat.add_mul,h u (by simp),Jt us fun v hv=>h v (by grind)];omega
theorem MY {T:TypeId} {z:Value} {n b m:Nat} {parts:Array (Nat×Operand)} (us:List (Value×List Value)) (xs:List α) (A:P.underlying T=some (.slice E)) (D:TZ P E z n b) (d:0<n) (U:R.size=n) (M:0<m) (s:m*n<=16777216) (H:o.op= .buildSlice T m parts) (hp:parts.toList.map (fun p=>(p.1,ev p.2))=(us.zipIdx 0).map fun p=>(p.2,p.1.1)) (W:us.length=m) (t:xs.length=m)
  (J: ∀u∈us,u.1.cells=u.2.toArray/\u.2.length=n):OpT P I w0 o ev (FH R (us.map (·.2)) xs) (fun _=>True) (fun v=>[Ch.own (aw E R) [v] xs]):=by
 intro w C j;have ⟨i,e,N,S,V⟩:=info_parts D;have r:((Array.range (m*n)).map (z.cells[· % z.cells.size]!)).size=m*n:=by simp
 have ⟨c,Q,O⟩:=FG n us 0 ((Array.range (m*n)).map (z.cells[· % z.cells.size]!)) J (by grind);have q:=Nat.mul_pos M d;have f:(execOp ev o).run P w= .ok (.value (.slice (some ⟨w.heap.size,0,none⟩) m m)) (w.alloc (.cells c E)):=by
  simp[execOp,H,Sem.run_bind];rw[run_buildSlice w T E m _ c i z A e N (by grind) (by grind) (by simp_all)]
  rfl
 rw[f];refine ⟨trivial,?_⟩;have x:c=(us.flatMap (·.2)).toArray:=by grind
 rw[x];obtain ⟨g,B,F,⟨G,K,rfl,⟨rfl,k⟩,f⟩,X,y⟩:=j.alloc (us.flatMap (·.2)) E;obtain ⟨a,h,rfl,l,L⟩:=f.split;refine ⟨g,B,(w.heap.size::a)++h,⟨w.heap.size::a,h,rfl,⟨by unfold lim;have:m<=m*n:=Nat.le_mul_of_pos_right _ d;omega,.inr ⟨w.heap.size,0,m,_,a,by rw[t],k,by omega,?_,?_,rfl,?_⟩⟩,L⟩,by grind,fun b g=>y b (by grind)⟩
 ·unfold maxLen;have:m<=m*n:=Nat.le_mul_of_pos_right _ d;omega
 ·grind[Jt]
 ·have:=Js (R:=R) (I:=I) (w:=w.alloc (.cells (us.flatMap (·.2)).toArray E)) (ls:=us.map (·.2)) (xs:=xs) (by grind) l
  grind[List.flatMap_map]
theorem fo {t ty e:TypeId} {i:TypeInfo} (b:P.underlying t=some (.slice e)) (hi:P.info? e=some i) {ao:Option Addr} {n c:Nat} (f:n<=c) {a:Option Addr} {d:Nat} :(Builtin.append_ #[t,t] ty #[.slice ao n c,.slice a 0 d]).run P w= .ok (.slice ao n c) w:=by
 have g:(Builtin.firstCells i.size 0 (.slice a 0 d)).run P w= .ok #[] w:=by
  cases a <;> simp[Builtin.firstCells,loadCells,loadCellsFrom]
 simp[Builtin.append_,run_underlying b,sizeOf,typeInfo,hi,Builtin.lenOf,g,f,Result.andThen];cases ao <;> simp[storeCells]
theorem X9 {a:Array Value} {off:Nat} : ∀ {xs:List α},(∀i x,xs[i]? =some x-> ∃c:List Value,c.length=R.size/\(∀j,j<R.size->a.toList[off+i*R.size+j]? =c[j]?)/\R.rd I c x)->
  ∃news:List Value,news.length=xs.length*R.size/\(∀j u,news[j]? =some u->a.toList[off+j]? =some u)/\(∀u∈news,u.oneCell'=true)/\OwnEls (zz R) I w news xs []:=by
 intro xs;induction xs generalizing off with
 | nil=>intro _;exact ⟨[],by simp,by simp,by simp,rfl⟩
 | cons x xs ih =>
  intro h;have ⟨c,d,e,b⟩:=h 0 x rfl;have ⟨news,p,l,k,g⟩:=ih (off:=off+R.size) fun i y n=>by
   have ⟨c,d,e,b⟩:=h (i+1) y (by grind);grind
  refine ⟨c++news,by grind,fun j u m=>?_,fun u f=>?_,⟨c,news,[],[],rfl,d,rfl,⟨rfl,b⟩,g⟩⟩
  ·grind
  ·rcases aG f with h | h
   ·exact R.rd_one b u h
   grind
def OffRow (w:World) (E:TypeId) (n:Nat) (v:Value) (len:Nat) (cells:List Value):Prop:=cells.length=len*n/\((v= .slice none 0 0/\len=0)\/ ∃g ofs cap cur,v= .slice (some ⟨g,ofs,none⟩) len cap/\w.heap[g]? =some (.cells cur E (0,0))/\len<=cap/\cap<=maxLen/\ofs+cap*n<=cur.size/\(cur.toList.drop ofs).take (len*n)=cells)
theorem OffRow.of_owns {b n len:Nat} {v:Value} {cells:List Value} (h:w.ownsRow b E n v len cells):OffRow w E n v len cells:=
 ⟨h.1,h.2.imp (fun h=>h) fun ⟨g,cap,cur,e,_,a,d,f,i,c⟩=>⟨g,0,cap,cur,e,a,d,f,by omega,c⟩⟩
theorem pZ (g:Nat): ∀(d:List Value) (o:Nat) (w:World),(w.setCells g o d).os=w.os/\(w.setCells g o d).tape=w.tape/\(w.setCells g o d).output=w.output/\(w.setCells g o d).heap.size=w.heap.size/\ ∀b,b≠g->(w.setCells g o d).heap[b]? =w.heap[b]?
 | [],_,_=>⟨rfl,rfl,rfl,rfl,fun _ _=>rfl⟩
 | v::d,o,w=>by
  have ⟨h,f,c,e,i⟩:=pZ g d (o+1) (w.setCell ⟨g,o,none⟩ v);exact ⟨h,f,c,e.trans (by simp_all),fun b a=>(i b a).trans (Below.heap_setCell _ _ _ _ a)⟩
theorem sy {g:Nat} {a:Nat×Nat} : ∀(d:List Value) (o:Nat) (w:World) (cur:Array Value),o+d.length<=cur.size->w.heap[g]? =some (.cells cur E a)->(w.setCells g o d).heap[g]? =some (.cells (cur.toList.take o++d++cur.toList.drop (o+d.length)).toArray E a)
 | [],o,w,cur,_,h=>by simpa [World.setCells] using h
 | v::d,o,w,cur,hs,h=>by
  rw[aH] at hs
  have:=sy d (o+1) (w.setCell ⟨g,o,none⟩ v) (cur.setIfInBounds o v) (by grind) (gC h)
  rw[World.setCells,this,Array.toList_setIfInBounds];have c:cur.toList.length=cur.size:=Array.length_toList;have b:(cur.toList.set o v).take (o+1)=cur.toList.take o++ [v]:=by
   rw[List.take_add_one,List.take_set_of_le (aL _),List.getElem?_set_self (by omega)];rfl
  grind[List.drop_set_of_lt,aH]
theorem Ct {t ty:TypeId} {z:Value} {n b:Nat} {i:TypeInfo} (N:P.underlying t=some (.slice E)) (hi:P.info? E=some i) (T:i.zero=some z) (p:i.size=n) (C:i.bytes=b) (D:z.cells.size=n) (Q:0<n)
  {v:Value} {len:Nat} {cells:List Value} (A:OffRow w E n v len cells) (a:Addr) (m c:Nat) (news:List Value) (S:news.length=m*n) (f: ∀j u,news[j]? =some u->w.cell? (a.add j)=some u) (r: ∀u∈news,u.oneCell'=true) (y:len+m<=maxLen) (O:(len+m)*b<=140737488355328) :
  ∃s w',(Builtin.append_ #[t,t] ty #[v,.slice (some a) m c]).run P w= .ok s w'/\OffRow w' E n s (len+m) (cells++news)/\w.grownBy w' v.ownBlock/\(s.ownBlock=v.ownBlock\/ ∃G,s.ownBlock=some G/\w.heap.size<=G):=by
 have ⟨L,h⟩:=A;have F:(cells++news).length=(len+m)*n:=by grind
 rcases h with ⟨rfl,rfl⟩ | ⟨g,q,cap,cur,rfl,J,h3,W,h5,h6⟩
 ·obtain rfl:cells= []:=List.eq_nil_of_length_eq_zero (by omega);obtain ⟨s,w',d,H,x,-,V⟩:=run_append_own_at (P:=P) (w:=w) 0 t ty E i z n b N hi T p C D Q (.slice none 0 0) 0 [] (World.ownsRow_nil w _ E n) a m c news S f r y O (by omega);exact ⟨s,w',d,.of_owns H,x,V.imp (fun h=>h) fun h=>⟨_,h,aL _⟩⟩
 ·by_cases l:len+m<=cap
  ·have B:q+len*n+news.length<=cur.size:=by
    have:(len+m)*n<=cap*n:=Nat.mul_le_mul_right _ l
    rw[Nat.add_mul] at this;omega
   have d:=run_append_room_cells (P:=P) w t ty E i N hi g q len cap a m c news (by grind) f r l (fun j Y=>by
    simp[World.cell?,J,Option.isSome_none,Bool.false_eq_true,ite_false];grind) (fun j _=>by simp[World.frozen?,J])
   rw[p] at d;have ⟨U,Z,X,o4,o5⟩:=pZ g news (q+len*n) w;refine ⟨_,_,d,⟨F,.inr ⟨g,q,cap,_,rfl,sy news _ w cur B J,l,W,?_,?_⟩⟩,⟨U,Z,X,by omega,fun k _ K=>o5 k fun e=>K (by rw[e];rfl)⟩,.inl rfl⟩
   ·grind
   grind
  ·have ⟨s,w',d,H,x⟩:=run_append_arg_grows (P:=P) w t ty E i z n b N hi T p C D Q ⟨g,q,none⟩ len cap cells L (fun j u Y=>by
    grind[Addr.add_mid,World.cell?]) a m c news S f (by omega) y O
   refine ⟨s,w',d,.of_owns H,⟨x.os,x.tape,x.output,x.size,fun k K _=>x.block k K (by simp)⟩,.inr ?_⟩;rcases H.2 with ⟨_,h0⟩ | ⟨G,cp,cu,rfl,M,-⟩
   ·omega
   ·exact ⟨G,rfl,M⟩
theorem St.append_cells {t ty:TypeId} {z:Value} {n b:Nat} (ht:P.underlying t=some (.slice E)) (hE:TZ P E z n b) (hzs:z.cells.size=n) (hn:0<n) (hR:R.size=n)
  {v:Value} {xs ys:List α} {news:List Value} {K2:List Nat} {a:Addr} {cap:Nat} {C:List Ch} (hs:St I w0 w (Ch.own (aw E R) [v] xs::C))
  (N: ∃G W,(∃F,(aw E R).own I w [v] xs G/\Sep I C w F/\W=K2++F/\(G++W).Nodup/\ ∀b,b∈G++W->I b=none)) (k:OwnEls R I w news ys K2)
  (r: ∀j u,news[j]? =some u->w.cell? (a.add j)=some u) (D: ∀u∈news,u.oneCell'=true) (hl:news.length=ys.length*n) (c:(xs.length+ys.length)*b<=140737488355328) (hb1:1<=b) :
  ∃V w',(Builtin.append_ #[t,t] ty #[v,.slice (some a) ys.length cap]).run P w= .ok V w'/\St I w0 w' (Ch.own (aw E R) [V] (xs++ys)::C):=by
 have ⟨i,hi,hz,p,hby⟩:=info_parts hE;obtain ⟨G,W,F,⟨hlx,T⟩,hC,rfl,hnd,hI⟩:=N;have hlen:=Nat.le_trans (Nat.le_mul_of_pos_right _ hb1) c;have old: ∃h cells,OffRow w E n v xs.length cells/\OwnEls R I w cells xs h/\cells.length=xs.length*n /\
   ((G=h/\v.ownBlock=none)\/ ∃g,G=g::h/\v.ownBlock=some g/\g<w.heap.size):=by
  rcases T with ⟨hv,rfl,rfl⟩ | ⟨g,l,cp,cur,h,hv,hg,h3,h4,h5,rfl,h6⟩
  ·obtain rfl:v= .slice none 0 0:=by grind
   exact ⟨[],[],.of_owns (World.ownsRow_nil w 0 E n),rfl,by simp,.inl ⟨rfl,rfl⟩⟩
  ·obtain rfl:v= .slice (some ⟨g,l,none⟩) xs.length cp:=by grind
   have s:=(Array.getElem?_eq_some_iff.1 hg).1;rw[hR] at h5;have L:xs.length*n<=cur.size - l:=by have:=Nat.mul_le_mul_right n h3;omega
   have O:((cur.toList.drop l).take (xs.length*n)).length=xs.length*n:=by rw[aB,bP,Array.length_toList];exact Nat.min_eq_left L
   exact ⟨h,(cur.toList.drop l).take (xs.length*n),⟨O,.inr ⟨g,l,cp,cur,rfl,hg,h3,h4,h5,rfl⟩⟩,h6.rest (by grind),O,.inr ⟨g,rfl,rfl,s⟩⟩
 have ⟨h,cells,B,q,Y,X⟩:=old;have ⟨V,w',H,x,d,hat⟩:=Ct (P:=P) (w:=w) (ty:=ty) ht hi hz p hby hzs hn B a ys.length cap news hl r D
  (by unfold maxLen;omega) c
 refine ⟨V,w',H,?_⟩;obtain ⟨⟨b1,b2,b3,b4⟩,J,-⟩:=hs;have s:=fun b o c=>(Array.getElem?_eq_some_iff.1 (J b o c)).1;have hK1:=q.live;have hK2:=k.live;have hF:=hC.live;have m: ∀b,b∈h\/b∈K2\/b∈F->some b≠v.ownBlock:=by
  rcases X with ⟨rfl,hv⟩ | ⟨g,rfl,hv,_⟩
  ·grind
  ·grind
 have K: ∀b o,I b=some o->some b≠v.ownBlock:=by
  intro b o c e;rcases X with ⟨rfl,hv⟩ | ⟨g,rfl,hv,_⟩
  ·grind
  ·grind
 have f:=fun b h1 h2=>d.block b h1 h2;have hnd':(h++(K2++F)).Nodup:=by
  rcases X with ⟨rfl,_⟩ | ⟨g,rfl,_,_⟩
  ·omega
  ·grind
 have Z: ∀b,b∈h++(K2++F)->I b=none:=by
  intro b c;rcases X with ⟨rfl,_⟩ | ⟨g,rfl,_,_⟩
  ·grind
  ·grind
 have Q:=q.stay fun b c=>f b (hK1 b c) (m b (.inl c));have A:=k.stay fun b c=>f b (hK2 b c) (m b (.inr (.inl c)));have hj:=Q.join (by grind) A;have M:=hC.stay fun b c=>f b (hF b c) (m b (.inr (.inr c)));have ⟨hr1,hr2⟩:=x;refine ⟨⟨d.os.trans b1,d.tape.trans b2,d.output.trans b3,Nat.le_trans b4 d.size⟩,fun b o c=>?_,?_⟩
 ·show w'.heap[b]? =some o;rw[f b (s b o c) (K b o c)];exact J b o c
 rcases hr2 with ⟨rfl,h0⟩ | ⟨U,y,cp',S,rfl,hg2,hg3,hg4,hg5,hg6⟩
 ·have hx0:xs= []:=List.eq_nil_of_length_eq_zero (by omega);have hy0:ys= []:=List.eq_nil_of_length_eq_zero (by omega);subst hx0;subst hy0;have e1:=q;have e2:=k;subst e1;exact ⟨F,⟨[],F,rfl,⟨by simp,.inl ⟨rfl,rfl,rfl⟩⟩,M⟩,by grind,fun b c=>Z b (by grind)⟩
 ·have hnew: ∀b,b∈h++(K2++F)->b≠U:=by
   intro b c e;subst e;have hb':b∈h\/b∈K2\/b∈F:=by simpa using c
   rcases hat with e | ⟨g1,e,hge⟩
   ·exact m b hb' (by rw[<-e];rfl)
   ·grind[Value.ownBlock]
  refine ⟨(U::(h++K2))++F,⟨U::(h++K2),F,rfl,⟨by grind[az,lim],.inr ⟨U,y,cp',S,h++K2,by grind,hg2,by grind,hg4,by grind,rfl,hj.rest ?_⟩⟩,M⟩,?_,fun b c=>?_⟩
  ·grind
  ·grind
  ·rw[List.cons_append,aC] at c;rcases aA c with rfl | c
   ·cases hIb:I b with
    | none=>rfl
    | some o =>
     grind[absurd,Value.ownBlock]
   grind
def Cpy (S R:Rep α):Prop:= ∀ {I w c a},S.rd I c a->R.own I w c a []
theorem v8 {enc:α->Value} {h1: ∀a,(enc a).oneCell'=true} :Cpy (mu α enc h1) (mu α enc h1):=fun h=>⟨rfl,h⟩
theorem Ju:Cpy MS MS:=v8
theorem MZ:Cpy QI QI:=v8
theorem QV {R:Rep α} :Cpy (zz R) (zz R):=fun h=>⟨rfl,h⟩
theorem QW {α β:Type} {A b:Rep α} {B f:Rep β} (h:Cpy A b) (k:Cpy B f):Cpy (si A B) (si b f):=by
 rintro I w c a ⟨d,e,rfl,g,i⟩;exact ⟨d,e,[],[],rfl,rfl,h g,k i⟩
theorem St.free {R:Rep α} {c:List Value} {x:α} (h:St I w0 w cs) (g:R.own I w c x []):St I w0 w (Ch.own R c x::cs):=by
 have ⟨b,a,F,e,d,f⟩:=h;exact ⟨b,a,F,⟨[],F,rfl,g,e⟩,d,f⟩
theorem St.frees {R:Rep α} : ∀ {ls:List (List Value)} {xs:List α},St I w0 w cs->(∀p,p∈ls.zip xs->R.own I w p.1 p.2 [])->St I w0 w (FH R ls xs++cs)
 | [],_,h,_=>h
 | _::_,[],h,_=>h
 | c::ls,x::xs,h,hx=>(St.frees h fun p hp=>hx p (by simp[hp])).free (hx (c,x) (by simp))
theorem HS {S:Rep α} {T:TypeId} {z:Value} {n b m:Nat} {parts:Array (Nat×Operand)} (us:List (Value×List Value)) (xs:List α) (f:Cpy S R) (e: ∀p,p∈(us.map (·.2)).zip xs->S.rd I p.1 p.2) (g:P.underlying T=some (.slice E)) (i:TZ P E z n b) (c:0<n) (h:R.size=n) (q:0<m) (a:m*n<=16777216) (j:o.op= .buildSlice T m parts) (hp:parts.toList.map (fun p=>(p.1,ev p.2))=(us.zipIdx 0).map fun p=>(p.2,p.1.1)) (l:us.length=m) (r:xs.length=m)
  (k: ∀u∈us,u.1.cells=u.2.toArray/\u.2.length=n):OpT P I w0 o ev [] (fun _=>True) (fun v=>[Ch.own (aw E R) [v] xs]):=by
 intro w C d;exact MY (R:=R) us xs g i c h q a j hp l r k w C (St.frees d fun p hp=>f (e p hp))
theorem eh {T:TypeId} {x y:Operand} {s u v:Value} (d:o.op= .call { callee:=.builtin .append,args:= #[x,y],argTypes:= #[T,T] }) (c:ev x=s) (a:ev y=u) (b:(Builtin.append_ #[T,T] o.type #[s,u]).run P w= .ok v w'):(execOp ev o).run P w= .ok (.value v) w':=by
 simp[execOp,d,resolve,invoke,builtin,Sem.run_bind,Sem.run_pure,Result.andThen_ok,List.map_toArray,List.map_cons,List.map_nil,c,a,b]
theorem Lg {T:TypeId} {z:Value} {n b:Nat} {x y:Operand} {s u:Value} {xs ys:List α} (Z:P.underlying T=some (.slice E)) (V:TZ P E z n b) (D:z.cells.size=n) (hn:0<n) (S:R.size=n) (J:1<=b) (W:o.op= .call { callee:=.builtin .append,args:= #[x,y],argTypes:= #[T,T] }) (X:ev x=s) (U:ev y=u) (M:(xs.length+ys.length)*b<=140737488355328) :
  OpT P I w0 o ev [Ch.own (aw E R) [s] xs,Ch.own (aw E R) [u] ys] (fun _=>True) (fun v=>[Ch.own (aw E R) [v] (xs++ys)]):=by
 intro w C Q;have t:=Q;obtain ⟨hb0,hi,F,⟨G,K,rfl,O,K1,K2,rfl,⟨hly,e2⟩,e3⟩,L,hI⟩:=Q;have A:St I w0 w (Ch.own (aw E R) [s] xs::C):=(t.perm (List.Perm.swap _ _ _)).tail;rcases e2 with ⟨hv,rfl,rfl⟩ | ⟨g,d,cap,cur,r,hv,k1,k2,k3,k4,rfl,k5⟩
 ·obtain rfl:u= .slice none 0 0:=by grind
  have ⟨i,hi',hz,B,hby⟩:=info_parts V;have e:(Builtin.append_ #[T,T] o.type #[s,.slice none 0 0]).run P w= .ok s w:=by
   rcases O.2 with ⟨H,_⟩ | ⟨g,d,cap,cur,K,H,_,h3,_⟩
   ·simp_all[fo,aL]
   ·grind[fo]
  rw[eh W X U e];refine ⟨trivial,?_⟩;grind
 ·obtain rfl:u= .slice (some ⟨g,d,none⟩) ys.length cap:=by grind
  have hln:cap*n<=(cur.toList.drop d).length:=by rw[bP,Array.length_toList];rw[S] at k4;omega
  have N:ys.length*n<=cap*n:=Nat.mul_le_mul_right _ k2;have q:((cur.toList.drop d).take (ys.length*n)).length=ys.length*n:=by rw[aB];omega
  have p:OwnEls R I w ((cur.toList.drop d).take (ys.length*n)) ys r:=k5.rest (by grind);have f: ∀v∈(cur.toList.drop d).take (ys.length*n),v.oneCell'=true:=by
   have: ∀ {ys:List α} {l:List Value} {F},OwnEls R I w l ys F-> ∀v∈l.take (ys.length*R.size),v.oneCell'=true:=by
    intro ys;induction ys with
    | nil=>simp_all
    | cons y ys ih =>
     rintro l F ⟨c,rest,G,K,rfl,h2,h3,Y,h5⟩ v hv;rw[aH,Nat.add_mul,Nat.one_mul,Nat.add_comm,List.take_append,List.take_of_length_le (by omega),h2,Nat.add_sub_cancel_left] at hv;rcases aG hv with h | h
     ·exact R.own_one Y v h
     grind
   grind
  have m:(G++(r++K2)).Nodup:=by
   exact L.sublist (List.Sublist.append_left (List.sublist_cons_self _ _) _)
  have ⟨v',w',e,k⟩:=St.append_cells (ty:=o.type) Z V D hn S (a:=⟨g,d,none⟩) (cap:=cap) (K2:=r) (ys:=ys) (news:=(cur.toList.drop d).take (ys.length*n)) A
   ⟨G,r++K2,K2,O,e3,rfl,m,fun b M=>hI b (by grind)⟩
   p (fun j u hj=>by
    grind[Addr.add_mid,World.cell?]) f q M J
  rw[eh W X U e];exact ⟨trivial,k⟩
theorem Cu {S:Rep α} {E' T:TypeId} {z:Value} {n b:Nat} {x y:Operand} {s u:Value} {xs ys:List α} (hc:Cpy S R) (D:S.size=n) (X:(aw E' S).rd I [u] ys) (hT:P.underlying T=some (.slice E)) (U:TZ P E z n b) (m:z.cells.size=n) (hn:0<n) (M:R.size=n) (q:1<=b) (V:o.op= .call { callee:=.builtin .append,args:= #[x,y],argTypes:= #[T,T] }) (W:ev x=s) (N:ev y=u) (hb:(xs.length+ys.length)*b<=140737488355328) :
  OpT P I w0 o ev [Ch.own (aw E R) [s] xs] (fun _=>True) (fun v=>[Ch.own (aw E R) [v] (xs++ys)]):=by
 intro w C L;have f:=L;obtain ⟨hb0,hi,F,⟨G,K,rfl,J,e3⟩,B,hI⟩:=L;have ⟨O,cap,hv,hl,h⟩:=X;obtain rfl:u= .slice O ys.length cap:=by grind
 rcases h with rfl | ⟨g,off,H,t,fr,rfl,Y,r⟩
 ·have ⟨i,hi',hz,k,hby⟩:=info_parts U;have d:(Builtin.append_ #[T,T] o.type #[s,.slice O 0 cap]).run P w= .ok s w:=by
   rcases J.2 with ⟨p,_⟩ | ⟨g,ofs,cap,cur,K,p,_,Q,_⟩
   ·simp_all[fo,aL]
   ·grind[fo]
  rw[eh V W N d];refine ⟨trivial,?_⟩;grind
 ·have ⟨news,n1,n2,n3,n4⟩:=X9 (R:=S) (I:=I) (w:=w) r;have A:OwnEls R I w news ys []:=by
   have: ∀ {ys:List α} {l:List Value},OwnEls (zz S) I w l ys [] ->OwnEls R I w l ys []:=by
    intro ys;induction ys with
    | nil=>intro l h;exact h
    | cons y ys ih =>
     rintro l ⟨c,rest,G,K,h1,h2,Q,⟨rfl,Z⟩,h5⟩
     have:K= []:=by simpa using Q.symm
     subst this;exact ⟨c,rest,[],[],h1,by rw[M,<-D];exact h2,rfl,hc Z,ih h5⟩
   exact this n4
  have hw:w.heap[g]? =some (.cells H t fr):=hi g _ Y;have ⟨v',w',d,e⟩:=St.append_cells (ty:=o.type) hT U m hn M (a:=⟨g,off,none⟩) (cap:=cap) (K2:=[]) (ys:=ys) (news:=news) f
   ⟨G,K,K,J,e3,rfl,B,hI⟩ A (fun j u hj=>by
    grind[Addr.add_mid,World.cell?]) n3 (by grind) hb q
  rw[eh V W N d];exact ⟨trivial,e⟩
theorem An {T:TypeId} {z:Value} {n b:Nat} {x y:Operand} {s u:Value} {xs ys:List α} (M:R.Sh) (hc:Cpy R R) (hT:P.underlying T=some (.slice E)) (X:TZ P E z n b) (A:z.cells.size=n) (hn:0<n) (V:R.size=n) (H:1<=b) (Y:o.op= .call { callee:=.builtin .append,args:= #[x,y],argTypes:= #[T,T] }) (Z:ev x=s) (W:ev y=u) (hb:(xs.length+ys.length)*b<=140737488355328) :
  OpT P I w0 o ev [Ch.own (aw E R) [s] xs,Ch.own (aw E R) [u] ys] (fun _=>True) (fun v=>[Ch.own (aw E R) [v] (xs++ys),Ch.own (aw E R) [u] ys]):=by
 intro w C U;have q:=U;obtain ⟨hb0,hi,F,⟨G,K,rfl,S,K1,K2,rfl,r,e3⟩,L,hI⟩:=U;have ⟨J,e2⟩:=r;rcases e2 with ⟨hv,rfl,rfl⟩ | ⟨g,d,cap,cur,K3,hv,k1,O,k3,N,rfl,D⟩
 ·obtain rfl:u= .slice none 0 0:=by grind
  have ⟨i,hi',hz,t,hby⟩:=info_parts X;have e:(Builtin.append_ #[T,T] o.type #[s,.slice none 0 0]).run P w= .ok s w:=by
   rcases S.2 with ⟨B,_⟩ | ⟨g,d,cap,cur,K,B,_,h3,_⟩
   ·simp_all[fo,aL]
   ·grind[fo]
  rw[eh Y Z W e];refine ⟨trivial,?_⟩;grind
 ·obtain rfl:u= .slice (some ⟨g,d,none⟩) ys.length cap:=by grind
  have:=D.sh M
  subst this;have hln:cap*n<=(cur.toList.drop d).length:=by rw[bP,Array.length_toList];rw[V] at N;omega
  have Q:ys.length*n<=cap*n:=Nat.mul_le_mul_right _ O;have p:((cur.toList.drop d).take (ys.length*n)).length=ys.length*n:=by rw[aB];omega
  have m:OwnEls R I w ((cur.toList.drop d).take (ys.length*n)) ys []:=D.rest (by grind);have f: ∀v∈(cur.toList.drop d).take (ys.length*n),v.oneCell'=true:=by
   have: ∀ {ys:List α} {l:List Value} {F},OwnEls R I w l ys F-> ∀v∈l.take (ys.length*R.size),v.oneCell'=true:=by
    intro ys;induction ys with
    | nil=>simp_all
    | cons y ys ih =>
     rintro l F ⟨c,rest,G,K,rfl,h2,h3,h4,h5⟩ v hv;rw[aH,Nat.add_mul,Nat.one_mul,Nat.add_comm,List.take_append,List.take_of_length_le (by omega),h2,Nat.add_sub_cancel_left] at hv;rcases aG hv with h | h
     ·exact R.own_one h4 v h
     grind
   grind
  have ⟨v',w',e,k⟩:=St.append_cells (ty:=o.type) hT X A hn V (a:=⟨g,d,none⟩) (cap:=cap) (K2:=[]) (ys:=ys) (news:=(cur.toList.drop d).take (ys.length*n)) q
   ⟨G,[g] ++K2,[g] ++K2,S,⟨[g],K2,rfl,⟨J,.inr ⟨g,d,cap,cur,[],hv,k1,O,k3,N,rfl,D⟩⟩,e3⟩,rfl,L,hI⟩
   m (fun j u hj=>by
    grind[Addr.add_mid,World.cell?]) f p hb H
  rw[eh Y Z W e];exact ⟨trivial,k⟩
end
inductive Out (R S:Type) where
 | nxt (s:S)
 | brk (s:S)
 | ret (r:R)
def aq {R S:Type} (f:S->Option (Out R S)):Nat->S->Option (Out R S)
 | 0,_=>none
 | k+1,s=>match f s with
  | none=>none
  | some (.nxt s')=>aq f k s'
  | some (.brk s')=>some (.brk s')
  | some (.ret r)=>some (.ret r)
def aT:Nat:=1180591620717411303424
def bM {α:Type} (b:Nat) (xs ys:List α):Option (List α):=if (xs.length+ys.length)*b<=140737488355328 then some (xs++ys) else none
def chk (p:Prop) [Decidable p] :Option Unit:=if p then some () else none
theorem bind_some {α β:Type} {x:Option α} {f:α->Option β} {r:β} (h:(x.bind f)=some r): ∃a,x=some a/\f a=some r:=Option.bind_eq_some_iff.1 h
theorem wc {α:Type} {b:Nat} {xs ys zs:List α} (h:bM b xs ys=some zs):zs=xs++ys/\(xs.length+ys.length)*b<=140737488355328:=by
 unfold bM at h;split at h
 ·exact ⟨(ae h).symm,‹_›⟩
 ·cases h
theorem bE {p:Prop} [Decidable p] {u:Unit} (h:chk p=some u):p:=by
 unfold chk at h;split at h
 ·assumption
 ·cases h
section
variable {P:Program} {I J:Hp} {w0 w w':World} {cs C:List Ch} {n:Nat} {a:Act} {L:List (Nat×Value)} {Q:Exit->Act->World->Prop}
def Con (P:Program) (k:FuncId) (args:Array Value) (I:Hp) (w0:World) (rn:List Ch) (fact:Value->Prop) (gv:Value->List Ch):Prop:=
 ∀w C,St I w0 w (rn++C)->Calls P k args w fun e w'=> ∃v,e= .returned v/\fact v/\St I w0 w' (gv v++C)
theorem pF {o:Oper} {ev:Operand->Value} {k:FuncId} {f:Operand} {xs:Array Operand} {h:Array TypeId} {first captured args:Array Value} {rn:List Ch} {fact:Value->Prop} {gv:Value->List Ch} (e:Enters P k) (j:o.op= .call { callee:=.value f,args:=xs,argTypes:=h }) (i:ev f= .func (.func k) first captured) (l:first.toList++xs.toList.map ev++captured.toList=args.toList) (g:Con P k args I w0 rn fact gv):OpT P I w0 o ev rn fact gv:=by
 intro w C b;have d:(first++xs.map ev)++captured=args:=by
  apply Array.ext';rw[<-l];simp
 have c:(execOp ev o).run P w= .ok (.enter k args) w:=by
  simp only[execOp,j,resolve,i,Deferred.ofValue,Sem.run_bind,Sem.run_pure,Result.andThen_ok,invoke,d];exact e args w
 rw[c];exact g w C b
def Rep.Dp {α:Type} (R:Rep α):Prop:= ∀ {I J:Hp} {w:World} {v:List Value} {x:α} {F:List Nat},R.own J w v x F->R.own I w v x F
theorem Ao {α:Type} {enc:α->Value} {h1: ∀a,(enc a).oneCell'=true} :(mu α enc h1).Dp:=fun h=>h
theorem Vm:MS.Dp:=Ao
theorem Ya:QI.Dp:=Ao
theorem Vn {α β:Type} {R:Rep α} {S:Rep β} (h:R.Dp) (k:S.Dp):(si R S).Dp:=by
 rintro I J w v x F ⟨c,d,G,K,e,f,g,b⟩;exact ⟨c,d,G,K,e,f,h g,k b⟩
theorem D4 {α:Type} {E:TypeId} {R:Rep α} (h:R.Dp):(aw E R).Dp:=by
 intro I J w v x F l;have key: ∀ {b:List α} {cur F},OwnEls R J w cur b F->OwnEls R I w cur b F:=by
  intro b;induction b with
  | nil=>intro cur F h;exact h
  | cons x b ih =>
   rintro cur F ⟨c,rest,G,K,e,k,f,d,i⟩;exact ⟨c,rest,G,K,e,k,f,h d,ih i⟩
 refine ⟨l.1,l.2.imp (fun h=>h) ?_⟩;rintro ⟨g,j,cap,cur,K,e,k,f,d,i,m,o⟩;exact ⟨g,j,cap,cur,K,e,k,f,d,i,m,key o⟩
theorem Ap {α:Type} {R:Rep α} (h:R.Dp) {v:List Value} {x:α} :(Ch.own R v x).deep:=fun b=>h b
theorem TQ {g:Nat} {l:List Value} {E:TypeId} :(Ch.blk g l E).deep:=fun b=>b
def HT (P:Program) (a:Act) (w:World):ResultVar->Value->Prop
 | .tmp t,v=>a.tmps.getD t undef=v
 | .cell p T,v=> ∃A,a.tmps.getD p undef= .pointer (some A)/\(loadVar T A).run P w= .ok v w
theorem Vo (b:Agr n a L) {t:Nat} {v:Value} (h:L.lookup t=some v):HT P a w (.tmp t) v:=b.2.2 t v h
theorem QX (c:Agr n a L) {t g:Nat} {T E:TypeId} {l:List Value} {m:Nat} {cs:List Ch} (h:L.lookup t=some (.pointer (some ⟨g,0,none⟩))) (hs:St I w0 w cs) (i:Nat) (hi:cs[i]? =some (Ch.blk g l E)) (k:TI P T true m) (p:l.length=m):HT P a w (.cell t T) (.agg l.toArray):=by
 refine ⟨_,c.2.2 t _ h,?_⟩;obtain ⟨⟨d,e,o⟩,f⟩:=k;refine run_loadVar_mid w g 0 T l d (fun j v hv=>?_) e (by cases d <;> first | rfl | cases o) (by rw[f,p]);have b:=hs.heap i hi;rw[Nat.zero_add];simp[World.cell?,b,hv]
theorem QY {c:Operand} {x y:Code} {b:Bool} (e:Agr n a L) (f:MT L c=true) (hv:evL L c= .bool b) (d:b=true) (h:x.wp P Q a w):(Code.cond c x y).wp P Q a w:=
 wp_cond_true (by rw[e.eval f,hv,d]) h
theorem M0 {c:Operand} {x y:Code} {b:Bool} (e:Agr n a L) (f:MT L c=true) (hv:evL L c= .bool b) (d:b=false) (h:y.wp P Q a w):(Code.cond c x y).wp P Q a w:=
 wp_cond_false (by rw[e.eval f,hv,d]) h
theorem Yb {id:Nat} (h:Q .normal a w):Exit.inBlock id Q (.exit id) a w:=by
 show if id=id then Q .normal a w else Q (.exit id) a w;rw[if_pos rfl];exact h
theorem Yc {id b:Nat} (c:b≠id) (h:Q (.exit b) a w):Exit.inBlock id Q (.exit b) a w:=by
 show if b=id then Q .normal a w else Q (.exit b) a w;rw[if_neg c];exact h
theorem QZ {R S:Type} {c:Code} {f:S->Option (Out R S)} {k:Nat} {s:S} {o:Out R S} (Inv:S->Act->World->Prop) (h:aq f k s=some o) (D:Inv s a w)
  (round: ∀s o',f s=some o'->((∀m,o'≠ .nxt m)->o'=o)-> ∀a w,Inv s a w->c.wp P (Exit.then (fun a w=> ∃m,o'= .nxt m/\Inv m a w) Q) a w):(Code.loop c).wp P Q a w:=by
 intro b it cs;have key: ∀k s a w,aq f k s=some o->Inv s a w-> ∃e z w',Q e z w'/\Arrives P (lone (b.at a (.code c:: .inLoop c::it)) cs w) b it cs e z w':=by
  intro k;induction k with
  | zero=>intro s a w h;cases h
  | succ k ih =>
   intro s a w h E;rw[aq] at h;cases A:f s with
   | none=>rw[A] at h;cases h
   | some o' =>
    rw[A] at h;obtain ⟨e,g,i,p,d⟩:=round s o' A (fun B=>by
     cases o' with
     | nxt m=>exact absurd rfl (B m)
     | brk m=>exact ae h
     | ret r=>exact ae h) a w E b (.inLoop c::it) cs
    cases e with
    | normal =>
     obtain ⟨m,rfl,q⟩:=p;obtain ⟨y,v,u,t,j⟩:=ih m g i h q;exact ⟨y,v,u,t,.of_steps (Steps.trans d (.one step_inLoop)) j⟩
    | exit id=>exact ⟨_,g,i,p,.pass (x:=.inLoop c) rfl (fun _ _=>.inl (by simp)) d⟩
    | goto l=>exact ⟨_,g,i,p,.pass (x:=.inLoop c) rfl (fun _ _=>.inl (by simp)) d⟩
    | ret=>exact ⟨_,g,i,p,.pass (x:=.inLoop c) rfl (fun _ _=>.inl (by simp)) d⟩
    | panic ch=>exact ⟨_,g,i,p,.pass (x:=.inLoop c) rfl (fun _ _=>.inl (by simp)) d⟩
    | outgrown=>exact ⟨_,g,i,p,.pass (x:=.inLoop c) rfl (fun _ _=>.inl (by simp)) d⟩
 obtain ⟨e,z,w',p,d⟩:=key k s a w h D;exact ⟨e,z,w',p,.of_steps (.one step_loop) d⟩
theorem Q0 {ops:Array Oper} {o:Oper} {rest:List Oper} {g d:Nat} {want b:Bool} (c:Agr n a L) (hs:St I w0 w C) (l:o.guard=some (g,want)) (j:((ops[g]?).bind (·.dst))=some d) (hv:L.lookup d=some (.bool b)) (f:b= !want) (i:dstOk n o.dst=true)
  (k: ∀a,Agr n a (QJ o.dst undef L)->wpList P ops Q rest a w):wpList P ops Q (o::rest) a w:=by
 refine wpList_skip ?_ (k _ (c.put undef i));have h:=c.2.2 d _ hv;unfold Region.wanted yielded;rw[l];simp only;rw[j];simp only[aa];rw[Array.getD_eq_getD_getElem?] at h;cases e:a.tmps[d]? with
 | none=>rw[e] at h;cases h
 | some u =>
  rw[e] at h;simp only[Option.getD_some] at h;rw[h];simp only[f];cases want <;> rfl
theorem Q1 {ops:Array Oper} {o:Oper} {rest:List Oper} {g d:Nat} {want b:Bool} {m rn:List Ch} {fact:Value->Prop} {gv:Value->List Ch} (c:Agr n a L) (hs:St I w0 w m) (r:o.guard=some (g,want)) (t:((ops[g]?).bind (·.dst))=some d) (hv:L.lookup d=some (.bool b)) (q:b=want) (e:OpT P I w0 o (evL L) rn fact gv) (hp:m.Perm (rn++C)) (l:(DY L o&&dstOk n o.dst&&noSelect o)=true)
  (k: ∀v a w,fact v->Agr n a (QJ o.dst v L)->St I w0 w (gv v++C)->wpList P ops Q rest a w):wpList P ops Q (o::rest) a w:=by
 simp only[aj] at l;obtain ⟨⟨f,j⟩,i⟩:=l;have z:Region.wanted o (yielded ops a.tmps)=true:=by
  have h:=c.2.2 d _ hv;unfold Region.wanted yielded;rw[r];simp only;rw[t];simp only[aa];rw[Array.getD_eq_getD_getElem?] at h;cases p:a.tmps[d]? with
  | none=>rw[p] at h;cases h
  | some u =>
   rw[p] at h;simp only[Option.getD_some] at h;rw[h];simp[q]
 refine BigFrame.wpList_want z fun K y=>?_;have s:execOp a.eval o=execOp (evL L) o:=rb i fun x A=>c.eval ((List.all_eq_true.1 f) x (by simpa using A));have h:=e w C (hs.perm hp);rw[<-s] at h;exact h.wp fun v w' hv=>y _ _ (k v _ w' hv.1 (c.put v j) hv.2)
end
section
variable {P:Program} {I J:Hp} {w0 w w':World} {cs C:List Ch} {n:Nat} {a:Act} {L L':List (Nat×Value)} {Q:Exit->Act->World->Prop} {o:Oper} {ev:Operand->Value}
theorem nrm {K:Act->World->Prop} (h:K a w):Exit.then K Q .normal a w:=h
theorem ab4 {id:Nat} (h:Q .normal a w):Exit.inBlock id Q .normal a w:=h
theorem Vp {K:Act->World->Prop} {id:Nat} (h:Q (.exit id) a w):Exit.then K Q (.exit id) a w:=h
theorem Vq {K:Act->World->Prop} (h:Q .ret a w):Exit.then K Q .ret a w:=h
theorem abz {id:Nat} (h:Q .ret a w):Exit.inBlock id Q .ret a w:=h
theorem two (b:Bool):b=false\/b=true:=by cases b <;> simp
theorem Hd.one {v:Value} {n:Nat} (h:Hd v n):v.oneCell'=true:=by obtain ⟨_,_,rfl,_⟩:=h;rfl
def HU (place:Nat->Option (Nat×Nat)) (cells:List Value):List (Nat×List Value)->Option (List Value)
 | [] =>some cells
 | (i,l)::rest=>match place i with
  | none=>none
  | some (off,size)=>if l.length=size/\off+size<=cells.length then HU place (cells.take off++l++cells.drop (off+size)) rest else none
theorem TS {place:Nat->Option (Nat×Nat)} : ∀ {parts:List (Nat×Value)} {ls:List (Nat×List Value)} {cells r:List Value},parts.map (fun p=>(p.1,p.2.cells))=ls.map (fun p=>(p.1,p.2.toArray))->HU place cells ls=some r->Instr.fill place cells.toArray parts=some r.toArray
 | [],[],cells,r,_,h=>by grind[HU,Instr.fill,ae]
 | [],_::_,cells,r,b,h=>by grind
 | _::_,[],cells,r,b,h=>by grind
 | (i,u)::parts,(j,l)::ls,cells,r,b,h=>by
  simp[List.map_cons,List.cons.injEq,Prod.mk.injEq] at b;obtain ⟨⟨rfl,g⟩,b⟩:=b;rw[HU] at h;rw[Instr.fill];cases hp:place i with
  | none=>grind
  | some q =>
   have ⟨off,size⟩:=q;rw[hp] at h;simp only at h⊢;split at h
   ·rename_i f;rw[g];rw[if_neg (by grind)];have d:=MX l off cells.toArray (by grind);have e:(l.toArray.zipIdx.foldl (fun cs (c,j)=>cs.setIfInBounds (off+j) c) cells.toArray)=(cells.take off++l++cells.drop (off+size)).toArray:=by
     rw[<-f.1];apply Array.ext';rw[d]
    rw[e];exact TS b h
   grind
def TB (P:Program) (T:TypeId) (pl:List (Nat×Nat)):Prop:= ∃fs,P.underlying T=some (.struct fs)/\fs.toList.mapM (fun f=>(P.info? f.type).map fun i=>(f.offset,i.size))=some pl
def peq:List (Nat×Value)->List (Nat×List Value)->Prop
 | [],[] =>True
 | (i,u)::p,(j,l)::q=>i=j/\u.cells=l.toArray/\peq p q
 | _,_=>False
theorem M2: ∀ {p:List (Nat×Value)} {q:List (Nat×List Value)},peq p q->p.map (fun p=>(p.1,p.2.cells))=q.map (fun p=>(p.1,p.2.toArray))
 | [],[],_=>rfl
 | (i,u)::p,(j,l)::q,h=>by
  obtain ⟨rfl,b,c⟩:=h;rw[List.map_cons,List.map_cons,M2 c,b]
 | [],_::_,h=>h.elim
 | _::_,[],h=>h.elim
theorem M3 {T:TypeId} {z:Value} {m b:Nat} {parts:Array (Nat×Operand)} {c r:List Value} (ls:List (Nat×List Value)) {d:List (Nat×Nat)} (g:TB P T d) (j:TZ P T z m b) (f:z.cells=c.toArray) (u:o.op= .build T parts)
  (e:peq (parts.toList.map fun p=>(p.1,ev p.2)) ls) (k:HU (d[·]?) c ls=some r):OpT P I w0 o ev [] (· = .agg r.toArray) (fun _=>[]):=by
 refine bp fun w=>?_;have ⟨fs,l,s⟩:=g;obtain ⟨i,q,h,-,-⟩:=info_parts j;have t:=TS (place:=fun i=>d.toArray[i]?) (cells:=c) (r:=r) (parts:=(parts.map fun (i,x)=>(i,ev x)).toList) (by rw[Array.toList_map];exact M2 e) (by grind);simp_all[Program.built,execOp,Sem.run_bind,run_build]
def aN {R S T:Type} (x:Option (Out R S)) (kr:R->Option T) (k:S->Option T):Option T:=
 match x with
 | some (.brk s)=>k s
 | some (.ret r)=>kr r
 | _=>none
theorem Lh {R S T:Type} {x:Option (Out R S)} {b:R->Option T} {k:S->Option T} {t:T} (h:aN x b k=some t): ∃o,x=some o/\((∃s,o= .brk s/\k s=some t)\/ ∃r,o= .ret r/\b r=some t):=by
 unfold aN at h;grind
def Cv {S T:Type} (x:Option (T ⊕ S)) (k:S->Option T):Option T:=
 match x with
 | some (.inr s)=>k s
 | some (.inl t)=>some t
 | none=>none
theorem C5 {S T:Type} {x:Option (T ⊕ S)} {k:S->Option T} {t:T} (h:Cv x k=some t): ∃o,x=some o/\((∃s,o= .inr s/\k s=some t)\/o= .inl t):=by
 unfold Cv at h;grind
def vg:Value->List Nat->Value
 | v,[] =>v
 | .tuple vs,i::l=>vg (vs.getD i undef) l
 | .agg cs,i::l=>vg (cs.getD i undef) l
 | .func _ _ cs,i::l=>vg (cs.getD i undef) l
 | _,_::_=>undef
theorem St.nil {α:Type} {R:Rep α} {E:TypeId} (h:St I w0 w cs):St I w0 w (Ch.own (aw E R) [.slice none 0 0] ([] :List α)::cs):=
 h.free ⟨by simp,.inl ⟨rfl,rfl,rfl⟩⟩
theorem TU {α:Type} {R:Rep α} {E:TypeId} :(aw E R).rd I [.slice none 0 0] ([] :List α):=⟨none,0,rfl,by simp,.inl rfl⟩
theorem OwnEls.stay' {α:Type} {R:Rep α} (b:R.Sh) (c:Cpy R R): ∀ {xs:List α} {cur:List Value},OwnEls R I w cur xs [] ->OwnEls R I w' cur xs []
 | [],_,h=>h
 | x::xs,cur,⟨d,rest,G,K,h1,h2,h3,h4,h5⟩=>by
  have e:K= []:=by simp at h3;exact h3.2
  subst e;exact ⟨d,rest,[],[],h1,h2,rfl,c (b h4).2,h5.stay' b c⟩
def Upd {α β:Type} (R:Rep α) (off:Nat) (S:Rep β) (u:α->β->α):Prop:= ∀I c x d y,R.rd I c x->S.rd I d y->R.rd I (spl c off d) (u x y)
theorem C6: ∀(d c:List Value) (off:Nat),off+d.length<=c.length->spl c off d=c.take off++d++c.drop (off+d.length)
 | [],c,off,h=>by simp[spl]
 | v::d,c,off,h=>by
  rw[aH] at h;rw[spl,C6 d _ _ (by grind)];have b:(c.set off v).take (off+1)=c.take off++ [v]:=by
   rw[List.take_add_one,List.take_set_of_le (aL _),List.getElem?_set_self (by omega)];rfl
  grind[List.drop_set_of_lt,aH]
theorem Upd.self {α:Type} {R:Rep α} :Upd R 0 R (fun _ y=>y):=by
 intro I c x d y h k;rw[C6 _ _ _ (by rw[R.rd_len h,R.rd_len k];omega),R.rd_len k,<-R.rd_len h];grind
theorem we: ∀(d c e:List Value) (off:Nat),off+d.length<=c.length->spl (c++e) off d=spl c off d++e
 | [],c,e,off,h=>rfl
 | v::d,c,e,off,h=>by
  rw[aH] at h;rw[spl,spl,List.set_append_left _ _ (by omega),we d _ e _ (by grind)]
theorem qq: ∀(d c e:List Value) (off:Nat),spl (c++e) (c.length+off) d=c++spl e off d
 | [],c,e,off=>rfl
 | v::d,c,e,off=>by
  rw[spl,spl,List.set_append_right _ _ (by omega),Nat.add_sub_cancel_left,show c.length+off+1=c.length+(off+1) from by omega,qq d]
theorem Jv {d c:List Value} {o off:Nat} (h:o<=c.length):(spl c (o+off) d).drop o=spl (c.drop o) off d:=by
 have:=qq d (c.take o) (c.drop o) off
 simp_all
theorem Upd.fst {α β γ:Type} {A:Rep α} {B:Rep β} {S:Rep γ} {off:Nat} {u:α->γ->α} (hs:off+S.size<=A.size) (h:Upd A off S u):Upd (si A B) off S (fun x y=>(u x.1 y,x.2)):=by
 rintro I c x d y ⟨g,e,rfl,b,f⟩ k;rw[we _ _ _ _ (by rw[A.rd_len b,S.rd_len k];exact hs)];exact ⟨_,e,rfl,h I g x.1 d y b k,f⟩
theorem Upd.snd {α β γ:Type} {A:Rep α} {B:Rep β} {S:Rep γ} {off:Nat} {u:β->γ->β} (h:Upd B off S u):Upd (si A B) (A.size+off) S (fun x y=>(x.1,u x.2 y)):=by
 rintro I c x d y ⟨g,e,rfl,b,f⟩ k;rw[<-A.rd_len b,qq];exact ⟨g,_,rfl,b,h I e x.2 d y f k⟩
theorem OwnEls.set {α:Type} {R:Rep α} (g:R.Sh) (f:Cpy R R) {c:List Value} {y:α} (h:R.rd I c y): ∀ {xs:List α} {cur b:List Value} {k:Nat},OwnEls R I w cur xs [] ->k<xs.length->b.length=cur.length->(∀j,j<R.size->b[k*R.size+j]? =c[j]?)->(∀j,j<k*R.size\/k*R.size+R.size<=j->b[j]? =cur[j]?)->OwnEls R I w' b (xs.set k y) []
 | [],_,_,k,_,hk,_,_,_=>by rfl
 | x::xs,cur,b,0,⟨d,rest,G,K,h1,h2,h3,h4,h5⟩,hk,hl,h6,h7=>by
  have l:K= []:=by simp at h3;exact h3.2
  subst l;subst h1;have i:=R.rd_len h;refine ⟨c,b.drop R.size,[],[],?_,i,rfl,f h,?_⟩
  ·apply List.ext_getElem?;grind
  ·have e:b.drop R.size=rest:=by
    apply List.ext_getElem?;intro j;rw[List.getElem?_drop,h7 _ (.inr (by omega)),List.getElem?_append_right (by omega)];congr 1;omega
   rw[e];exact h5.stay' g f
 | x::xs,cur,b,k+1,⟨d,rest,G,K,h1,h2,h3,h4,h5⟩,hk,hl,h6,h7=>by
  have l:K= []:=by simp at h3;exact h3.2
  subst l;subst h1;have p:(k+1)*R.size=k*R.size+R.size:=by grind
  refine ⟨d,b.drop R.size,[],[],?_,h2,rfl,f (g h4).2,?_⟩
  ·apply List.ext_getElem?;grind
  ·refine OwnEls.set g f h (cur:=rest) h5 (by simpa using hk) ?_ (fun j m=>?_) (fun j m=>?_)
   ·rw[bP,hl,az];omega
   ·rw[List.getElem?_drop,<-h6 j m];congr 1;omega
   ·rw[List.getElem?_drop,h7 _ (by omega),List.getElem?_append_right (by omega)];congr 1;omega
theorem M4 {c d:List Value} {off j:Nat} (h:off+d.length<=c.length):(spl c off d)[j]? =if off<=j/\j<off+d.length then d[j - off]? else c[j]? :=by
 grind[C6,aB]
theorem FI {α β:Type} {E T:TypeId} {R:Rep α} {S:Rep β} {agg:Bool} {n k off:Nat} {f:α->β->α} {x y:Operand} {v u:Value} {xs:List α} {a:α} {b:β} {i:Int} {d:List Value} (X:R.Sh) (hc:Cpy R R) (ha:aP xs i=some a) (hU:Upd R off S f) (hT:TI P T agg n) (ho:o.op= .store T x y) (hx:ev x=pt v (i.toNat*k+off)) (hy:ev y=u) (hu:u.cells=d.toArray) (h1:d.all (·.oneCell')=true) (hd:d.length=n) (U:R.size=k) (hS:off+n<=k) (q:S.rd I d b) :
  OpT P I w0 o ev [Ch.own (aw E R) [v] xs] (fun _=>True) (fun _=>[Ch.own (aw E R) [v] (xs.set i.toNat (f a b))]):=by
 intro w C hs;have Y:=ve ha;have O:=(List.getElem?_eq_some_iff.1 Y).1;obtain ⟨m,hi,F,⟨G,K,rfl,⟨hl,e2⟩,e3⟩,p,hI⟩:=hs;rcases e2 with ⟨hv,rfl,rfl⟩ | ⟨g,l,cap,cur,K1,hv,M,k2,Z,k4,rfl,t⟩
 ·grind
 obtain rfl:v= .slice (some ⟨g,l,none⟩) xs.length cap:=by grind
 have:=t.sh X
 subst this;have ⟨c,c1,c2,c3⟩:=t.at Hp.le.rfl (by simp) i.toNat a Y;have V:l+(i.toNat*k+k)<=cur.size:=by
  have s:=k4;rw[U] at s
  have:(i.toNat+1)*k<=cap*k:=Nat.mul_le_mul_right _ (by omega)
  rw[Nat.add_mul,Nat.one_mul] at this;omega
 have hln:cur.toList.length=cur.size:=Array.length_toList;have hld:(cur.toList.drop l).length=cur.size - l:=by grind
 have hr:=Jr (P:=P) (w:=w) hT (g:=g) (o:=l+(i.toNat*k+off)) hu hd (fun j B=>by
  simp[World.cell?,M,Option.isSome_none,Bool.false_eq_true,ite_false];grind) (fun j=>by simp[World.frozen?,M]) (fun v hv=>List.all_eq_true.1 h1 v hv)
 simp only[execOp,ho,hx,hy,pt,ptB,ptO,Sem.run_bind,hr,Result.andThen_ok];refine ⟨trivial,?_⟩;have D: ∀(d:List Value) (o:Nat) (w:World),(pY w g o d).os=w.os/\(pY w g o d).tape=w.tape/\(pY w g o d).output=w.output/\(pY w g o d).heap.size=w.heap.size/\ ∀b,b≠g->(pY w g o d).heap[b]? =w.heap[b]? :=by
  intro d;induction d with
  | nil=>intro o w;exact ⟨rfl,rfl,rfl,rfl,fun _ _=>rfl⟩
  | cons v d ih =>
   intro o w;have ⟨i1,i2,i3,i4,i5⟩:=ih (o+1) (w.setCell ⟨g,o,none⟩ v);exact ⟨i1,i2,i3,i4.trans (by simp_all),fun b q=>(i5 b q).trans (Below.heap_setCell _ _ _ _ q)⟩
 have r: ∀(d:List Value) (o:Nat) (w:World) (cur:Array Value),w.heap[g]? =some (.cells cur E (0,0))->(pY w g o d).heap[g]? =some (.cells (spl cur.toList o d).toArray E (0,0)):=by
  intro d;induction d with
  | nil=>simp_all[pY,spl]
  | cons v d ih =>
   intro o w cur h
   have:=ih (o+1) (w.setCell ⟨g,o,none⟩ v) (cur.setIfInBounds o v) (gC h)
   rw[Array.toList_setIfInBounds] at this;exact this
 have ⟨q1,q2,q3,q4,W⟩:=D d (l+(i.toNat*k+off)) w;have z:g∉K:=by rw[List.cons_append] at p;simpa using (List.nodup_cons.1 p).1
 have hcl:c.length=k:=by omega
 have H:=hU I c a d b c3 q;refine ⟨⟨q1.trans m.1,q2.trans m.2.1,q3.trans m.2.2.1,by omega⟩,fun b o N=>?_,[g] ++K,⟨[g],K,rfl,⟨by grind,.inr ⟨g,l,cap,_,[],by grind,r d _ w cur M,by grind,Z,by grind[List.size_toArray,xF],rfl,?_⟩⟩,e3.stay fun b q=>W b fun e=>z (e ▸ q)⟩,p,hI⟩
 ·show (pY w g (l+(i.toNat*k+off)) d).heap[b]? =some o;rw[W b fun e=>by grind];exact hi b o N
 ·have A: ∀j,(spl (cur.toList.drop l) (i.toNat*k+off) d)[j]? =if i.toNat*k+off<=j/\j<i.toNat*k+off+d.length then d[j - (i.toNat*k+off)]? else (cur.toList.drop l)[j]? :=fun j=>M4 (by omega);rw[Jv (by omega)];refine OwnEls.set (w:=w) X hc H (cur:=cur.toList.drop l) t O (by rw[xF]) (fun j B=>?_) (fun j B=>?_)
  ·rw[U] at B⊢;rw[A,M4 (by omega)];by_cases h:off<=j/\j<off+d.length
   ·rw[if_pos h,if_pos (by omega)];congr 1;omega
   grind
  grind
def mkI {α:Type} (b:Nat) (n:Int) (z:α):Option (List α):=if 0<=n/\n.toNat*b<=140737488355328 then some (List.replicate n.toNat z) else none
theorem Vr {α:Type} {E T:TypeId} {R:Rep α} {z:Value} {n b:Nat} {x y:Operand} {s u:Value} {xs ys zs:List α} (h:bM b xs ys=some zs) (g:P.underlying T=some (.slice E)) (j:TZ P E z n b) (d:z.cells.size=n) (f:0<n) (i:R.size=n) (c:1<=b) (k:o.op= .call { callee:=.builtin .append,args:= #[x,y],argTypes:= #[T,T] }) (m:ev x=s) (l:ev y=u) :
  OpT P I w0 o ev [Ch.own (aw E R) [s] xs,Ch.own (aw E R) [u] ys] (fun _=>True) (fun v=>[Ch.own (aw E R) [v] zs]):=by
 obtain ⟨rfl,e⟩:=wc h;grind[Lg]
theorem vf {α:Type} {E T E':TypeId} {R S:Rep α} {z:Value} {n b:Nat} {x y:Operand} {s u:Value} {xs ys zs:List α} (h:bM b xs ys=some zs) (j:Cpy S R) (c:S.size=n) (i:(aw E' S).rd I [u] ys) (k:P.underlying T=some (.slice E)) (m:TZ P E z n b) (e:z.cells.size=n) (g:0<n) (l:R.size=n) (d:1<=b) (p:o.op= .call { callee:=.builtin .append,args:= #[x,y],argTypes:= #[T,T] }) (r:ev x=s) (q:ev y=u) :
  OpT P I w0 o ev [Ch.own (aw E R) [s] xs] (fun _=>True) (fun v=>[Ch.own (aw E R) [v] zs]):=by
 obtain ⟨rfl,f⟩:=wc h;grind[Cu]
theorem FJ {α:Type} {E T:TypeId} {R:Rep α} {z:Value} {n b:Nat} {x y:Operand} {s u:Value} {xs ys zs:List α} (h:bM b xs ys=some zs) (e:R.Sh) (i:Cpy R R) (j:P.underlying T=some (.slice E)) (l:TZ P E z n b) (d:z.cells.size=n) (g:0<n) (k:R.size=n) (c:1<=b) (m:o.op= .call { callee:=.builtin .append,args:= #[x,y],argTypes:= #[T,T] }) (q:ev x=s) (p:ev y=u) :
  OpT P I w0 o ev [Ch.own (aw E R) [s] xs,Ch.own (aw E R) [u] ys] (fun _=>True) (fun v=>[Ch.own (aw E R) [v] zs,Ch.own (aw E R) [u] ys]):=by
 obtain ⟨rfl,f⟩:=wc h;grind[An]
theorem HV {v:Value} (h:aav v):v= .pointer (some ⟨bk v,0,none⟩):=by obtain ⟨g,rfl⟩:=h;rfl
theorem OpT.hdk {rn:List Ch} {fact:Value->Prop} {gv:Value->List Ch} {α:Type} {E:TypeId} {R:Rep α} {xs:List α} (u:Value->Value) (k:Nat) (c: ∀v,(gv v)[k]? =some (Ch.own (aw E R) [u v] xs)) (h:OpT P I w0 o ev rn fact gv):OpT P I w0 o ev rn (fun v=>fact v/\Hd (u v) xs.length) gv:=by
 intro w C d;refine (h w C d).imp fun v w hv=>⟨⟨hv.1,?_⟩,hv.2⟩
 have b:=(List.getElem?_eq_some_iff.1 (c v)).1;exact (hv.2.hd k (by rw[List.getElem?_append_left b];exact c v)).1
theorem Li {ops:Array Oper} {rest:List Oper} {g d:Nat} {want:Bool} (b:Agr n a L) (hs:St I w0 w C) (i:o.guard=some (g,want)) (e:((ops[g]?).bind (·.dst))=some d) (hv:L.lookup d=some undef) (c:dstOk n o.dst=true)
  (k: ∀a,Agr n a (QJ o.dst undef L)->wpList P ops Q rest a w):wpList P ops Q (o::rest) a w:=by
 refine wpList_skip ?_ (k _ (b.put undef c));have h:=b.2.2 d _ hv;unfold Region.wanted yielded;rw[i];simp only;rw[e];simp only[aa];rw[Array.getD_eq_getD_getElem?] at h;cases f:a.tmps[d]? with
 | none=>rfl
 | some u =>
  rw[f] at h;simp[Option.getD_some] at h;rw[h];rfl
theorem Vs {x y:Operand} {t u:TypeId} {a b:ByteArray} (e:o.op= .binOp .eql t x y u) (d:ev x= .string a) (c:ev y= .string b):OpT P I w0 o ev [] (· = .bool (a==b)) (fun _=>[]):=
 bp fun w=>by rw[beq_toListBytes];simp[execOp,e,d,c];rfl
theorem Vt {x y:Operand} {t u:TypeId} {a b:ByteArray} (e:o.op= .binOp .neq t x y u) (d:ev x= .string a) (c:ev y= .string b):OpT P I w0 o ev [] (· = .bool (a !=b)) (fun _=>[]):=
 bp fun w=>by unfold bne;rw[beq_toListBytes];simp[execOp,e,d,c];rfl
def EqT (P:Program) (t:TypeId) (x y:Value) (b:Bool) (w:World):Prop:=(Op.equal t x y).run P w= .ok b w/\(eqGuard .eql t (.const x) (.const y) x y).run P w= .ok () w/\(eqGuard .neq t (.const x) (.const y) x y).run P w= .ok () w
theorem Vu {x y:Operand} {t u:TypeId} {d e:Array Value} {b:Bool} (h: ∀w,EqT P t (.agg d) (.agg e) b w) (l:o.op= .binOp .eql t x y u) (p:ev x= .agg d) (m:ev y= .agg e) {c:Bool} (j:b=c):OpT P I w0 o ev [] (· = .bool c) (fun _=>[]):=
 bp fun w=>by
  have ⟨g,k,i⟩:=h w;have f:binOp .eql t (.agg d) (.agg e)=(do pure (.bool (<-Op.equal t (.agg d) (.agg e)))):=rfl;simp_all[eqGuard,execOp,Sem.run_bind,Sem.run_pure,Result.andThen_ok]
theorem Vv {x y:Operand} {t u:TypeId} {d e:Array Value} {b:Bool} (h: ∀w,EqT P t (.agg d) (.agg e) b w) (l:o.op= .binOp .neq t x y u) (p:ev x= .agg d) (m:ev y= .agg e) {c:Bool} (j:(!b)=c):OpT P I w0 o ev [] (· = .bool c) (fun _=>[]):=
 bp fun w=>by
  have ⟨g,k,i⟩:=h w;have f:binOp .neq t (.agg d) (.agg e)=(do pure (.bool (!(<-Op.equal t (.agg d) (.agg e))))):=rfl;simp_all[eqGuard,execOp,Sem.run_bind,Sem.run_pure,Result.andThen_ok]
theorem D5 {d:Nat} {xs ys:Array Value} (w:World):(Op.eqFields d xs ys []).run P w= .ok true w:=rfl
theorem jG {d:Nat} {xs ys:Array Value} {f:Field} {fs:List Field} {c e:Value} {r b:Bool} {w:World} (j:(f.name != "_")=true) (h:(part f.type xs f.offset).run P w= .ok c w) (g:(part f.type ys f.offset).run P w= .ok e w) (i:(Op.equalIn d f.type c e).run P w= .ok r w) (k:(Op.eqFields d xs ys fs).run P w= .ok b w):(Op.eqFields d xs ys (f::fs)).run P w= .ok (r&&b) w:=by
 rw[Op.eqFields,if_pos (by grind)];simp[Sem.run_bind,h,g,i,Result.andThen_ok];cases r
 ·rfl
 grind
theorem gZ {T:TypeId} {cs:Array Value} {off:Nat} {v:Value} {w:World} (b:TI P T false 1) (h:cs[off]? =some v):(part T cs off).run P w= .ok v w:=by
 unfold part;rw[Sem.run_bind,b.run_agg];simp_all
theorem Jw {t:TypeId} {fs:Array Field} {xs ys:Array Value} {b:Bool} (w:World) (d:P.underlying t=some (.struct fs)) (hp:P.stoodInHeld t=false) (c:P.eqGuardType P.depth t=false) (h:(Op.eqFields 9999 xs ys fs.toList).run P w= .ok b w):EqT P t (.agg xs) (.agg ys) b w:=by
 have e:P.fieldsOf t=fs:=by unfold Program.fieldsOf;rw[d]
 refine ⟨?_,run_eqGuard_agg w _ _ _ _ _ _ c,run_eqGuard_agg w _ _ _ _ _ _ c⟩;grind[Op.equal,Op.maxDepth,run_equalIn_agg]
end
section
variable {P:Program} {I J:Hp} {w0 w w':World} {cs C:List Ch} {n:Nat} {a:Act} {L L':List (Nat×Value)} {o:Oper} {ev:Operand->Value}
end
def Bun (I:Hp) (ls:List Ch) {α:Type} (R:Rep α) (cs:List Value) (x:α):Prop:= ∀w F,Sep I ls w F->R.own I w cs x F
section
variable {P:Program} {I J:Hp} {w0 w w':World} {cs C:List Ch} {n:Nat} {a:Act} {L L':List (Nat×Value)} {o:Oper} {ev:Operand->Value}
theorem M5 {α:Type} {R:Rep α} {c:List Value} {x:α} :Bun I [Ch.own R c x] R c x:=by
 rintro w F ⟨G,K,rfl,b,rfl⟩;rw[List.append_nil];exact b
theorem Vx {α:Type} {E:TypeId} {R:Rep α} :Bun I [] (aw E R) [.slice none 0 0] []:=fun w F h=>⟨Nat.zero_le _,.inl ⟨rfl,rfl,h⟩⟩
theorem Yd {α:Type} {R:Rep α} {c:List Value} {x:α} (h:R.rd I c x):Bun I [] (zz R) c x:=fun w F k=>⟨k,h⟩
theorem Q2 {α β:Type} {R:Rep α} {S:Rep β} {l m:List Ch} {c d:List Value} {x:α} {y:β} (h:Bun I l R c x) (k:Bun I m S d y):Bun I (l++m) (si R S) (c++d) (x,y):=by
 intro w F b;obtain ⟨G,K,rfl,e,f⟩:=b.split;exact ⟨c,d,G,K,rfl,rfl,h w G e,k w K f⟩
def sA (I:Hp) (l m:List Ch):Prop:= ∀w F,Sep I l w F->Sep I m w F
theorem wg:sA I [] []:=fun _ _ h=>h
theorem sB {α:Type} {R:Rep α} {l m b:List Ch} {c:List Value} {x:α} (h:Bun I l R c x) (k:sA I m b):sA I (l++m) (Ch.own R c x::b):=by
 intro w F d;obtain ⟨G,K,rfl,e,f⟩:=d.split;exact ⟨G,K,rfl,h w G e,k w K f⟩
theorem OpT.pre {c ls b:List Ch} {fact:Value->Prop} {gv:Value->List Ch} (k:sA I c b) (e:c=ls) (h:OpT P I w0 o ev b fact gv):OpT P I w0 o ev ls fact gv:=by
 subst e;intro w C d;refine h w C ?_;have ⟨g,m,F,i,f,j⟩:=d;obtain ⟨G,K,rfl,p,l⟩:=i.split;exact ⟨g,m,G++K,(k w G p).append l,f,j⟩
def UpdO {α β:Type} (R:Rep α) (off:Nat) (S:Rep β) (u:α->β->α):Prop:= ∀I w c x G d y K,R.own I w c x G->S.own I w d y K-> ∃G' D,R.own I w (spl c off d) (u x y) G'/\(G'++D).Perm (G++K)
theorem UpdO.self {α:Type} {R:Rep α} :UpdO R 0 R (fun _ y=>y):=by
 intro I w c x G d y K h k;rw[C6 _ _ _ (by rw[R.own_len h,R.own_len k];omega),R.own_len k,<-R.own_len h];grind[List.perm_append_comm]
theorem UpdO.fst {α β γ:Type} {A:Rep α} {B:Rep β} {S:Rep γ} {off:Nat} {u:α->γ->α} (hs:off+S.size<=A.size) (h:UpdO A off S u):UpdO (si A B) off S (fun x y=>(u x.1 y,x.2)):=by
 rintro I w c x F d y K ⟨i,g,j,b,rfl,rfl,e,l⟩ k;rw[we _ _ _ _ (by rw[A.own_len e,S.own_len k];exact hs)];have ⟨f,D,m,p⟩:=h I w i x.1 j d y K e k;refine ⟨f++b,D,⟨_,g,f,b,rfl,rfl,m,l⟩,?_⟩;grind[aC,List.Perm.append_left,List.perm_append_comm,trans]
theorem UpdO.snd {α β γ:Type} {A:Rep α} {B:Rep β} {S:Rep γ} {off:Nat} {u:β->γ->β} (h:UpdO B off S u):UpdO (si A B) (A.size+off) S (fun x y=>(x.1,u x.2 y)):=by
 rintro I w c x F d y K ⟨j,i,e,g,rfl,rfl,b,l⟩ k;rw[<-A.own_len b,qq];have ⟨f,D,m,p⟩:=h I w i x.2 g d y K l k;refine ⟨e++f,D,⟨j,_,e,f,rfl,rfl,b,m⟩,?_⟩;grind
theorem OwnEls.setO {α β:Type} {R:Rep α} {S:Rep β} {off:Nat} {f:α->β->α} (m:UpdO R off S f) {d:List Value} {y:β} {j:List Nat} (h:S.own I w d y j) (b:off+S.size<=R.size) :
  ∀ {xs:List α} {cur:List Value} {F:List Nat} {k:Nat} {x:α},OwnEls R I w cur xs F->xs[k]? =some x-> ∃g D,OwnEls R I w (spl cur (k*R.size+off) d) (xs.set k (f x y)) g/\(g++D).Perm (F++j)
 | [],_,_,k,_,_,hk=>by grind
 | z::xs,cur,F,0,x,⟨c,rest,G,K,h1,h2,h3,h4,h5⟩,hk=>by
  simp at hk;subst hk;subst h1;have ⟨l,D,i,p⟩:=m I w c z G d y j h4 h;rw[Nat.zero_mul,Nat.zero_add,we _ _ _ _ (by rw[h2,S.own_len h];omega)];refine ⟨l++K,D,⟨_,rest,l,K,rfl,by rw[xF];exact h2,rfl,i,h5⟩,?_⟩;grind[aC,List.Perm.append_left,List.perm_append_comm,trans]
 | z::xs,cur,F,k+1,x,⟨c,rest,G,K,h1,h2,h3,h4,h5⟩,hk=>by
  subst h1;obtain ⟨g,D,i,p⟩:=OwnEls.setO m h b h5 (k:=k) (by simpa using hk);have e:(k+1)*R.size+off=c.length+(k*R.size+off):=by rw[h2,Nat.add_mul,Nat.one_mul];omega
  rw[e,qq];refine ⟨G++g,D,⟨c,_,G,g,rfl,h2,rfl,h4,i⟩,?_⟩;grind
theorem D6 {α β:Type} {E T:TypeId} {R:Rep α} {S:Rep β} {ls:List Ch} {agg:Bool} {n k off:Nat} {f:α->β->α} {x y:Operand} {v u:Value} {xs:List α} {a:α} {b:β} {i:Int} {d:List Value} (hB:Bun I ls S d b) (ha:aP xs i=some a) (hU:UpdO R off S f) (hT:TI P T agg n) (ho:o.op= .store T x y) (hx:ev x=pt v (i.toNat*k+off)) (hy:ev y=u) (hu:u.cells=d.toArray) (h1:d.all (·.oneCell')=true) (hd:d.length=n) (hSn:S.size=n) (W:R.size=k) (hS:off+n<=k) :
  OpT P I w0 o ev (Ch.own (aw E R) [v] xs::ls) (fun _=>True) (fun _=>[Ch.own (aw E R) [v] (xs.set i.toNat (f a b))]):=by
 intro w C hs;have Y:=ve ha;have hlt:=(List.getElem?_eq_some_iff.1 Y).1;obtain ⟨s,hi,F,⟨G,K,rfl,⟨hl,e2⟩,e3⟩,N,hI⟩:=hs;obtain ⟨O,m,rfl,e4,e5⟩:=Sep.split e3;rcases e2 with ⟨hv,rfl,rfl⟩ | ⟨g,c,cap,cur,K1,hv,U,k2,k3,k4,rfl,k5⟩
 ·grind
 obtain rfl:v= .slice (some ⟨g,c,none⟩) xs.length cap:=by grind
 have X:c+(i.toNat*k+k)<=cur.size:=by
  have H:=k4;rw[W] at H
  have:(i.toNat+1)*k<=cap*k:=Nat.mul_le_mul_right _ (by omega)
  rw[Nat.add_mul,Nat.one_mul] at this;omega
 have hln:cur.toList.length=cur.size:=Array.length_toList;have hr:=Jr (P:=P) (w:=w) hT (g:=g) (o:=c+(i.toNat*k+off)) hu hd (fun j hj=>by
  simp[World.cell?,U,Option.isSome_none,Bool.false_eq_true,ite_false];grind) (fun j=>by simp[World.frozen?,U]) (fun v hv=>List.all_eq_true.1 h1 v hv)
 simp only[execOp,ho,hx,hy,pt,ptB,ptO,Sem.run_bind,hr,Result.andThen_ok];refine ⟨trivial,?_⟩;have Q: ∀(d:List Value) (o:Nat) (w:World),(pY w g o d).os=w.os/\(pY w g o d).tape=w.tape/\(pY w g o d).output=w.output/\(pY w g o d).heap.size=w.heap.size/\ ∀b,b≠g->(pY w g o d).heap[b]? =w.heap[b]? :=by
  intro d;induction d with
  | nil=>intro o w;exact ⟨rfl,rfl,rfl,rfl,fun _ _=>rfl⟩
  | cons v d ih =>
   intro o w;have ⟨i1,i2,i3,i4,i5⟩:=ih (o+1) (w.setCell ⟨g,o,none⟩ v);exact ⟨i1,i2,i3,i4.trans (by simp_all),fun b p=>(i5 b p).trans (Below.heap_setCell _ _ _ _ p)⟩
 have z: ∀(d:List Value) (o:Nat) (w:World) (cur:Array Value),w.heap[g]? =some (.cells cur E (0,0))->(pY w g o d).heap[g]? =some (.cells (spl cur.toList o d).toArray E (0,0)):=by
  intro d;induction d with
  | nil=>simp_all[pY,spl]
  | cons v d ih =>
   intro o w cur h
   have:=ih (o+1) (w.setCell ⟨g,o,none⟩ v) (cur.setIfInBounds o v) (gC h)
   rw[Array.toList_setIfInBounds] at this;exact this
 have ⟨q1,q2,q3,q4,M⟩:=Q d (c+(i.toNat*k+off)) w;have ⟨r,D,Z,z2⟩:=OwnEls.setO hU (hB w O e4) (by omega) k5 Y;have l:((g::r++m)++D).Perm ((g::K1)++(O++m)):=by
  have p1:((r++m)++D).Perm ((r++D)++m):=by
   rw[aC,aC];exact List.Perm.append_left _ List.perm_append_comm
  have p2:=p1.trans (z2.append_right m);simpa using p2
 have A:=(l.nodup_iff).2 N;have t: ∀b,b∈g::r++m->b∈(g::K1)++(O++m):=fun b p=>l.mem_iff.1 (bm _ p);have q:=(List.nodup_append.1 A).1;have B:=(List.nodup_cons.1 (show (g::(r++m)).Nodup from q)).1;refine ⟨⟨q1.trans s.1,q2.trans s.2.1,q3.trans s.2.2.1,by omega⟩,fun b o V=>?_,(g::r)++m,⟨g::r,m,rfl,⟨by grind,.inr ⟨g,c,cap,_,r,by grind,z d _ w cur U,by grind,k3,by grind[List.size_toArray,xF],rfl,?_⟩⟩,e5.stay fun b p=>M b fun e=>B (bq _ (e ▸ p))⟩,q,fun b p=>hI b (t b p)⟩
 ·show (pY w g (c+(i.toNat*k+off)) d).heap[b]? =some o;rw[M b fun e=>by grind];exact hi b o V
 ·rw[W] at Z;rw[Jv (by omega)];exact OwnEls.stay Z fun b p=>M b fun e=>B (bm _ (e ▸ p))
def Zro {α:Type} (R:Rep α) (cs:List Value) (z:α):Prop:= ∀(I:Hp) (w:World),R.own I w cs z []
theorem zP {α:Type} {enc:α->Value} {h1: ∀a,(enc a).oneCell'=true} {x:α} :Zro (mu α enc h1) [enc x] x:=fun I w=>⟨rfl,rfl⟩
theorem Vy {α:Type} {E:TypeId} {R:Rep α} :Zro (aw E R) [.slice none 0 0] []:=fun I w=>⟨Nat.zero_le _,.inl ⟨rfl,rfl,rfl⟩⟩
theorem Q3 {α β:Type} {R:Rep α} {S:Rep β} {c d:List Value} {x:α} {y:β} (h:Zro R c x) (k:Zro S d y):Zro (si R S) (c++d) (x,y):=fun I w=>⟨c,d,[],[],rfl,rfl,h I w,k I w⟩
theorem Vz {α:Type} {R:Rep α} {c:List Value} {x:α} (h: ∀I,R.rd I c x):Zro (zz R) c x:=fun I w=>⟨rfl,h I⟩
theorem Ye {α:Type} {E T:TypeId} {R:Rep α} {c:Value} {n b:Nat} {x y:Operand} {l:Int} {z:α} {xs:List α} (A:Zro R c.cells.toList z) (Q:P.underlying T=some (.slice E)) (V:TZ P E c n b) (Y:o.op= .makeSlice T x y) (S:R.size=n) (hn:0<n) (B:1<=b) (M:ev x= .int .i64 l) (Z:ev y= .int .i64 l) (h:mkI b l z=some xs):OpT P I w0 o ev [] (fun _=>True) (fun v=>[Ch.own (aw E R) [v] xs]):=by
 intro w C D;unfold mkI at h;split at h
 ·rename_i u;have ⟨i,U,p,g,X⟩:=info_parts V;have d:c.cells.size=n:=by have:=R.own_len (A I w);rw[Array.length_toList,S] at this;exact this
  have N:=Nat.le_trans (Nat.le_mul_of_pos_right _ B) u.2;have t:=run_make (P:=P) w T E i c Q U p .i64 .i64 l l u.1 (Int.le_refl _) (by grind) (by omega);rw[g] at t;simp only[execOp,Y,M,Z,Sem.run_bind,t,Result.andThen_ok];refine ⟨trivial,?_⟩;have f:=D.alloc (madeCells c.cells (l.toNat*n)).toList E;obtain ⟨r,s,F,⟨G,K,rfl,⟨rfl,H⟩,k⟩,n1,O⟩:=f;refine ⟨r,s,[w.heap.size] ++K,⟨[w.heap.size],K,rfl,⟨by grind[List.length_replicate,lim],.inr ⟨w.heap.size,0,l.toNat,_,[],by grind,H,by grind,by unfold maxLen;omega,by grind[madeCells],rfl,?_⟩⟩,k⟩,n1,O⟩;have key: ∀(W:World) (m:Nat),OwnEls R I W (madeCells c.cells (m*n)).toList (List.replicate m z) []:=by
   intro W m;induction m with
   | zero=>rfl
   | succ m ih =>
    refine ⟨c.cells.toList,(madeCells c.cells (m*n)).toList,[],[],?_,by grind,rfl,A I W,ih⟩;apply List.ext_getElem?;intro j;by_cases hj:j<n
    ·grind[madeCells,Nat.mod_eq_of_lt]
    ·rw[List.getElem?_append_right (by grind),Array.length_toList,d];by_cases e:j<(m+1)*n
     ·have q:j - n<m*n:=by rw[Nat.add_mul,Nat.one_mul] at e;omega
      simp[madeCells,e,q,d,Array.getElem?_range]
      conv=>lhs;rw[show j=(j - n)+n from by omega,Nat.add_mod_right]
     ·have q: ¬j - n<m*n:=by rw[Nat.add_mul,Nat.one_mul] at e;omega
      simp[madeCells,e,q]
  grind
 grind
end
section
variable {P:Program} {I J:Hp} {w0 w w':World} {cs C:List Ch} {n:Nat} {a:Act} {L L':List (Nat×Value)} {o:Oper} {ev:Operand->Value}
theorem OwnEls.cut2 {α:Type} {R:Rep α} : ∀ {ys zs:List α} {cur:List Value} {F:List Nat},OwnEls R I w cur (ys++zs) F-> ∃b e d f,cur=b++e/\b.length=ys.length*R.size/\F=d++f/\OwnEls R I w b ys d/\OwnEls R I w e zs f
 | [],zs,cur,F,h=>⟨[],cur,[],F,rfl,by simp,rfl,rfl,h⟩
 | y::ys,zs,cur,F,⟨c,rest,G,K,h1,h2,h3,h4,h5⟩=>by
  obtain ⟨b,e,d,f,rfl,g,rfl,j,i⟩:=OwnEls.cut2 (ys:=ys) h5;exact ⟨c++b,e,G++d,f,by rw[h1,aC],by rw[az,h2,g,aH,Nat.add_mul,Nat.one_mul,Nat.add_comm],by rw[h3,aC],⟨c,b,G,d,rfl,h2,rfl,h4,j⟩,i⟩
theorem OwnEls.glue {α:Type} {R:Rep α} : ∀ {ys zs:List α} {d b:List Value} {e K2:List Nat},d.length=ys.length*R.size->OwnEls R I w d ys e->OwnEls R I w b zs K2->OwnEls R I w (d++b) (ys++zs) (e++K2)
 | [],zs,d,b,e,K2,hl,h1,h2=>by
  rw[aJ,Nat.zero_mul,List.length_eq_zero_iff] at hl;rw[hl,show e= [] from h1];exact h2
 | y::ys,zs,cur,b,F,K2,hl,⟨c,rest,G,K,h1,h2,h3,h4,h5⟩,h=>by
  subst h1;subst h3;rw[az,h2,aH,Nat.add_mul,Nat.one_mul] at hl;exact ⟨c,rest++b,G,K++K2,by rw[aC],h2,by rw[aC],h4,h5.glue (by omega) h⟩
end
def Reads {κ ε:Type} [DecidableEq κ] (lit:κ->Lit) (ok:κ->Bool) (elit:ε->Lit) (z:ε) (D:DataW Unit) (M:List (κ×ε)):Prop:=
 Maps.IsMap D/\ ∀x,ok x=true->Maps.has D (lit x)=(M.lookup x).isSome/\D.atKey (lit x) (.lit (elit z))= .lit (elit ((M.lookup x).getD z))
def lkM {κ ε:Type} [DecidableEq κ] (M:List (κ×ε)) (x:κ):Option ε:=M.lookup x
structure KeyOk (P:Program) (k:TypeId) {κ:Type} [DecidableEq κ] (val:κ->Value) (lit:κ->Lit) (ok:κ->Bool):Prop where
 keyed:Maps.Keyed P k
 inj: ∀x y,val x=val y->x=y
 key: ∀x,ok x=true->keyOf P k (val x)=some (lit x)
theorem KeyOk.linj {P:Program} {k:TypeId} {κ:Type} [DecidableEq κ] {val:κ->Value} {lit:κ->Lit} {a:κ->Bool} (K:KeyOk P k val lit a) {x y:κ} (c:a x=true) (b:a y=true) (h:lit x=lit y):x=y:=
 K.inj _ _ (K.keyed.inj (K.key x c) (by rw[h];exact K.key y b))
theorem KeyOk.isKey {P:Program} {k:TypeId} {κ:Type} [DecidableEq κ] {val:κ->Value} {lit:κ->Lit} {a:κ->Bool} (K:KeyOk P k val lit a) {x:κ} (b:a x=true):WideAt.IsKeyLit (lit x):=K.keyed.key (K.key x b)
structure EltOk (P:Program) (e:TypeId) {ε:Type} (enc:ε->Value) (elit:ε->Lit) (eok:ε->Bool) (z:ε):Prop where
 plain: ∀i,eok i=true->plainElem (H:=Unit) P e (enc i)=some (.lit (elit i),[])
 inv: ∀v y ps,plainElem (H:=Unit) P e v=some (.lit (elit y),ps)->v=enc y
 zero: ∀w,(zeroValue e).run P w= .ok (enc z) w
 zok:eok z=true
def Ch.mp (P:Program) (k e:TypeId) {κ ε:Type} [DecidableEq κ] (lit:κ->Lit) (ok:κ->Bool) (elit:ε->Lit) (z:ε) (v:Value) (M:List (κ×ε)):Ch where
 holds I w F:= ∃b,v= .map (some b)/\F= [b] /\ ∃n D,w.ownsMap P k (plainElem P e) b n D/\n<=M.length/\Reads lit ok elit z D M
 mono h _:=h
 stay:=by
  rintro I w w' F ⟨b,rfl,rfl,n,D,⟨es,clock,hb,h⟩,h2⟩ hw
  exact ⟨b,rfl,rfl,n,D,⟨es,clock,by rw[hw b (by simp)];exact hb,h⟩,h2⟩
 live:=by
  rintro I w F ⟨b,rfl,rfl,n,D,h,h2⟩ b' hb
  simp at hb;subst hb;exact h.lt
def VB (n:Int):Lit:=.int .i64 n
def iOk (n:Int):Bool:=(Lit.int .i64 n).wf
def ab5 (b:Bool):Lit:=.bool b
def bOk (b:Bool):Bool:=true
theorem Yf {P:Program} {k:TypeId} (h:P.underlying k=some (.int .i64)):KeyOk P k (fun n:Int=>Value.int .i64 n) VB iOk:=⟨Maps.int_keyed h,fun x y h=>by simpa using h,fun x a=>Maps.keyOf_int_mk h a⟩
theorem Yg {P:Program} {e:TypeId} (h:P.underlying e=some (.int .i64)) (c: ∀w,(zeroValue e).run P w= .ok (.int .i64 0) w):EltOk P e (fun n:Int=>Value.int .i64 n) VB iOk 0:=
 ⟨fun i b=>plainElem_int h b,fun v y d hp=>by
  obtain ⟨a,rfl,e,-⟩:=plainElem_int_inv h hp
  have:y=a:=by simpa [VB] using congrArg Prod.fst e
  rw[this],c,by decide⟩
def aaw (x:Int×Int):Lit:=.string (keyBytes [.int .i64 x.1,.int .i64 x.2])
def ab6 (x:Int×Int):Bool:=(Lit.int .i64 x.1).wf&&(Lit.int .i64 x.2).wf
section
variable {P:Program} {I J:Hp} {w0 w w':World} {cs C:List Ch} {n:Nat} {a:Act} {L L':List (Nat×Value)} {o:Oper} {ev:Operand->Value}
variable {κ ε:Type} [DecidableEq κ] {lit:κ->Lit} {val:κ->Value} {ok:κ->Bool} {enc:ε->Value} {elit:ε->Lit} {eok:ε->Bool} {z:ε}
theorem M6:Reads lit ok elit z (.map []) ([] :List (κ×ε)):=⟨Maps.isMap_empty,fun x _=>⟨rfl,rfl⟩⟩
theorem Reads.put {k:TypeId} (K:KeyOk P k val lit ok) {D:DataW Unit} {M:List (κ×ε)} (h:Reads lit ok elit z D M) (x:κ) (d:ok x=true) (i:ε):Reads lit ok elit z (D.put (lit x) (.lit (elit i))) ((x,i)::M):=by
 refine ⟨h.1.put _ _,fun y b=>?_⟩;by_cases e:y=x
 ·subst e;rw[List.lookup_cons_self];exact ⟨Maps.has_put_same h.1 (K.isKey b) _,Maps.atKey_put_same h.1 (K.isKey b) _ _⟩
 ·have c:lit y≠lit x:=fun h=>e (K.linj b d h);rw[List.lookup_cons,show (y==x)=false from by simp[e]];exact ⟨by rw[Maps.has_put_other c];exact (h.2 y b).1,by rw[Maps.atKey_put_other c];exact (h.2 y b).2⟩
theorem HW {t k e:TypeId} (h:o.op= .makeMap t none):OpT P I w0 o ev [] (fun _=>True) (fun v=>[Ch.mp P k e lit ok elit z v []]):=by
 intro w C f;have g:(execOp ev o).run P w= .ok (.value (.map (some w.heap.size))) (w.alloc (.map #[] 0)):=by
  simp only[execOp,h];rfl
 rw[g];refine ⟨trivial,?_⟩;refine St.step (w:=w) (c:=[]) (c':=[Ch.mp P k e lit ok elit z (.map (some w.heap.size)) []]) (w':=w.alloc (.map #[] 0)) f rfl rfl rfl (by simp) ?_;rintro F rfl - -;refine ⟨fun b d _=>?_,[w.heap.size],⟨[w.heap.size],[],rfl,⟨_,rfl,rfl,0,.map [],World.ownsMap_made _ _ _ _,aL _,M6⟩,rfl⟩,by simp,by simp⟩;show (w.heap.push _)[b]? =_;rw[Array.getElem?_push_lt d,Array.getElem?_eq_getElem d]
def QK (M:List (κ×ε)) (ok:κ->Bool) (eok:ε->Bool) (x:κ) (i:ε):Option (List (κ×ε)):=if M.length<9223372036854775807/\ok x=true/\eok i=true then some ((x,i)::M) else none
theorem Lj {t k e:TypeId} {m x y:Operand} {v:Value} {q:κ} {i:ε} {M B:List (κ×ε)} (K:KeyOk P k val lit ok) (E:EltOk P e enc elit eok z) (Z:P.underlying t=some (.map k e))
  (l:o.op= .mapUpdate t m x y\/o.op= .insert t m x y) (S:ev m=v) (N:ev x=val q) (R:ev y=enc i) (h:QK M ok eok q i=some B) :
  OpT P I w0 o ev [Ch.mp P k e lit ok elit z v M] (fun _=>True) (fun _=>[Ch.mp P k e lit ok elit z v B]):=by
 unfold QK at h;split at h
 case isFalse=>cases h
 rename_i r;obtain rfl:=ae h;intro w C V;obtain ⟨p,Y,F,⟨G,s,rfl,⟨b,rfl,rfl,n,D,j,U,X⟩,Q⟩,H,O⟩:=V;obtain ⟨w',d,g1,f⟩:=j.update K.keyed Z (by unfold maxLen;omega) (K.key q r.2.1) (E.plain i r.2.2);have T:b∉s:=by simpa using (List.nodup_cons.1 H).1
 have W:(execOp ev o).run P w= .ok .skip w':=by
  rcases l with l | l
  ·simp only[execOp,l,S,N,R,Sem.run_bind,d,Result.andThen_ok];rfl
  ·simp only[execOp,l,S,N,R,Sem.run_bind,d,Result.andThen_ok];rfl
 rw[W];refine ⟨trivial,⟨f.os.trans p.1,f.tape.trans p.2.1,f.output.trans p.2.2.1,Nat.le_trans p.2.2.2 f.size⟩,fun c o g=>?_,[b] ++s,⟨[b],s,rfl,⟨b,rfl,rfl,n+1,_,g1,by simpa using U,X.put K q r.2.1 i⟩,Q.stay fun c g=>?_⟩,H,O⟩
 ·have u:c≠b:=fun e=>by rw[e,O b (by simp)] at g;cases g
  have:=Y c o g
  have A:c<w.heap.size:=(Array.getElem?_eq_some_iff.1 this).1;show w'.heap[c]? =some o;rw[f.block c A (fun e=>u (ae e))];exact this
 ·exact f.block c (Q.live c g) (fun e=>T (ae e ▸ g))
theorem Q4 {t k e:TypeId} {b n:Nat} {D:DataW Unit} {q:κ} {M:List (κ×ε)} (K:KeyOk P k val lit ok) (E:EltOk P e enc elit eok z) (l:P.underlying t=some (.map k e)) (f:ok q=true) (d:w.ownsMap P k (plainElem P e) b n D) (i:Reads lit ok elit z D M) :
  (Instr.lookup t (.map (some b)) (val q) true).run P w= .ok (.tuple #[enc ((M.lookup q).getD z),.bool (M.lookup q).isSome]) w:=by
 obtain ⟨u,m,c,g⟩:=d.look_ok K.keyed l (E.zero w) (E.plain z E.zok) (K.key q f);obtain ⟨j,h⟩:=i.2 q f;rw[h] at g;obtain rfl:=E.inv _ _ _ g;rw[c,j]
theorem HY {t k e:TypeId} {m x:Operand} {v:Value} {q:κ} {M:List (κ×ε)} (K:KeyOk P k val lit ok) (E:EltOk P e enc elit eok z) (i:ok q=true) (p:P.underlying t=some (.map k e))
  (l:o.op= .lookup t m x true) (r:ev m=v) (s:ev x=val q) :
  OpT P I w0 o ev [Ch.mp P k e lit ok elit z v M] (· = .tuple #[enc ((M.lookup q).getD z),.bool (M.lookup q).isSome]) (fun _=>[Ch.mp P k e lit ok elit z v M]):=by
 intro w C g;have f:=g;obtain ⟨A,N,F,⟨G,O,rfl,⟨b,rfl,rfl,n,D,d,u,j⟩,H⟩,y,B⟩:=g;have c:=Q4 K E p i d j;have h:(execOp ev o).run P w= .ok (.value (.tuple #[enc ((M.lookup q).getD z),.bool (M.lookup q).isSome])) w:=by
  simp only[execOp,l,r,s,Sem.run_bind,c,Result.andThen_ok];rfl
 rw[h];exact ⟨rfl,f⟩
theorem FK {t k e:TypeId} {m x:Operand} {v:Value} {q:κ} {M:List (κ×ε)} (K:KeyOk P k val lit ok) (E:EltOk P e enc elit eok z) (h:ok q=true) (s:P.underlying t=some (.map k e))
  (r:o.op= .lookup t m x false) (y:ev m=v) (A:ev x=val q) :
  OpT P I w0 o ev [Ch.mp P k e lit ok elit z v M] (· =enc ((M.lookup q).getD z)) (fun _=>[Ch.mp P k e lit ok elit z v M]):=by
 intro w C g;have f:=g;obtain ⟨N,R,F,⟨G,U,rfl,⟨b,rfl,rfl,n,D,d,B,p⟩,Q⟩,H,O⟩:=g;obtain ⟨u,T,c,i⟩:=d.lookup K.keyed s (E.zero w) (E.plain z E.zok) (K.key q h);obtain ⟨S,j⟩:=p.2 q h;rw[j] at i;obtain rfl:=E.inv _ _ _ i;have l:(execOp ev o).run P w= .ok (.value (enc ((M.lookup q).getD z))) w:=by
  simp only[execOp,r,y,A,Sem.run_bind,c,Result.andThen_ok];rfl
 rw[l];exact ⟨rfl,f⟩
end
section
variable {P:Program} {I J:Hp} {w0 w w':World} {o:Oper} {ev:Operand->Value}
theorem VC {x y:Operand} {t u:TypeId} {m n:Int} (c:o.op= .binOp .add t x y u) (b:ev x= .int .u64 m) (a:ev y= .int .u64 n):OpT P I w0 o ev [] (· = .int .u64 (IntKind.u64.wrap (m+n))) (fun _=>[]):=
 bp fun w=>by simp only[execOp,c,b,a];rfl
theorem VD {x y:Operand} {t u:TypeId} {m n:Int} (c:o.op= .binOp .sub t x y u) (b:ev x= .int .u64 m) (a:ev y= .int .u64 n):OpT P I w0 o ev [] (· = .int .u64 (IntKind.u64.wrap (m - n))) (fun _=>[]):=
 bp fun w=>by simp only[execOp,c,b,a];rfl
theorem VE {x y:Operand} {t u:TypeId} {m n:Int} (c:o.op= .binOp .mul t x y u) (b:ev x= .int .u64 m) (a:ev y= .int .u64 n):OpT P I w0 o ev [] (· = .int .u64 (IntKind.u64.wrap (m*n))) (fun _=>[]):=
 bp fun w=>by simp only[execOp,c,b,a];rfl
def QL (m n:Int):Int:=bits .and .u64 m n
theorem VF {x y:Operand} {t u:TypeId} {m n:Int} (c:o.op= .binOp .and t x y u) (b:ev x= .int .u64 m) (a:ev y= .int .u64 n):OpT P I w0 o ev [] (· = .int .u64 (QL m n)) (fun _=>[]):=
 bp fun w=>by simp only[execOp,c,b,a];rfl
theorem VG {x y:Operand} {t u:TypeId} {m n:Int} (c:o.op= .binOp .shr t x y u) (b:ev x= .int .u64 m) (a:ev y= .int .u64 n) (d:0<=n):OpT P I w0 o ev [] (· = .int .u64 (n9 m n)) (fun _=>[]):=
 bp fun w=>by simp[execOp,c,b,a,eqGuard,binOp,Op.shift,show¬n<0 from by omega,Result.andThen,n9,IntKind.bits]
theorem FL {x:Operand} {s d:TypeId} {k a:IntKind} {m:Int} (hs:P.underlying s=some (.int k)) (c:P.underlying d=some (.int a)) (e:o.op= .convert s d x) (b:ev x= .int k m):OpT P I w0 o ev [] (· = .int a (a.wrap m)) (fun _=>[]):=
 bp fun w=>by simp[execOp,e,b,convert,Conv.intToInt,run_underlying hs,run_underlying c,Result.andThen]
end
def rL (v:Value) (l h s:Nat):Value:=match v with
 | .slice a _ c=>sliced a l h c s
 | _=>v
def cg (v:Value) (i:Nat):Nat:=match v with
 | .func _ _ capt=>bk (capt.getD i undef)
 | _=>0
section
variable {P:Program} {I J:Hp} {w0 w w':World} {o:Oper} {ev:Operand->Value}
theorem TI.size {T:TypeId} {agg:Bool} {n:Nat} (h:TI P T agg n) (w:World):(sizeOf T).run P w= .ok n w:=by
 obtain ⟨-,a⟩:=h;cases b:P.info? T with
 | none=>grind
 | some i=>simp_all[Program.cellsOf,sizeOf,typeInfo]
theorem vh {t e:TypeId} {x y:Operand} {v:Value} {len n:Nat} {l:Int} {agg:Bool} (d:P.underlying t=some (.slice e)) (g:TI P e agg n) (hv:Hd v len) (i:o.op= .slice t x (some y) none none) (f:ev x=v) (j:ev y= .int .i64 l) (h:0<=l/\l<=len) :
  OpT P I w0 o ev [] (· =rL v l.toNat len n) (fun _=>[]):=by
 obtain ⟨k,cap,rfl,-⟩:=hv;have c:P.elem t=e:=by simp[Program.elem,d]
 have a:P.underlying t=some (.slice (P.elem t)):=by rw[c];exact d
 refine bp fun w=>?_;have b:=TI.size g w;rw[<-c] at b;simp[execOp,i,f,Option.map_some,Option.map_none,j,Sem.run_bind,run_sliceAt_slice w t _ _ _ _ a,run_slice_l w t k len cap a .i64 l h.1 h.2,b,Result.andThen_ok]
 rfl
theorem vi {t e:TypeId} {x y:Operand} {v:Value} {len n:Nat} {l:Int} {agg:Bool} (d:P.underlying t=some (.slice e)) (g:TI P e agg n) (hv:Hd v len) (i:o.op= .slice t x none (some y) none) (f:ev x=v) (j:ev y= .int .i64 l) (h:0<=l/\l<=len) :
  OpT P I w0 o ev [] (· =rL v 0 l.toNat n) (fun _=>[]):=by
 obtain ⟨k,cap,rfl,-,m⟩:=hv;have c:P.elem t=e:=by simp[Program.elem,d]
 have a:P.underlying t=some (.slice (P.elem t)):=by rw[c];exact d
 refine bp fun w=>?_;have b:=TI.size g w;rw[<-c] at b;simp[execOp,i,f,Option.map_some,Option.map_none,j,Sem.run_bind,run_sliceAt_slice w t _ _ _ _ a,run_slice_h w t k len cap a .i64 l h.1 (by omega),b,Result.andThen_ok]
 rfl
theorem FM {t e:TypeId} {x y z:Operand} {v:Value} {len n:Nat} {l h:Int} {agg:Bool} (f:P.underlying t=some (.slice e)) (j:TI P e agg n) (hv:Hd v len) (k:o.op= .slice t x (some y) (some z) none) (i:ev x=v) (m:ev y= .int .i64 l) (g:ev z= .int .i64 h) (d:0<=l/\l<=h/\h<=len) :
  OpT P I w0 o ev [] (· =rL v l.toNat h.toNat n) (fun _=>[]):=by
 obtain ⟨p,cap,rfl,-,q⟩:=hv;have c:P.elem t=e:=by simp[Program.elem,f]
 have a:P.underlying t=some (.slice (P.elem t)):=by rw[c];exact f
 refine bp fun w=>?_;have b:=TI.size j w;rw[<-c] at b;simp[execOp,k,i,Option.map_some,Option.map_none,m,g,Sem.run_bind,run_sliceAt_slice w t _ _ _ _ a,run_slice_lh w t p len cap a .i64 .i64 l h d.1 d.2.1 (by omega),b,Result.andThen_ok]
 rfl
theorem Jx {α:Type} {E:TypeId} {R:Rep α} {v:Value} {xs:List α} {l h n:Nat} (f:(aw E R).rd I [v] xs) (h1:l<=h) (s:h<=xs.length) (r:R.size=n):(aw E R).rd I [rL v l h n] ((xs.take h).drop l):=by
 have ⟨g,cap,hv,⟨m,j⟩,d⟩:=f;obtain rfl:v= .slice g xs.length cap:=by grind
 have e:((xs.take h).drop l).length=h - l:=by rw[bP,aB];omega
 by_cases c:h=l
 ·subst c;have c:(xs.take h).drop h= []:=List.eq_nil_of_length_eq_zero (by omega);rw[c];exact ⟨_,_,by simp only[rL,sliced];rw[Nat.sub_self];rfl,⟨Nat.zero_le _,Nat.zero_le _⟩,.inl rfl⟩
 ·rcases d with rfl | ⟨b,off,a,t,q,rfl,p,k⟩
  ·grind
  ·refine ⟨some ⟨b,off+l*n,none⟩,cap - l,?_,⟨by omega,by omega⟩,.inr ⟨b,off+l*n,a,t,q,rfl,p,fun i x d=>?_⟩⟩
   ·grind[rL,sliced,Addr.add_mid]
   grind
theorem Jy {α:Type} {E:TypeId} {R:Rep α} {v:Value} {xs:List α} {l n:Nat} (b:(aw E R).rd I [v] xs) (h1:l<=xs.length) (a:R.size=n):(aw E R).rd I [rL v l xs.length n] (xs.drop l):=by
 have:=Jx b h1 (aL _) a
 grind
theorem Q5 {α:Type} {E:TypeId} {R:Rep α} {v:Value} {xs:List α} {h n:Nat} (b:(aw E R).rd I [v] xs) (h1:h<=xs.length) (a:R.size=n):(aw E R).rd I [rL v 0 h n] (xs.take h):=by
 have:=Jx b (Nat.zero_le h) h1 a
 grind
theorem mw {α:Type} {enc:α->Value} {h1: ∀a,(enc a).oneCell'=true} : ∀ {xs:List α} {cur:List Value} {K:List Nat},OwnEls (mu α enc h1) I w cur xs K↔K= [] /\ ∃rest,cur=xs.map enc++rest
 | [],cur,K=>⟨fun h=>⟨h,cur,rfl⟩,fun h=>h.1⟩
 | x::xs,cur,K=>by
  constructor
  ·rintro ⟨c,rest,G,d,rfl,-,rfl,⟨rfl,rfl⟩,b⟩;obtain ⟨rfl,r,rfl⟩:=mw.1 b;simp_all
  ·rintro ⟨rfl,r,rfl⟩;exact ⟨[enc x],xs.map enc++r,[],[],rfl,rfl,rfl,⟨rfl,rfl⟩,mw.2 ⟨rfl,r,rfl⟩⟩
def Fz {α:Type} (xs:List α) (lo:Nat) (ys:List α):List α:=xs.take lo++(ys.take (xs.length - lo)++xs.drop (lo+min ys.length (xs.length - lo)))
def Src (w:World) (u:Value) (cs:List Value):Prop:= ∃ao cap,u= .slice ao cs.length cap/\(cs= [] \/ ∃a,ao=some a/\ ∀j v,cs[j]? =some v->w.cell? (a.add j)=some v)
theorem Src.take {u:Value} {cs:List Value} (h:Src w u cs) (n:Nat):n<=cs.length-> ∃b cap,u= .slice b cs.length cap/\(cs.take n= [] \/ ∃a,b=some a/\ ∀j v,(cs.take n)[j]? =some v->w.cell? (a.add j)=some v):=by
 have ⟨b,cap,d,c⟩:=h;grind
theorem Src.of_rd {α:Type} {E:TypeId} {enc:α->Value} {h1: ∀a,(enc a).oneCell'=true} {u:Value} {ys:List α} {f:List Ch} (hs:St I w0 w f) (h:(aw E (mu α enc h1)).rd I [u] ys):Src w u (ys.map enc):=by
 obtain ⟨g,cap,s,-,h⟩:=h;obtain rfl:u= .slice g ys.length cap:=by grind
 refine ⟨g,cap,by simp,?_⟩;rcases h with rfl | ⟨b,off,d,t,k,rfl,i,e⟩
 ·grind
 ·refine .inr ⟨_,rfl,fun j v r=>?_⟩;cases l:ys[j]? with
  | none=>grind
  | some y =>
   have ⟨c,p,n,m⟩:=e j y l;obtain rfl:c= [enc y]:=m;have q:w.heap[b]? =some (.cells d t k):=hs.2.1 b _ i;simp_all[mu,Nat.mul_one,Nat.add_zero,List.getElem?_cons_zero,Option.map_some,Option.some.injEq,Addr.add_mid,World.cell?]
theorem FN {dT sT ty elem:TypeId} {g o dLen dCap sLen sCap:Nat} {ao:Option Addr} {cur:Array Value} {t:TypeId} {cs:List Value}
  (k:P.underlying dT=some (.slice elem)) (hs:(P.info? elem).map (·.size)=some 1)
  (p:w.heap[g]? =some (.cells cur t (0,0))) (m:cs.length=Nat.min sLen dLen)
  (b:cs= [] \/ ∃a,ao=some a/\ ∀j v,cs[j]? =some v->w.cell? (a.add j)=some v) (d:o+cs.length<=cur.size) (h1: ∀v∈cs,v.oneCell'=true) :
  (Builtin.copy_ #[dT,sT] ty #[.slice (some ⟨g,o,none⟩) dLen dCap,.slice ao sLen sCap]).run P w =
   .ok (goInt cs.length) (w.setRow g (cur.toList.take o++cs++cur.toList.drop (o+cs.length)).toArray):=by
 rcases b with rfl | ⟨a,rfl,h⟩
 ·have l:=m.symm;have e:(w.setRow g (cur.toList.take o++ [] ++cur.toList.drop (o+([] :List Value).length)).toArray)=w:=by
   have:(cur.toList.take o++ [] ++cur.toList.drop (o+([] :List Value).length)).toArray=cur:=by simp
   rw[this];exact setRow_self w g cur t (0,0) p
  rw[e];cases c:P.info? elem with
  | none=>grind
  | some i =>
   have f:i.size=1:=by simpa [c] using hs
   cases ao with
   | none=>simp[Builtin.copy_,run_underlying k,Builtin.lenOf,Builtin.firstCells,sizeOf,typeInfo,c,f,l,storeCells]
   | some a =>
    have n:(loadCells a 0).run P w= .ok #[] w:=run_loadCells_list (P:=P) w a [] (by simp);simp[Builtin.copy_,run_underlying k,Builtin.lenOf,Builtin.firstCells,sizeOf,typeInfo,c,f,l,storeCells,n]
 grind[run_copy_row]
theorem yN {α:Type} {E dT sT:TypeId} {enc:α->Value} {h1: ∀a,(enc a).oneCell'=true} {x y:Operand} {v r u:Value} {xs ys:List α} {lo:Nat} (hT:P.underlying dT=some (.slice E)) (hE:(P.info? E).map (·.size)=some 1)
  (W:o.op= .call { callee:=.builtin .copy,args:= #[x,y],argTypes:= #[dT,sT] }) (hx:ev x=r) (hy:ev y=u) (hlo:lo<=xs.length) (hd:(r=v/\lo=0)\/r=rL v lo xs.length 1)
  (A: ∀w C,St I w0 w (Ch.own (aw E (mu α enc h1)) [v] xs::C)->Src w u (ys.map enc)) :
  OpT P I w0 o ev [Ch.own (aw E (mu α enc h1)) [v] xs] (· = .int .i64 (min ys.length (xs.length - lo):Nat)) (fun _=>[Ch.own (aw E (mu α enc h1)) [v] (Fz xs lo ys)]):=by
 intro w C hs;obtain ⟨ao,f,rfl,hc⟩:=A w C hs;have hk:min ys.length (xs.length - lo)<=(ys.map enc).length:=by simp;omega
 have q:=Src.take ⟨ao,f,rfl,hc⟩ _ hk;have ⟨M,p,e0,q⟩:=q;obtain ⟨rfl,rfl⟩:ao=M/\f=p:=by grind
 simp only[execOp,W,hx,hy,resolve,Sem.run_bind,Sem.run_pure,Result.andThen_ok,invoke,builtin];have m:(#[x,y] :Array Operand).map ev= #[r,.slice ao (ys.map enc).length f]:=by simp[hx,hy]
 rw[m];obtain ⟨S,U,F,⟨G,K,rfl,⟨hl,e2⟩,e3⟩,Y,h5⟩:=hs;have B:(Fz xs lo ys).length=xs.length:=by
  simp[Fz,az,aB,bP];omega
 rcases e2 with ⟨hv,rfl,rfl⟩ | ⟨g,d,cap,cur,K1,hv,V,k2,X,Z,rfl,k5⟩
 ·
  obtain rfl:v= .slice none 0 0:=by grind
  obtain rfl:lo=0:=by grind
  have n:r= .slice none 0 0:=by
   rcases hd with ⟨rfl,-⟩ | rfl
   ·rfl
   ·rfl
  subst n;have L:(Builtin.copy_ #[dT,sT] o.type #[.slice none 0 0,.slice ao (ys.map enc).length f]).run P w= .ok (goInt 0) w:=by
   cases hq:P.info? E with
   | none=>grind
   | some i =>
    have U:i.size=1:=by simpa [hq] using hE
    cases ao with
    | none=>simp_all[Builtin.copy_,run_underlying,Builtin.lenOf,Builtin.firstCells,sizeOf,typeInfo,storeCells]
    | some a =>
     have h0:=run_loadCells_list (P:=P) w a [] (by simp);simp_all[Builtin.copy_,run_underlying,Builtin.lenOf,Builtin.firstCells,sizeOf,typeInfo,storeCells]
  rw[L];refine ⟨by simp[goInt],S,U,[] ++K,⟨[],K,rfl,⟨?_,.inl ⟨rfl,?_,rfl⟩⟩,e3⟩,Y,h5⟩
  ·omega
  grind
 ·obtain rfl:v= .slice (some ⟨g,d,none⟩) xs.length cap:=by grind
  have N:d+cap<=cur.size:=by have:d+cap*1<=cur.size:=Z;omega
  obtain ⟨rfl,rest,l⟩:=mw.1 k5;have T:(cur.toList.drop d).length=cur.size - d:=by grind
  have D:(cur.toList.take d).length=d:=by rw[aB,Array.length_toList];omega
  have n: ∃h dCap,r= .slice (some ⟨g,d+h,none⟩) (xs.length - lo) dCap/\(h=lo\/(xs.length - lo=0/\h<=cap)):=by
   rcases hd with ⟨rfl,rfl⟩ | rfl
   ·grind
   ·by_cases hcl:cap=lo
    ·simp_all[rL,sliced]
    grind[rL,sliced,Addr.add_mid]
  obtain ⟨h,dCap,rfl,ho'⟩:=n;have hm:((ys.map enc).take (min ys.length (xs.length - lo))).length=min ys.length (xs.length - lo):=by
   rw[aB,List.length_map];omega
  have L:=FN (P:=P) (w:=w) (dT:=dT) (sT:=sT) (ty:=o.type) (elem:=E) (g:=g) (o:=d+h) (dLen:=xs.length - lo) (dCap:=dCap) (sLen:=(ys.map enc).length) (sCap:=f) (ao:=ao) (cur:=cur) (t:=E) (cs:=(ys.map enc).take (min ys.length (xs.length - lo))) hT hE V
   (by grind) q (by omega) (fun v hv=>by
    grind)
  rw[L,hm];have j:(cur.toList.drop d).take h++(ys.map enc).take (min ys.length (xs.length - lo))++(cur.toList.drop d).drop (h+min ys.length (xs.length - lo))=(Fz xs lo ys).map enc++rest:=by
   by_cases hz:min ys.length (xs.length - lo)=0
   ·rw[hz];have e:Fz xs lo ys=xs:=by
     unfold Fz
     have:ys.take (xs.length - lo)= []:=List.eq_nil_of_length_eq_zero (by grind)
     rw[this,hz,List.nil_append,Nat.add_zero,List.take_append_drop]
    simp_all
   ·have W:h=lo:=by omega
    subst W;rw[l,List.take_append_of_le_length (by grind),List.drop_append_of_le_length (by grind)];grind[Fz,List.map_take,List.map_drop,aC,List.take_eq_take_iff,List.length_map]
  have k:cur.toList.take (d+h)++(ys.map enc).take (min ys.length (xs.length - lo))++cur.toList.drop (d+h+min ys.length (xs.length - lo))=cur.toList.take d++((Fz xs lo ys).map enc++rest):=by
   rw[<-j,List.take_add,Nat.add_assoc,show cur.toList.drop (d+(h+min ys.length (xs.length - lo)))=(cur.toList.drop d).drop (h+min ys.length (xs.length - lo)) from by rw[List.drop_drop]];simp[aC]
  rw[k];have hsz:(cur.toList.take d++((Fz xs lo ys).map enc++rest)).length=cur.size:=by
   have:=congrArg List.length l
   rw[az,List.length_map] at this;rw[az,D,az,List.length_map,B];omega
  have Q:St I w0 w (Ch.own (aw E (mu α enc h1)) [.slice (some ⟨g,d,none⟩) xs.length cap] xs::C):=⟨S,U,[g] ++K,⟨[g],K,rfl,⟨hl,.inr ⟨g,d,cap,cur,[],rfl,V,k2,X,Z,rfl,k5⟩⟩,e3⟩,Y,h5⟩
  have:=St.step (w:=w) (c:=[Ch.own (aw E (mu α enc h1)) [.slice (some ⟨g,d,none⟩) xs.length cap] xs]) (c':=[Ch.own (aw E (mu α enc h1)) [.slice (some ⟨g,d,none⟩) xs.length cap] (Fz xs lo ys)]) (w':=w.setRow g (cur.toList.take d++((Fz xs lo ys).map enc++rest)).toArray) Q rfl rfl rfl (by simp_all) (by
   rintro F ⟨G2,K2,rfl,⟨hl',O⟩,rfl⟩ - -;rcases O with ⟨H,-,-⟩ | ⟨g',s,z,cur',K1',H,k1',k2',k3',N,rfl,R⟩
   ·grind
   obtain ⟨⟨rfl,rfl⟩,rfl⟩:(g=g'/\d=s)/\cap=z:=by grind
   obtain ⟨rfl,-⟩:=mw.1 R;refine ⟨fun b S hn=>?_,[g],⟨[g],[],rfl,⟨by omega,.inr ⟨g,d,cap,(cur.toList.take d++((Fz xs lo ys).map enc++rest)).toArray,[],by rw[B],setRow_heap w g cur _ E _ V,by omega,X,?_,rfl,mw.2 ⟨rfl,rest,List.drop_left' D⟩⟩⟩,rfl⟩,by simp,by simp⟩
   ·grind[World.setRow]
   grind)
  exact ⟨rfl,this⟩
theorem HZ {α:Type} {E E' dT sT:TypeId} {enc:α->Value} {h1: ∀a,(enc a).oneCell'=true} {x y:Operand} {v b u:Value} {xs ys:List α} {lo:Nat} (e:(aw E' (mu α enc h1)).rd I [u] ys) (f:P.underlying dT=some (.slice E)) (g:(P.info? E).map (·.size)=some 1)
  (i:o.op= .call { callee:=.builtin .copy,args:= #[x,y],argTypes:= #[dT,sT] }) (k:ev x=b) (j:ev y=u) (c:lo<=xs.length) (h:(b=v/\lo=0)\/b=rL v lo xs.length 1) :
  OpT P I w0 o ev [Ch.own (aw E (mu α enc h1)) [v] xs] (· = .int .i64 (min ys.length (xs.length - lo):Nat)) (fun _=>[Ch.own (aw E (mu α enc h1)) [v] (Fz xs lo ys)]):=
 yN f g i k j c h fun w C d=>Src.of_rd d e
theorem D7 {α:Type} {E dT sT:TypeId} {enc:α->Value} {h1: ∀a,(enc a).oneCell'=true} {x y:Operand} {v c:Value} {xs:List α} {lo hi:Nat} (l:P.underlying dT=some (.slice E)) (n:(P.info? E).map (·.size)=some 1)
  (r:o.op= .call { callee:=.builtin .copy,args:= #[x,y],argTypes:= #[dT,sT] }) (t:ev x=c) (s:ev y=rL v 0 hi 1) (e:lo<=xs.length) (m:hi<=xs.length) (q:(c=v/\lo=0)\/c=rL v lo xs.length 1) :
  OpT P I w0 o ev [Ch.own (aw E (mu α enc h1)) [v] xs] (· = .int .i64 (min (xs.take hi).length (xs.length - lo):Nat)) (fun _=>[Ch.own (aw E (mu α enc h1)) [v] (Fz xs lo (xs.take hi))]):=by
 refine yN l n r t s e q fun w C h=>?_;obtain ⟨z,f,F,⟨G,K,rfl,⟨N,p⟩,Q⟩,B,D⟩:=h;rcases p with ⟨hv,rfl,rfl⟩ | ⟨g,d,cap,cur,M,hv,k,O,A,H,rfl,i⟩
 ·obtain rfl:v= .slice none 0 0:=by grind
  obtain rfl:hi=0:=by grind
  exact ⟨none,0,rfl,.inl (by simp)⟩
 ·obtain ⟨rfl,rest,b⟩:=mw.1 i;refine ⟨some ⟨g,d,none⟩,cap,by grind[rL,sliced,Addr.add_mid],.inr ⟨_,rfl,fun j u L=>?_⟩⟩;simp[Addr.add_mid,World.cell?,k];rw[<-Array.getElem?_toList,<-List.getElem?_drop,b];grind
section
variable {n:Nat} {a:Act} {L:List (Nat×Value)} {Q:Exit->Act->World->Prop} {ops:Array Oper} {rest:List Oper} {C C0 rn_:List Ch} {v:Value} {g d:Nat} {want b:Bool} {fact:Value->Prop} {gv:Value->List Ch}
theorem rn {l:List Oper} (c:Agr n a L) (hs:St I w0 w C) (k: ∀a w,Agr n a L->St I w0 w C->wpList P ops Q l a w):wpList P ops Q l a w:=k a w c hs
end
theorem Yh {T:TypeId} {agg:Bool} (h:TI P T agg 1):(P.info? T).map (·.size)=some 1:=h.2
end
def fH:Nat:=(cast (congrArg (fun p:Prop=> {n:Nat // p}) (propext ⟨fun _=>rfl,fun _=>trivial⟩:True=((0:Nat)=0))) (⟨aT,trivial⟩: {n:Nat // True}): {n:Nat // (0:Nat)=0}).1
theorem Q6:fH=aT:=by
 have key: ∀(p q:Prop) (h:p=q) (x: {n:Nat // p}),(cast (congrArg (fun p:Prop=> {n:Nat // p}) h) x).1=x.1:=by
  intro p q h x;subst h
  rfl
 exact key True ((0:Nat)=0) (propext ⟨fun _=>rfl,fun _=>trivial⟩) ⟨aT,trivial⟩
inductive Tr (α:Type)
 | nil
 | node (a:α) (kids:List (Tr α))
def Tr.get {α:Type} :Tr α->Option (α×List (Tr α))
 | .nil=>none
 | .node a ks=>some (a,ks)
def Tr.isNil {α:Type} :Tr α->Bool
 | .nil=>true
 | .node _ _=>false
def Kids (I:Hp) (v:Value) (n:Nat) (cc:Nat->Value):Prop:= ∃ao cap,v= .slice ao n cap/\(n<=lim/\n<=cap)/\(n=0\/ ∃g off ccs t fr,ao=some ⟨g,off,none⟩/\I g=some (.cells ccs t fr)/\ ∀i,i<n->ccs.toList[off+i]? =some (cc i))
theorem Kids.mono {I J:Hp} {v:Value} {n:Nat} {cc:Nat->Value} (h:Kids I v n cc) (k:I.le J):Kids J v n cc:=by
 have ⟨l,cap,e,i,b⟩:=h;refine ⟨l,cap,e,i,?_⟩;rcases b with b | ⟨g,off,a,t,j,d,f,c⟩
 ·omega
 ·exact .inr ⟨g,off,a,t,j,d,k _ _ f,c⟩
inductive TreeRd {α:Type} (T:TypeId) (R:Rep α) (I:Hp):Value->Tr α->Prop
 | nil:TreeRd T R I (.pointer none) .nil
 | node {b:Nat} {c:List Value} {v:Value} {a:α} {ks:List (Tr α)} {cc:Nat->Value} (hb:I b=some (.cells (c++ [v]).toArray T (0,0))) (ha:R.rd I c a) (hv:Kids I v ks.length cc)
   (hk: ∀i x,ks[i]? =some x->TreeRd T R I (cc i) x):TreeRd T R I (.pointer (some ⟨b,0,none⟩)) (.node a ks)
section
variable {α:Type} {T E:TypeId} {R:Rep α} {I J:Hp} {w w':World} {v:Value} {x:Tr α} {F:List Nat}
theorem TreeRd.mono (h:TreeRd T R I v x) (a:I.le J):TreeRd T R J v x:=by
 induction h with
 | nil=>exact .nil
 | node hb ha hv hk ih=>exact .node (a _ _ hb) (R.rd_mono ha a) (hv.mono a) ih
theorem TreeRd.one (h:TreeRd T R I v x):v.oneCell'=true:=by cases h <;> rfl
def ov (I:Hp) (w:World) (F:List Nat):Hp:=fun b=>if b∈F then w.heap[b]? else I b
theorem VH (h:I.le J):(ov I w F).le (ov J w F):=fun b o a=>by
 unfold ov at a⊢;split at a
 ·grind
 ·rw[if_neg ‹_›];exact h b o a
theorem VI (h: ∀b,b∈F->w'.heap[b]? =w.heap[b]?):ov I w' F=ov I w F:=funext fun b=>by
 grind[ov]
def wh (T:TypeId) (R:Rep α):Rep (Tr α) where
 size:=1
 rd I cs x:= ∃v,cs= [v] /\TreeRd T R I v x
 own I w cs x F:=(∀b,b∈F->b<w.heap.size)/\ ∃v,cs= [v] /\TreeRd T R (ov I w F) v x
 rd_len:=by rintro I cs x ⟨v,rfl,_⟩;rfl
 rd_one:=by rintro I cs x ⟨v,rfl,h⟩ u hu;obtain rfl:=ak hu;exact h.one
 rd_mono:=by rintro I J cs x ⟨v,rfl,h⟩ hJ;exact ⟨v,rfl,h.mono hJ⟩
 own_len:=by rintro I w cs x F ⟨_,v,rfl,_⟩;rfl
 own_one:=by rintro I w cs x F ⟨_,v,rfl,h⟩ u hu;obtain rfl:=ak hu;exact h.one
 own_mono:=by rintro I J w cs x F ⟨h0,v,rfl,h⟩ hJ;exact ⟨h0,v,rfl,h.mono (VH hJ)⟩
 own_stay:=by
  rintro I w w' cs x F ⟨h0,v,rfl,h⟩ hw
  refine ⟨fun b hb=>?_,v,rfl,by rw[VI hw];exact h⟩
  have hlt:=h0 b hb
  have:w.heap[b]? =some w.heap[b]:=Array.getElem?_eq_getElem hlt
  rw[<-hw b hb] at this
  exact (Array.getElem?_eq_some_iff.1 this).1
 own_live h:=h.1
 own_rd:=by
  rintro I J w cs x F ⟨h0,v,rfl,h⟩ hJ hB
  refine ⟨v,rfl,h.mono fun b o hb=>?_⟩
  unfold ov at hb
  split at hb
  ·rw[hB b ‹_›];exact hb
  ·exact hJ b o hb
def QM (R:Rep α):Rep α where
 size:=R.size
 rd:=R.rd
 own I w cs x F:=(cs.length=R.size/\ ∀u∈cs,u.oneCell'=true)/\(∀b,b∈F->b<w.heap.size)/\ ∀J:Hp,I.le J->(∀b,b∈F->J b=w.heap[b]?)->R.rd J cs x
 rd_len:=R.rd_len
 rd_one:=R.rd_one
 rd_mono:=R.rd_mono
 own_len h:=h.1.1
 own_one h:=h.1.2
 own_mono h hJ:=⟨h.1,h.2.1,fun K hK hB=>h.2.2 K (hJ.trans hK) hB⟩
 own_stay:=by
  rintro I w w' cs x F ⟨h0,h1,h⟩ hw
  refine ⟨h0,fun b hb=>?_,fun J hJ hB=>h J hJ fun b hb=>by rw[hB b hb,hw b hb]⟩
  have hlt:=h1 b hb
  have:w.heap[b]? =some w.heap[b]:=Array.getElem?_eq_getElem hlt
  rw[<-hw b hb] at this
  exact (Array.getElem?_eq_some_iff.1 this).1
 own_live h:=h.2.1
 own_rd h hJ hB:=h.2.2 _ hJ hB
theorem VJ {R:Rep α} {cs:List Value} {x:α} {F:List Nat} (h:R.own I w cs x F):(QM R).own I w cs x F:=
 ⟨⟨R.own_len h,R.own_one h⟩,R.own_live h,fun J a b=>R.own_rd h a b⟩
theorem TV {R:Rep α} {cs:List Value} {x:α} (h:R.rd I cs x):(QM R).own I w cs x []:=
 ⟨⟨R.rd_len h,R.rd_one h⟩,fun b a=>(by cases a),fun J c _=>R.rd_mono h c⟩
theorem VK {R:Rep α} {ls:List Ch} {cs:List Value} {x:α} (h:Bun I ls R cs x):Bun I ls (QM R) cs x:=fun w F a=>VJ (h w F a)
theorem VL {R:Rep α} {c:List Value} {x:α} (h: ∀I,R.rd I c x):Zro (QM R) c x:=fun I w=>TV (h I)
theorem OwnEls.turn {R S:Rep α} (hs:R.size=S.size) (h: ∀c x G,R.own I w c x G->S.own I w c x G): ∀ {xs:List α} {cur:List Value} {F:List Nat},OwnEls R I w cur xs F->OwnEls S I w cur xs F
 | [],cur,F,h0=>h0
 | y::xs,cur,F,⟨c,rest,G,K,h1,h2,h3,h4,h5⟩=>⟨c,rest,G,K,h1,by omega,h3,h _ _ _ h4,OwnEls.turn hs h h5⟩
theorem M7 {R:Rep α} {J:Hp} (d:I.le J): ∀ {xs:List α} {cur:List Value} {F:List Nat},(∀b,b∈F->J b=w.heap[b]?)->OwnEls (QM R) I w cur xs F->OwnEls (zz R) J w cur xs []
 | [],cur,F,_,h0=>rfl
 | y::xs,cur,F,hB,⟨c,rest,G,K,h1,h2,h3,h4,h5⟩=>by
  subst h3;exact ⟨c,rest,[],[],h1,h2,rfl,⟨rfl,h4.2.2 J d fun b a=>hB b (bm _ a)⟩,M7 d (fun b a=>hB b (bq _ a)) h5⟩
theorem St.freeze_els {R:Rep α} {v:List Value} {xs:List α} {cs:List Ch} {w0:World} (h:St I w0 w (Ch.own (aw E (QM R)) v xs::cs)): ∃J,I.le J/\St J w0 w (Ch.own (aw E (zz R)) v xs::cs):=by
 obtain ⟨e,j,F,⟨G,K,rfl,⟨m,z⟩,n⟩,k,t⟩:=h;rcases z with ⟨rfl,rfl,rfl⟩ | ⟨g,i,cap,cur,l,hv,s,A,p,y,rfl,q⟩
 ·exact ⟨I,Hp.le.rfl,e,j,[] ++K,⟨[],K,rfl,⟨m,.inl ⟨rfl,rfl,rfl⟩⟩,n⟩,k,t⟩
 ·let J:=fun b=>if b∈l then w.heap[b]? else I b;have c:I.le J:=fun b o a=>by
   grind
  have d:=k;have f:=fun r=>(List.nodup_cons.1 d).1 (bq _ r);have ⟨C,u,B⟩:=List.nodup_append.1 (List.nodup_cons.1 d).2;refine ⟨J,c,e,fun b o a=>?_,[g] ++K,⟨[g],K,rfl,⟨m,.inr ⟨g,i,cap,cur,[],hv,s,A,p,y,rfl,?_⟩⟩,n.mono c⟩,List.nodup_cons.2 ⟨f,u⟩,fun b a=>?_⟩
  ·have a:(if b∈l then w.heap[b]? else I b)=some o:=a;split at a
   ·exact a
   ·exact j b o a
  ·exact M7 c (fun b e=>if_pos e) q
  grind
theorem Q7:Cpy (wh T R) (wh T R):=by
 rintro I w c x ⟨v,rfl,h⟩;exact ⟨fun b a=>(by cases a),v,rfl,by exact h⟩
theorem Q8:Zro (wh T R) [.pointer none] .nil:=fun I w=>⟨fun b a=>(by cases a),_,rfl,.nil⟩
theorem M8 {f:List (Tr α)} :(aw E (wh T R)).rd I [v] f↔ ∃d,Kids I v f.length d/\ ∀i x,f[i]? =some x->TreeRd T R I (d i) x:=by
 constructor
 ·rintro ⟨k,cap,e,l,h⟩;obtain rfl:v= .slice k f.length cap:=by grind
  rcases h with rfl | ⟨b,off,a,t,n,rfl,A,p⟩
  ·exact ⟨fun _=>undef,⟨k,cap,rfl,l,.inl rfl⟩,fun i x m=>by grind⟩
  ·refine ⟨fun i=>(a.toList[off+i]?).getD undef,⟨_,cap,rfl,l,.inr ⟨b,off,a,t,n,rfl,A,fun i y=>?_⟩⟩,fun i x m=>?_⟩
   ·have ⟨c,B,z,o⟩:=p i f[i] (List.getElem?_eq_getElem y);simp_all[wh]
   ·have ⟨c,B,z,o⟩:=p i x m;obtain ⟨u,rfl,o⟩:=o;simp_all[wh,undef]
 ·rintro ⟨d,⟨k,cap,rfl,l,h⟩,r⟩;refine ⟨k,cap,rfl,l,?_⟩;rcases h with h | ⟨g,off,a,t,n,q,s,C⟩
  ·grind
  ·refine .inr ⟨g,off,a,t,n,q,s,fun i x m=>⟨[d i],rfl,fun j D=>?_,d i,rfl,r i x m⟩⟩;grind[List.getElem?_eq_some_iff,wh]
theorem Jz {p:α×List (Tr α)} (h:(wh T R).rd I [v] x) (a:x.get=some p): ∃b,v= .pointer (some ⟨b,0,none⟩)/\ ∃cells:List Value,I b=some (.cells cells.toArray T (0,0))/\(si R (aw E (wh T R))).rd I cells p:=by
 have ⟨u,e,h⟩:=h;obtain rfl:v=u:=by grind
 cases h with
 | nil=>cases a
 | node hb ha hv hk =>
  cases ae a;exact ⟨_,rfl,_,hb,_,_,rfl,ha,M8.2 ⟨_,hv,hk⟩⟩
theorem Q9 (h:(wh T R).rd I [v] x): ∃a:Option Addr,v= .pointer a/\a.isNone=x.isNil:=by
 have ⟨u,e,h⟩:=h;obtain rfl:v=u:=by grind
 cases h <;> exact ⟨_,rfl,rfl⟩
theorem M9 {b:Nat} {c:List Value} {u:Value} {a:α} {d:List (Tr α)} (e:I b=some (.cells (c++ [u]).toArray T (0,0))) (f:R.rd I c a) (i:(aw E (wh T R)).rd I [u] d):(wh T R).rd I [.pointer (some ⟨b,0,none⟩)] (.node a d):=by
 have ⟨j,h,g⟩:=M8.1 i;exact ⟨_,rfl,.node e f h g⟩
def only (I:Hp) (L:List Nat):Hp:=fun b=>if b∈L then I b else none
theorem oG {L M:List Nat} (h: ∀b,b∈L->b∈M):(only I L).le (only I M):=fun b o a=>by
 simp_all[only,if_pos]
def Rep.Fin {α:Type} (R:Rep α):Prop:= ∀ {I:Hp} {cs:List Value} {x:α},R.rd I cs x-> ∃L,R.rd (only I L) cs x
theorem Kids.fin {n:Nat} {cc:Nat->Value} (h:Kids I v n cc): ∃L,Kids (only I L) v n cc:=by
 have ⟨e,cap,d,c,b⟩:=h;rcases b with b | ⟨g,off,a,t,j,f,k,i⟩
 ·exact ⟨[],e,cap,d,c,.inl b⟩
 ·exact ⟨[g],e,cap,d,c,.inr ⟨g,off,a,t,j,f,by simp_all[only,if_pos],i⟩⟩
theorem TreeRd.fin (m:R.Fin) (h:TreeRd T R I v x): ∃L,TreeRd T R (only I L) v x:=by
 induction h with
 | nil=>exact ⟨[],.nil⟩
 | @node b c v a ks cc f ha hv hk ih =>
  have ⟨l,j⟩:=m ha;have ⟨r,q⟩:=hv.fin;have key: ∀n,∃L,∀i x,i<n->ks[i]? =some x->TreeRd T R (only I L) (cc i) x:=by
   intro n;induction n with
   | zero=>simp_all
   | succ n ihn =>
    have ⟨L,p⟩:=ihn;cases g:ks[n]? with
    | none=>exact ⟨L,fun i x o d=>by
      grind⟩
    | some y =>
     have ⟨M,k⟩:=ih n y g;refine ⟨L++M,fun i x o d=>?_⟩;by_cases e:i=n
     ·subst e;rw[g] at d;cases ae d;exact k.mono (oG fun b f=>by grind)
     ·exact (p i x (by omega) d).mono (oG fun b f=>by grind)
  have ⟨s,t⟩:=key ks.length;refine ⟨b::(l++(r++s)),.node (cc:=cc) (by simp_all[only,if_pos]) (R.rd_mono j (oG fun b f=>by grind)) (q.mono (oG fun b f=>by grind)) fun i x g=>?_⟩;grind[List.getElem?_eq_some_iff,mono,oG]
theorem D8 {enc:α->Value} {h1: ∀a,(enc a).oneCell'=true} :(mu α enc h1).Fin:=fun h=>⟨[],h⟩
theorem Ra {α β:Type} {A:Rep α} {B:Rep β} (h:A.Fin) (k:B.Fin):(si A B).Fin:=by
 rintro I j x ⟨c,d,rfl,g,i⟩;have ⟨L,e⟩:=h g;have ⟨M,f⟩:=k i;exact ⟨L++M,c,d,rfl,A.rd_mono e (oG fun b a=>by grind),B.rd_mono f (oG fun b a=>by grind)⟩
def TW:List Nat->List Nat
 | [] =>[]
 | a::l=>if a∈TW l then TW l else a::TW l
theorem zQ {b:Nat} : ∀ {l:List Nat},b∈TW l↔b∈l
 | [] =>Iff.rfl
 | a::l=>by
  unfold TW;split
  ·rename_i h;rw[zQ,List.mem_cons];exact ⟨.inr,fun k=>k.elim (fun e=>by rw[e];exact zQ.1 h) id⟩
  ·rw[List.mem_cons,List.mem_cons,zQ]
theorem xG: ∀ {l:List Nat},(TW l).Nodup
 | [] =>List.nodup_nil
 | a::l=>by
  unfold TW;split
  ·exact xG
  ·exact List.nodup_cons.2 ⟨‹_›,xG⟩
def Ch.recl (c:Ch):Prop:= ∀ {I J:Hp} {w:World} {F:List Nat},I.le J->J.le (hp w)->c.holds J w F->(∀b,b∈F->J b=none)-> ∃L,(∀b,b∈L->I b=none/\J b≠none)/\L.Nodup/\c.holds I w (F++L)
theorem Na (e:R.Fin) {cs:List Value} :(Ch.own (wh T R) cs x).recl:=by
 rintro I J w F i d ⟨l,v,rfl,h⟩ j;have ⟨L,k⟩:=h.fin e;let M:=TW (L.filter fun b=>(I b).isNone&&(J b).isSome);have c: ∀b,b∈M↔b∈L/\I b=none/\J b≠none:=fun b=>by
  simp[M,zQ,List.mem_filter,aj,Option.isNone_iff_eq_none,Option.isSome_iff_ne_none]
 refine ⟨M,fun b a=>((c b).1 a).2,xG,fun b a=>?_,v,rfl,k.mono fun b o a=>?_⟩
 ·rcases aG a with a | a
  ·grind
  ·have ⟨o,g⟩:=Option.ne_none_iff_exists'.1 ((c b).1 a).2.2;exact (Array.getElem?_eq_some_iff.1 (d b o g)).1
 ·unfold only at a;split at a
  ·unfold ov at a⊢;split at a
   ·grind
   ·cases f:I b with
    | none =>
     rw[if_pos (by grind)];exact d b o a
    | some o' =>
     rw[if_neg (by grind)];rw[<-i b o' f,a] at *
  grind
end
def Ch.back:List Ch->Prop
 | [] =>True
 | c::cs=>(c.deep/\Ch.back cs)\/(c.recl/\Ch.deeps cs)
theorem Ch.back_deeps: ∀ {cs:List Ch},Ch.deeps cs->Ch.back cs
 | [],_=>trivial
 | c::cs,h=>.inl ⟨h.1,back_deeps h.2⟩
theorem St.back {I J:Hp} {w0 w:World} {cs:List Ch} (f:I.le J): ∀ {ds:List Ch},Ch.back ds->St J w0 w (ds++ [Ch.fr I cs])->St I w0 w (ds++cs):=by
 intro ds n ⟨a,t,F,z,u,s⟩;obtain ⟨G,K,rfl,E,l,M,rfl,C,rfl⟩:=z.split;rw[List.append_nil] at u s;have H: ∀b,J b=none->I b=none:=fun b a=>by
  cases D:I b with
  | none=>rfl
  | some o=>rw[f b o D] at a;cases a
 have key: ∀ {ds:List Ch} {G:List Nat},Ch.back ds->Sep J ds w G->(∀b,b∈G->J b=none)-> ∃L,(∀b,b∈L->I b=none/\J b≠none)/\L.Nodup/\ ∃d,d.Perm (G++L)/\Sep I ds w d:=by
  intro ds;induction ds with
  | nil=>intro G _ h _;exact ⟨[],fun b a=>(by cases a),List.nodup_nil,G,by simp,h⟩
  | cons c ds ih =>
   rintro G n ⟨i,p,rfl,q,v⟩ r;rcases n with ⟨hd1,e⟩ | ⟨hd1,e⟩
   ·have ⟨L,j,g,d,k,m⟩:=ih e v fun b a=>r b (bq _ a);exact ⟨L,j,g,i++d,by grind,i,d,rfl,hd1 q,m⟩
   ·have ⟨L,j,g,k⟩:=hd1 f t q fun b a=>r b (bm _ a);refine ⟨L,j,g,(i++L)++p,?_,i++L,p,rfl,k,v.deeps e⟩;grind
 have ⟨L,j,g,d,k,m⟩:=key n E fun b a=>s b (bm _ a);have hp:(d++l).Perm ((G++l)++L):=(k.append_right l).trans (by
  grind)
 refine ⟨a,f.trans t,d++l,m.append C,hp.nodup_iff.2 (List.nodup_append.2 ⟨u,g,fun b A c x y=>?_⟩),fun b B=>?_⟩
 ·grind
 grind
structure LayW (P:Program) (w:World):Prop where
 tab:Lib.TabIs P w "internal/strconv.uint64pow10" .u64 Lib.pow10Tab
def Lay (P:Program) (J:Hp):Prop:= ∀w:World,J.le (hp w)->LayW P w
theorem Lay.mono {P:Program} {J J':Hp} (h:Lay P J) (b:J.le J'):Lay P J':=fun w a=>h w (b.trans a)
theorem Yi {P:Program} {W w:World} {n:String} {cs:Array Value} (b:(hp W).le (hp w)) (h:W.var? P n=some cs):w.var? P n=some cs:=by
 unfold World.var? at h⊢;obtain ⟨g,d,h⟩:=Option.bind_eq_some_iff.1 h;rw[d];show (match w.heap[g]? with | some (.cells cs _ _)=>some cs | _=>none)=some cs;split at h
 ·rename_i c t f a
  have:w.heap[g]? =some (.cells c t f):=b g _ a
  rw[this];exact h
 ·cases h
theorem Lay.of {P:Program} {W:World} (h:LayW P W):Lay P (hp W):=fun w a=>⟨Yi a h.tab⟩
end D
namespace R
open Go.RowKit
open D
inductive Ty
 | int (k:IntKind) | bool | str | raw
 | prod (a b:Ty)
 | sl (E:TypeId) (t:Ty)
 | fro (t:Ty)
 | wr (t:Ty)
 | tree (T E:TypeId) (t:Ty)
 | bag (t:Ty)
 deriving DecidableEq
abbrev Raw:= {v:Value // v.oneCell'=true}
def HL:Rep Raw:=mu Raw (·.1) (·.2)
def Ty.den:Ty->Type
 | .int _=>Int
 | .bool=>Bool
 | .str=>ByteArray
 | .raw=>Raw
 | .prod a b=>a.den×b.den
 | .sl _ t=>List t.den
 | .fro t=>t.den
 | .wr t=>t.den
 | .tree _ _ t=>Tr t.den
 | .bag t=>t.den
def Ty.size:Ty->Nat
 | .prod a b=>a.size+b.size
 | .fro t=>t.size
 | .wr t=>t.size
 | .bag t=>t.size
 | _=>1
def Ty.isProd:Ty->Bool
 | .prod _ _=>true
 | .fro t=>t.isProd
 | .wr _=>true
 | .bag t=>t.isProd
 | _=>false
def Ty.rep:(t:Ty)->Rep t.den
 | .int k=>mu Int (.int k) fun _=>rfl
 | .bool=>MS
 | .str=>QI
 | .raw=>HL
 | .prod a b=>si a.rep b.rep
 | .sl E t=>aw E t.rep
 | .fro t=>zz t.rep
 | .wr t=>t.rep
 | .tree T _ t=>wh T t.rep
 | .bag t=>QM t.rep
def Ty.erase:Ty->Ty
 | .prod a b=>.prod a.erase b.erase
 | .sl _ t=>.sl 0 t.erase
 | .fro t=>t.erase
 | .bag t=>t.erase
 | .wr t=>.wr t.erase
 | t=>t
theorem Ty.rep_size: ∀t:Ty,t.rep.size=t.size
 | .int _=>rfl
 | .bool=>rfl
 | .str=>rfl
 | .raw=>rfl
 | .prod a b=>by show a.rep.size+b.rep.size=_;rw[rep_size a,rep_size b];rfl
 | .sl _ _=>rfl
 | .fro t=>rep_size t
 | .wr t=>rep_size t
 | .tree _ _ _=>rfl
 | .bag t=>rep_size t
theorem Ty.size_pos: ∀t:Ty,0<t.size
 | .int _=>Nat.one_pos
 | .bool=>Nat.one_pos
 | .str=>Nat.one_pos
 | .raw=>Nat.one_pos
 | .prod a b=>Nat.add_pos_left (size_pos a) _
 | .sl _ _=>Nat.one_pos
 | .fro t=>size_pos t
 | .wr t=>size_pos t
 | .tree _ _ _=>Nat.one_pos
 | .bag t=>size_pos t
abbrev Pk:=(α:Type)×(Nat×(Hp->List Value->α->Prop))
def Ty.pk (t:Ty):Pk:=⟨t.den,t.rep.size,t.rep.rd⟩
def TX (p q:Pk):Pk:=⟨p.1×q.1,p.2.1+q.2.1,fun I cs x=> ∃c d,cs=c++d/\p.2.2 I c x.1/\q.2.2 I d x.2⟩
def abA (p : Pk) : Pk := ⟨List p.1, 1, fun I cs xs => ∃ ao cap, cs = [.slice ao xs.length cap] /\ (xs.length <= lim /\ xs.length <= cap) /\ (xs = [] \/ ∃ b off ccs t fr, ao = some ⟨b, off, none⟩ /\ I b = some (.cells ccs t fr) /\
    ∀ i x, xs[i]? = some x -> ∃ c : List Value, c.length = p.2.1 /\ (∀ j, j < p.2.1 -> ccs.toList[off + i * p.2.1 + j]? = c[j]?) /\ p.2.2 I c x)⟩
theorem Ty.pk_erase: ∀t:Ty,t.erase.pk=t.pk
 | .int _=>rfl
 | .bool=>rfl
 | .str=>rfl
 | .raw=>rfl
 | .prod a b=>by
  show TX a.erase.pk b.erase.pk=TX a.pk b.pk;rw[pk_erase a,pk_erase b]
 | .sl _ t=>by
  show abA t.erase.pk=abA t.pk;rw[pk_erase t]
 | .fro t=>pk_erase t
 | .wr t=>pk_erase t
 | .tree _ _ _=>rfl
 | .bag t=>pk_erase t
theorem Ty.pk_eq {t u:Ty} (h:t.erase=u.erase):t.pk=u.pk:=by grind[pk_erase]
def oH (t u:Ty) (d:t.den):Option u.den:=if h:t.erase=u.erase then some (cast (congrArg Sigma.fst (Ty.pk_eq h)) d) else none
theorem VM {p q:Pk} (h:p=q) {I:Hp} {cs:List Value} {d:p.1} (a:p.2.2 I cs d):q.2.2 I cs (cast (congrArg Sigma.fst h) d):=by subst h;exact a
theorem iZ {t u:Ty} {d:t.den} {a:u.den} (h:oH t u d=some a) {J:Hp} {cs:List Value} (c:t.rep.rd J cs d):u.rep.rd J cs a:=by
 unfold oH at h;split at h
 ·rename_i b;cases ae h;exact VM (Ty.pk_eq b) c
 grind
def oJ (t u:Ty) (d:t.den):Option u.den:=if h:t=u then some (h ▸ d) else none
theorem oK {t u:Ty} {d:t.den} {a:u.den} (h:oJ t u d=some a): ∃e:t=u,a=e ▸ d:=by
 grind[oJ,ae]
def Ty.sh:Ty->Bool
 | .prod a b=>a.sh&&b.sh
 | .sl _ _=>false
 | .fro _=>true
 | .wr t=>t.sh
 | .tree _ _ _=>false
 | .bag _=>false
 | _=>true
theorem Ty.sh_ok: ∀ {t:Ty},t.sh=true->t.rep.Sh
 | .int _,_=>D2
 | .bool,_=>Vl
 | .str,_=>X8
 | .raw,_=>D2 (α:=Raw) (enc:=(·.1)) (h1:=(·.2))
 | .prod a b,h=>by
  have h:(a.sh&&b.sh)=true:=h;rw[aj] at h;exact Vk (sh_ok h.1) (sh_ok h.2)
 | .sl _ _,h=>by cases h
 | .fro _,_=>X7
 | .wr t,h=>sh_ok (t:=t) h
 | .tree _ _ _,h=>by cases h
 | .bag _,h=>by cases h
theorem Ty.cpy: ∀ {t:Ty},t.sh=true->Cpy t.rep t.rep
 | .int _,_=>v8
 | .bool,_=>Ju
 | .str,_=>MZ
 | .raw,_=>v8 (α:=Raw) (enc:=(·.1)) (h1:=(·.2))
 | .prod a b,h=>by
  have h:(a.sh&&b.sh)=true:=h;rw[aj] at h;exact QW (cpy h.1) (cpy h.2)
 | .sl _ _,h=>by cases h
 | .fro _,_=>QV
 | .wr t,h=>cpy (t:=t) h
 | .tree _ _ _,h=>by cases h
 | .bag _,h=>by cases h
def dens:List Ty->Type
 | [] =>Unit
 | [t] =>t.den
 | t::u::ts=>t.den×dens (u::ts)
def j4:List Ty->Type
 | [] =>Unit
 | t::ts=>t.den×j4 ts
def toH:(ts:List Ty)->dens ts->j4 ts
 | [],_=>()
 | [_],d=>(d,())
 | _::u::ts,d=>(d.1,toH (u::ts) d.2)
def cur:List Ty->Type->Type
 | [],R=>R
 | t::ts,R=>t.den->cur ts R
def app {R:Type} :(ts:List Ty)->cur ts R->j4 ts->R
 | [],f,_=>f
 | _::ts,f,d=>app ts (f d.1) d.2
def Nb (J:Hp):(ts:List Ty)->List Value->j4 ts->Prop
 | [],vs,_=>vs= []
 | t::ts,vs,d=> ∃v cs r,vs=v::r/\Lds t.isProd cs v/\t.rep.rd J cs d.1/\Nb J ts r d.2
def mo (agg:Bool) (v:Value):List Value:=match agg with
 | true=>v.cells.toList
 | false=>[v]
def xH:(i:Nat)->(ts:List Ty)->j4 ts->Value->List Ch
 | _,[],_,_=>[]
 | i,t::ts,d,v=>Ch.own t.rep (mo t.isProd (vg v [i])) d.1::xH (i+1) ts d.2 v
def resGv:(ts:List Ty)->j4 ts->Value->List Ch
 | [t],d,v=>[Ch.own t.rep (mo t.isProd v) d.1]
 | ts,d,v=>xH 0 ts d v
def oL:Value->Bool
 | .agg _=>true
 | _=>false
def resFa:(ts:List Ty)->Value->Prop
 | [t],v=>oL v=t.isProd
 | ts,v=> ∃vs,v= .tuple vs/\vs.size=ts.length/\ ∀i t,ts[i]? =some t->oL (vs.getD i undef)=t.isProd
def FnOk (P:Program) (w0:World) (J:Hp) (v:Value) (ps rs:List Ty) (e:cur ps (Option (dens rs))):Prop:=
 ∃k first capt,v= .func (.func k) first capt/\Enters P k/\ ∀J',J.le J'-> ∀args d,Nb J' ps args d-> ∀r,app ps e d=some r->Con P k (first.toList++args++capt.toList).toArray J' w0 [] (resFa rs) (resGv rs (toH rs r))
theorem FnOk.mono {P:Program} {w0:World} {J J':Hp} {v:Value} {ps rs:List Ty} {e:cur ps (Option (dens rs))} (h:FnOk P w0 J v ps rs e) (g:J.le J'):FnOk P w0 J' v ps rs e:=by
 have ⟨k,first,a,c,b,d⟩:=h;exact ⟨k,first,a,c,b,fun f h=>d f (g.trans h)⟩
theorem FnOk.one {P:Program} {w0:World} {J:Hp} {v:Value} {ps rs:List Ty} {e:cur ps (Option (dens rs))} (h:FnOk P w0 J v ps rs e):v.oneCell'=true:=by
 obtain ⟨k,first,a,rfl,_⟩:=h;rfl
structure Hdr where
 id:Nat
 path:List Nat
def XP:List Nat->List Nat->Bool
 | [],[] =>true
 | a::l,b::m=>Nat.beq a b&&XP l m
 | _,_=>false
def Hdr.beq (a b:Hdr):Bool:=Nat.beq a.id b.id&&XP a.path b.path
theorem Nc: ∀ {l m:List Nat},XP l m=true->l=m
 | [],[],_=>rfl
 | a::l,b::m,h=>by
  have h:(Nat.beq a b&&XP l m)=true:=h;rw[aj] at h;rw[al h.1,Nc h.2]
 | [],_::_,h=>by cases h
 | _::_,[],h=>by cases h
theorem Hdr.beq_eq {a b:Hdr} (h:a.beq b=true):a=b:=by
 unfold Hdr.beq at h;have ⟨i,p⟩:=a;have ⟨j,q⟩:=b;grind[al,Nc]
inductive LV
 | val (v:Value)
 | nb (b:Bool)
 | rd (h:Hdr) (t:Ty) (d:t.den)
 | own (h:Hdr)
 | ptr (h:Hdr) (off:Nat)
 | fn (h:Hdr) (ps rs:List Ty) (e:cur ps (Option (dens rs)))
 | fz (h:Hdr) (T:TypeId) (t:Ty) (d:t.den) (off:Nat)
 | fzf (h:Hdr) (T:TypeId) (ps rs:List Ty) (e:cur ps (Option (dens rs)))
 | rdn (h:Hdr) (b:Bool) (t:Ty) (d:t.den)
inductive MK
 | int | ii
def MK.den:MK->Type
 | .int=>Int
 | .ii=>Int×Int
def MK.dec:(k:MK)->DecidableEq k.den
 | .int=>(inferInstance:DecidableEq Int)
 | .ii=>(inferInstance:DecidableEq (Int×Int))
def MK.lit:(k:MK)->k.den->Lit
 | .int=>VB
 | .ii=>aaw
def MK.ok:(k:MK)->k.den->Bool
 | .int=>iOk
 | .ii=>ab6
def MK.val:(k:MK)->k.den->Value
 | .int=>fun n:Int=>.int .i64 n
 | .ii=>fun x:Int×Int=>.agg #[.int .i64 x.1,.int .i64 x.2]
inductive ME
 | int | bool
def ME.den:ME->Type
 | .int=>Int
 | .bool=>Bool
def ME.lit:(e:ME)->e.den->Lit
 | .int=>VB
 | .bool=>ab5
def ME.ok:(e:ME)->e.den->Bool
 | .int=>iOk
 | .bool=>bOk
def ME.z:(e:ME)->e.den
 | .int=>(0:Int)
 | .bool=>false
def ME.val:(e:ME)->e.den->Value
 | .int=>fun n:Int=>.int .i64 n
 | .bool=>fun b:Bool=>.bool b
inductive AV
 | one (x:LV)
 | agg (xs:List LV)
 | tup (ys:List (Bool×List LV))
 | elr (h:Hdr) (E:TypeId) (t:Ty) (xs:List t.den) (x:t.den) (i:Int) (off:Nat)
 | elo (h:Hdr) (ver:Nat) (E:TypeId) (t:Ty) (xs:List t.den) (x:t.den) (i:Int) (off:Nat)
 | sub (h:Hdr) (ver:Nat) (E:TypeId) (t:Ty) (xs:List t.den) (l:Int)
 | pre (h:Hdr) (ver:Nat) (E:TypeId) (t:Ty) (xs:List t.den) (l:Int)
 | vw (u h:Hdr) (k n:Nat) (l m:Int)
 | xv (top:Bool) (u h:Hdr) (k n:Nat) (l m:Int)
 | capv (h:Hdr) (c:Nat)
 | any (h:Hdr)
 | und
inductive Chk
 | own (t:Ty) (d:t.den)
 | blk (T:TypeId) (cells:List LV)
 | hole (over:Nat) (t:Ty) (d:t.den) (u:Ty) (y:u.den) (f:u.den->t.den) (i:Int) (k off:Nat) (lv:LV)
 | box (T:TypeId) (t:Ty) (d:t.den)
 | map (K E:TypeId) (k:MK) (e:ME) (m:List (k.den×e.den))
 | clo (k:FuncId) (first:List (Bool×List LV)) (capt:List LV)
abbrev Ent:=Hdr×Nat×Chk
structure Sg where
 env:List (Nat×Nat×AV)
 chs:List Ent
 nxt:Nat
def Ch.gap {α β:Type} (R:Rep α) (cs:List Value) (S:Rep β) (f:β->α) (b off:Nat) (v:Value):Ch where
 holds I w K:=b∈K/\(∃cur E,w.heap[b]? =some (.cells cur E (0,0))/\cur[off]? =some v)/\(∀x,x∈K->x<w.heap.size) /\
  ∀J w' v' y G,I.le J->(∀x,x∈K->x≠b->w'.heap[x]? =w.heap[x]?)->(∀cur E,w.heap[b]? =some (.cells cur E (0,0))->w'.heap[b]? =some (.cells (cur.setIfInBounds off v') E (0,0)))->S.own J w' [v'] y G-> ∃F,F.Perm (G++K)/\R.own J w' cs (f y) F
 mono:=by
  rintro I J w K ⟨h1,h2,h3,h4⟩ hJ
  exact ⟨h1,h2,h3,fun J' w' v' y G hJ'=>h4 J' w' v' y G (hJ.trans hJ')⟩
 stay:=by
  rintro I w w' K ⟨h1,⟨cur,E,h2,h2'⟩,h3,h4⟩ hw
  have hb:w'.heap[b]? =some (.cells cur E (0,0)):=by rw[hw b h1];exact h2
  refine ⟨h1,⟨cur,E,hb,h2'⟩,fun x hx=>?_,fun J w'' v' y G hJ k1 k2=>h4 J w'' v' y G hJ (fun x hx hne=>by rw[k1 x hx hne,hw x hx]) fun cur' E' hc=>k2 cur' E' (by rw[hw b h1];exact hc)⟩
  have hlt:=h3 x hx
  have:w.heap[x]? =some w.heap[x]:=Array.getElem?_eq_getElem hlt
  rw[<-hw x hx] at this
  exact (Array.getElem?_eq_some_iff.1 this).1
 live:=fun h=>h.2.2.1
def Ch.box {α:Type} (b:Nat) (T:TypeId) (R:Rep α) (d:α):Ch where
 holds I w F:= ∃(cells:List Value) (G:List Nat),F=b::G/\w.heap[b]? =some (.cells cells.toArray T (0,0))/\R.own I w cells d G
 mono:=by
  rintro I J w F ⟨cells,G,rfl,h1,h2⟩ hJ
  exact ⟨cells,G,rfl,h1,R.own_mono h2 hJ⟩
 stay:=by
  rintro I w w' F ⟨cells,G,rfl,h1,h2⟩ hw
  exact ⟨cells,G,rfl,by rw[hw b (by simp)];exact h1,R.own_stay h2 fun c hc=>hw c (by simp[hc])⟩
 live:=by
  rintro I w F ⟨cells,G,rfl,h1,h2⟩ c hc
  rcases aA hc with rfl | hc
  ·exact (Array.getElem?_eq_some_iff.1 h1).1
  ·exact R.own_live h2 c hc
def Ch.emp:Ch where
 holds I w F:=F= []
 mono h _:=h
 stay h _:=h
 live:=by rintro I w F rfl b hb;cases hb
theorem St.emp {I:Hp} {w0 w:World} {C:List Ch} :St I w0 w (Ch.emp::C)↔St I w0 w C:=by
 constructor
 ·rintro ⟨c,b,F,⟨G,K,rfl,rfl,e⟩,a,d⟩;exact ⟨c,b,K,e,a,d⟩
 ·rintro ⟨c,b,F,e,a,d⟩;exact ⟨c,b,F,⟨[],F,rfl,rfl,e⟩,a,d⟩
theorem St.box {I:Hp} {w0 w:World} {C:List Ch} {α:Type} {b:Nat} {T:TypeId} {R:Rep α} {d:α} :St I w0 w (Ch.box b T R d::C)↔ ∃cells,St I w0 w (Ch.blk b cells T::Ch.own R cells d::C):=by
 constructor
 ·rintro ⟨g,i,F,⟨G,K,rfl,⟨cells,a,rfl,f,j⟩,e⟩,c,h⟩;exact ⟨cells,g,i,b::(a++K),⟨[b],a++K,rfl,⟨rfl,f⟩,a,K,rfl,j,e⟩,c,h⟩
 ·rintro ⟨cells,g,i,F,⟨G,K,rfl,⟨rfl,f⟩,a,k,rfl,j,e⟩,c,h⟩;exact ⟨g,i,b::(a++k),⟨b::a,k,rfl,⟨cells,a,rfl,f,j⟩,e⟩,c,h⟩
abbrev Th:=Nat->Value
def hv (θ:Th) (h:Hdr):Value:=vg (θ h.id) h.path
def LV.v (θ:Th):LV->Value
 | .val v=>v
 | .nb b=>.bool (!b)
 | .rd h _ _=>hv θ h
 | .own h=>hv θ h
 | .ptr h off=>.pointer (some ⟨bk (hv θ h),off,none⟩)
 | .fn h _ _ _=>hv θ h
 | .fz h _ _ _ off=>.pointer (some ⟨bk (hv θ h),off,none⟩)
 | .fzf h _ _ _ _=>.pointer (some ⟨bk (hv θ h),0,none⟩)
 | .rdn h _ _ _=>hv θ h
def lx (θ:Th) (y:Bool×List LV):Value:=if y.1 then .agg (y.2.map (·.v θ)).toArray else match y.2 with
 | x::_=>x.v θ
 | [] =>undef
def AV.v (θ:Th):AV->Value
 | .one x=>x.v θ
 | .agg xs=>.agg (xs.map (·.v θ)).toArray
 | .tup ys=>.tuple (ys.map (lx θ)).toArray
 | .elr h _ t _ _ i off=>pt (hv θ h) (i.toNat*t.size+off)
 | .elo h _ _ t _ _ i off=>pt (hv θ h) (i.toNat*t.size+off)
 | .sub h _ _ t xs l=>rL (hv θ h) l.toNat xs.length t.size
 | .pre h _ _ t xs l=>rL (hv θ h) 0 l.toNat t.size
 | .vw u _ _ _ _ _=>hv θ u
 | .xv _ u _ _ _ _ _=>hv θ u
 | .capv _ c=>.int .i64 c
 | .any h=>hv θ h
 | .und=>undef
def Vw (u v:Value) (k n:Nat) (l m:Int):Prop:=(v= .slice none 0 0/\u= .slice none 0 0/\n=0/\l=0/\m=0) \/
 ∃g ofs cap x,v= .slice (some ⟨g,ofs,none⟩) n cap/\u= .slice (some ⟨g,ofs+x,none⟩) (m.toNat - l.toNat) (cap - l.toNat)/\0<=l/\l<=m/\n<=cap/\m<=(cap:Int)/\x<=l.toNat*k/\(cap=l.toNat\/x=l.toNat*k)
def QN:Value->Nat
 | .slice _ _ c=>c
 | _=>0
def FO:Value->Bool
 | .slice none _ _=>true
 | _=>false
def LV.ok (P:Program) (w0:World) (J:Hp) (θ:Th) (n:Nat):LV->Prop
 | .val v=>v.oneCell'=true
 | .nb _=>True
 | .rd h t d=>h.id<n/\t.rep.rd J [hv θ h] d
 | .own h=>h.id<n/\(hv θ h).oneCell'=true
 | .ptr h _=>h.id<n
 | .fn h ps rs e=>h.id<n/\FnOk P w0 J (hv θ h) ps rs e
 | .fz h T t d _=>h.id<n/\ ∃cells:List Value,J (bk (hv θ h))=some (.cells cells.toArray T (0,0))/\t.rep.rd J cells d
 | .fzf h T ps rs e=>h.id<n/\ ∃u:Value,J (bk (hv θ h))=some (.cells [u].toArray T (0,0))/\FnOk P w0 J u ps rs e
 | .rdn h b t d=>h.id<n/\t.rep.rd J [hv θ h] d/\FO (hv θ h)=b
def SaysH (x:Chk) (ver:Nat) (c:Chk):Prop:=match x with
 | .hole over t d _ _ _ _ _ _ _=>over=ver/\c= .own t d
 | _=>False
def Says (e:Ent) (h:Hdr) (ver:Nat) (c:Chk):Prop:=e.1=h/\((e.2.1=ver/\c=e.2.2)\/SaysH e.2.2 ver c)
def Mem (chs:List Ent) (n:Nat) (h:Hdr) (ver:Nat) (c:Chk):Prop:=ver<n/\ ∀e,e∈chs-> ∀c',Says e h ver c'->c'=c
def AV.ok (P:Program) (w0:World) (J:Hp) (θ:Th) (n:Nat) (chs:List Ent):AV->Prop
 | .one x=>x.ok P w0 J θ n
 | .agg xs=> ∀x∈xs,x.ok P w0 J θ n
 | .tup ys=> ∀y∈ys,∀x∈y.2,x.ok P w0 J θ n
 | .elr h E t xs x i _=>h.id<n/\aP xs i=some x/\(Ty.sl E t).rep.rd J [hv θ h] xs
 | .elo h ver E t xs x i _=>h.id<n/\aP xs i=some x/\Mem chs n h ver (.own (.sl E t) xs)
 | .sub h ver E t xs l=>h.id<n/\(0<=l/\l<=(xs.length:Int))/\Mem chs n h ver (.own (.sl E t) xs)
 | .pre h ver E t xs l=>h.id<n/\(0<=l/\l<=(xs.length:Int))/\Mem chs n h ver (.own (.sl E t) xs)
 | .vw u h k N l m=>u.id<n/\h.id<n/\Vw (hv θ u) (hv θ h) k N l m/\m<=(N:Int)
 | .xv top u h k N l m=>u.id<n/\h.id<n/\Vw (hv θ u) (hv θ h) k N l m/\(top=true->l=0)
 | .capv h c=>h.id<n/\QN (hv θ h)=c
 | .any h=>h.id<n
 | .und=>True
def toCh (P:Program) (θ:Th) (e:Ent):Ch:=match e.2.2 with
 | .own t d=>Ch.own t.rep [hv θ e.1] d
 | .blk T cells=>Ch.blk (bk (hv θ e.1)) (cells.map (·.v θ)) T
 | .hole _ t _ u _ f i k off lv=>Ch.gap t.rep [hv θ e.1] u.rep f (ptB (hv θ e.1)) (ptO (hv θ e.1)+(i.toNat*k+off)) (lv.v θ)
 | .box T t d=>Ch.box (bk (hv θ e.1)) T t.rep d
 | .map K E k m md=> @Ch.mp P K E k.den m.den k.dec k.lit k.ok m.lit m.z (hv θ e.1) md
 | .clo _ _ _=>Ch.emp
def okE (P:Program) (w0:World) (J:Hp) (θ:Th) (n:Nat) (chs:List Ent) (e:Ent):Prop:=e.1.id<n/\e.2.1<n/\match e.2.2 with
 | .own _ _=>True
 | .blk _ cells=> ∀x∈cells,x.ok P w0 J θ n
 | .hole over t d u y f _ _ _ lv=>lv.ok P w0 J θ n/\over<e.2.1/\f y=d/\ ∀l,lv= .own l->Mem chs n l e.2.1 (.own u y)
 | .box _ _ _=>True
 | .map _ _ _ _ _=>True
 | .clo k first capt=>(∀y∈first,∀x∈y.2,x.ok P w0 J θ n)/\(∀x∈capt,x.ok P w0 J θ n)/\hv θ e.1= .func (.func k) (first.map (lx θ)).toArray (capt.map (·.v θ)).toArray
def envL (θ:Th) (s:Sg):List (Nat×Value):=s.env.map fun e=>(e.1,e.2.2.v θ)
structure Fine (P:Program) (w0:World) (J:Hp) (θ:Th) (s:Sg):Prop where
 env: ∀e∈s.env,e.2.2.ok P w0 J θ s.nxt s.chs
 ver: ∀e∈s.env,e.2.1<s.nxt
 nd:s.env.Pairwise fun a b=>a.2.1≠b.2.1
 chs: ∀e∈s.chs,okE P w0 J θ s.nxt s.chs e
 lay:Lay P J
structure Sim (P:Program) (I:Hp) (w0:World) (F:Ch) (n:Nat) (J:Hp) (θ:Th) (s:Sg) (a:Act) (w:World):Prop where
 le:I.le J
 agr:Agr n a (envL θ s)
 st:St J w0 w (s.chs.map (toCh P θ)++ [F])
 fine:Fine P w0 J θ s
section
variable {P:Program} {w0:World} {J J':Hp} {θ θ':Th} {n m:Nat} {v:Value} {chs chs':List Ent}
theorem LV.one {x:LV} (h:x.ok P w0 J θ n):(x.v θ).oneCell'=true:=by
 cases x with
 | val v=>exact h
 | nb b=>rfl
 | rd h' t d=>exact Rep.rd_one _ h.2 _ (by simp[LV.v])
 | own h'=>exact h.2
 | ptr h' off=>rfl
 | fn h' ps rs e=>exact h.2.one
 | fz _ _ _ _ _=>rfl
 | fzf _ _ _ _ _=>rfl
 | rdn h' b t d=>exact Rep.rd_one _ h.2.1 _ (by simp[LV.v])
theorem FP {v:Value} (h:v.oneCell'=true):v.cells= [v].toArray:=by cases v <;> first | rfl | cases h
def Same (n:Nat) (θ θ':Th):Prop:= ∀i,i<n->θ' i=θ i
theorem Same.upd:Same n θ (upd θ n v):=fun i a=>Jp (by omega)
theorem Same.rfl:Same n θ θ:=fun i a=>Eq.refl _
theorem Same.trans {θ'':Th} (h:Same n θ θ') (k:Same m θ' θ'') (b:n<=m):Same n θ θ'':=fun i a=>(k i (by omega)).trans (h i a)
theorem ba (hs:Same n θ θ') {h:Hdr} (a:h.id<n):hv θ' h=hv θ h:=by unfold hv;rw[hs _ a]
theorem LV.v_same (hs:Same n θ θ') {x:LV} (h:x.ok P w0 J θ n):x.v θ'=x.v θ:=by
 cases x with
 | val _=>rfl
 | nb _=>rfl
 | rd h' t d=>exact ba hs h.1
 | own h'=>exact ba hs h.1
 | ptr h' off=>show Value.pointer (some ⟨bk (hv θ' h'),off,none⟩)=_;rw[ba hs h];rfl
 | fn h' ps rs e=>exact ba hs h.1
 | fz h' T t d off=>show Value.pointer (some ⟨bk (hv θ' h'),off,none⟩)=_;rw[ba hs h.1];rfl
 | fzf h' T ps rs e=>show Value.pointer (some ⟨bk (hv θ' h'),0,none⟩)=_;rw[ba hs h.1];rfl
 | rdn h' b t d=>exact ba hs h.1
theorem LV.ok_same (hs:Same n θ θ') (a:n<=m) {x:LV} (h:x.ok P w0 J θ n) (c:J.le J'):x.ok P w0 J' θ' m:=by
 cases x with
 | val _=>exact h
 | nb _=>trivial
 | rd h' t d=>exact ⟨aD h.1 a,by rw[ba hs h.1];exact Rep.rd_mono _ h.2 c⟩
 | own h'=>exact ⟨aD h.1 a,by rw[ba hs h.1];exact h.2⟩
 | ptr h' off=>exact aD h a
 | fn h' ps rs e=>exact ⟨aD h.1 a,by rw[ba hs h.1];exact h.2.mono c⟩
 | fz h' T t d off =>
  have ⟨f,cells,g,i⟩:=h;exact ⟨aD f a,cells,by rw[ba hs f];exact c _ _ g,Rep.rd_mono _ i c⟩
 | fzf h' T ps rs e =>
  have ⟨f,u,g,i⟩:=h;exact ⟨aD f a,u,by rw[ba hs f];exact c _ _ g,i.mono c⟩
 | rdn h' b t d=>exact ⟨aD h.1 a,by rw[ba hs h.1];exact ⟨Rep.rd_mono _ h.2.1 c,h.2.2⟩⟩
theorem iH (hs:Same n θ θ') {xs:List LV} (h: ∀x∈xs,x.ok P w0 J θ n):xs.map (·.v θ')=xs.map (·.v θ):=List.map_congr_left fun x a=>LV.v_same hs (h x a)
theorem xI (hs:Same n θ θ') {y:Bool×List LV} (a: ∀x∈y.2,x.ok P w0 J θ n):lx θ' y=lx θ y:=by
 unfold lx;rw[iH hs a];split
 ·rfl
 ·cases b:y.2 with
  | nil=>rfl
  | cons x l=>exact LV.v_same hs (a x (by grind))
theorem AV.v_same (hs:Same n θ θ') {x:AV} (h:x.ok P w0 J θ n chs):x.v θ'=x.v θ:=by
 cases x with
 | one x=>exact LV.v_same hs h
 | agg xs=>show Value.agg _=Value.agg _;rw[iH hs h]
 | tup ys =>
  show Value.tuple _=Value.tuple _;congr 2;refine List.map_congr_left fun y a=>?_;exact xI hs (h y a)
 | elr h' E t xs x i off=>show pt (hv θ' h') _=_;rw[ba hs h.1];rfl
 | elo h' ver E t xs x i off=>show pt (hv θ' h') _=_;rw[ba hs h.1];rfl
 | sub h' ver E t xs l=>show rL (hv θ' h') _ _ _=_;rw[ba hs h.1];rfl
 | pre h' ver E t xs l=>show rL (hv θ' h') _ _ _=_;rw[ba hs h.1];rfl
 | vw u h' k N l m=>exact ba hs h.1
 | xv top u h' k N l m=>exact ba hs h.1
 | capv h' c=>rfl
 | any h'=>exact ba hs h
 | und=>rfl
def Newer (n:Nat) (chs chs':List Ent):Prop:= ∀e,e∈chs'-> ∀h ver c,Says e h ver c->n<=ver\/ ∃e0,e0∈chs/\Says e0 h ver c
theorem Newer.rfl:Newer n chs chs:=fun e d h a c b=>.inr ⟨e,d,b⟩
theorem Mem.newer (j:Newer n chs chs') (i:n<=m) {h:Hdr} {ver:Nat} {c:Chk} (k:Mem chs n h ver c):Mem chs' m h ver c:=
 ⟨aD k.1 i,fun e f b d=>by
  rcases j e f h ver b d with a | ⟨l,g,a⟩
  ·have:=k.1;omega
  ·exact k.2 l g b a⟩
theorem AV.ok_same (hs:Same n θ θ') (a:n<=m) (d:Newer n chs chs') {x:AV} (h:x.ok P w0 J θ n chs) (b:J.le J'):x.ok P w0 J' θ' m chs':=by
 cases x with
 | one x=>exact LV.ok_same hs a h b
 | agg xs=>exact fun x e=>LV.ok_same hs a (h x e) b
 | tup ys=>exact fun y f x e=>LV.ok_same hs a (h y f x e) b
 | elr h' E t xs x i off=>exact ⟨aD h.1 a,h.2.1,by rw[ba hs h.1];exact Rep.rd_mono _ h.2.2 b⟩
 | elo h' ver E t xs x i off=>exact ⟨aD h.1 a,h.2.1,h.2.2.newer d a⟩
 | sub h' ver E t xs l=>exact ⟨aD h.1 a,h.2.1,h.2.2.newer d a⟩
 | pre h' ver E t xs l=>exact ⟨aD h.1 a,h.2.1,h.2.2.newer d a⟩
 | vw u h' k N l m=>exact ⟨aD h.1 a,aD h.2.1 a,by rw[ba hs h.1,ba hs h.2.1];exact h.2.2⟩
 | xv top u h' k N l m=>exact ⟨aD h.1 a,aD h.2.1 a,by rw[ba hs h.1,ba hs h.2.1];exact h.2.2⟩
 | capv h' c=>exact ⟨aD h.1 a,by rw[ba hs h.1];exact h.2⟩
 | any h'=>exact aD h a
 | und=>trivial
theorem oM (hs:Same n θ θ') {e:Ent} (h:okE P w0 J θ n chs e):toCh P θ' e=toCh P θ e:=by
 have ⟨k,a,c⟩:=e;cases c with
 | own t d=>show Ch.own _ [hv θ' k] d=_;rw[ba hs h.1];rfl
 | blk T cells=>show Ch.blk (bk (hv θ' k)) (cells.map (·.v θ')) T=_;rw[ba hs h.1,iH hs h.2.2];rfl
 | hole over t d u y f i kk off lv=>show Ch.gap _ [hv θ' k] _ f (ptB (hv θ' k)) (ptO (hv θ' k)+(i.toNat*kk+off)) (lv.v θ')=_;rw[ba hs h.1,LV.v_same hs h.2.2.1];rfl
 | box T t d=>show Ch.box (bk (hv θ' k)) T _ d=_;rw[ba hs h.1];rfl
 | map K E kk e m=>show @Ch.mp P K E kk.den e.den kk.dec kk.lit kk.ok e.lit e.z (hv θ' k) m=_;rw[ba hs h.1];rfl
 | clo _ _ _=>rfl
theorem gy (hs:Same n θ θ') (a:n<=m) (s:Newer n chs chs') {e:Ent} (h:okE P w0 J θ n chs e) (g:J.le J'):okE P w0 J' θ' m chs' e:=by
 have ⟨k,r,c⟩:=e;cases c with
 | own t d=>exact ⟨aD h.1 a,aD h.2.1 a,trivial⟩
 | blk T cells=>exact ⟨aD h.1 a,aD h.2.1 a,fun x b=>LV.ok_same hs a (h.2.2 x b) g⟩
 | hole over t d u y f i kk off lv=>exact ⟨aD h.1 a,aD h.2.1 a,LV.ok_same hs a h.2.2.1 g,h.2.2.2.1,h.2.2.2.2.1,fun l A=>(h.2.2.2.2.2 l A).newer s a⟩
 | box T t d=>exact ⟨aD h.1 a,aD h.2.1 a,trivial⟩
 | map K E kk e m=>exact ⟨aD h.1 a,aD h.2.1 a,trivial⟩
 | clo f first capt =>
  have ⟨p,z,q,o,w⟩:=h;refine ⟨aD p a,aD z a,fun y j x b=>LV.ok_same hs a (q y j x b) g,fun x b=>LV.ok_same hs a (o x b) g,?_⟩;rw[ba hs p,iH hs o,List.map_congr_left fun y j=>xI hs (q y j)];exact w
theorem jH (hs:Same n θ θ') {l:List Ent} (h: ∀e∈l,okE P w0 J θ n chs e):l.map (toCh P θ')=l.map (toCh P θ):=List.map_congr_left fun e a=>oM hs (h e a)
theorem Aq (hs:Same n θ θ') {s:Sg} (h: ∀e∈s.env,e.2.2.ok P w0 J θ n chs):envL θ' s=envL θ s:=List.map_congr_left fun e a=>by grind[AV.v_same]
end
def look (l:List (Nat×Nat×AV)) (t:Nat):Option AV:=match l with
 | [] =>none
 | (u,_,v)::l=>if Nat.beq u t then some v else look l t
def H0 (v:Value):Option AV:=match v.oneCell' with
 | true=>some (.one (.val v))
 | false=>none
def opd (s:Sg):Operand->Option AV
 | .tmp t=>look s.env t
 | .const v=>H0 v
 | .func f=>some (.one (.val (.func (.func f) #[] #[])))
 | .global _=>none
theorem tK {t:Nat} {v:AV} : ∀ {l:List (Nat×Nat×AV)},look l t=some v-> ∃e∈l,e.2.2=v
 | (u,k,x)::l,h=>by
  unfold look at h;split at h
  ·simp_all
  ·have ⟨e,a,b⟩:=tK h;grind
theorem iB {θ:Th} {t:Nat} {v:AV} : ∀ {l:List (Nat×Nat×AV)},look l t=some v->(l.map fun e=>(e.1,e.2.2.v θ)).lookup t=some (v.v θ)
 | (u,k,x)::l,h=>by
  unfold look at h;rw[List.map_cons,List.lookup_cons];split at h
  ·simp_all
  ·rename_i b;have a:(t==u)=false:=by
    simp[beq_eq_false_iff_ne];intro e;subst e;exact b (Nat.beq_refl t)
   rw[show (t==(u,x.v θ).1)=false from a];exact iB h
section
variable {P:Program} {w0:World} {J:Hp} {θ:Th} {s:Sg} {x:Operand} {v:AV}
theorem C7 {c:Value} (h:H0 c=some v):c.oneCell'=true/\v= .one (.val c):=by
 grind[H0,ae]
theorem bN (d:Fine P w0 J θ s) (h:opd s x=some v):v.ok P w0 J θ s.nxt s.chs:=by
 cases x with
 | tmp t=>obtain ⟨e,b,rfl⟩:=tK h;exact d.env e b
 | const c=>obtain ⟨a,rfl⟩:=C7 h;exact a
 | func f=>rw[<-ae h];rfl
 | global g=>cases h
theorem aF (h:opd s x=some v):evL (envL θ s) x=v.v θ:=by
 cases x with
 | tmp t =>
  have:=iB (θ:=θ) h
  show ((envL θ s).lookup t).getD undef=_;grind[envL]
 | const c=>obtain ⟨a,rfl⟩:=C7 h;rfl
 | func f=>rw[<-ae h];rfl
 | global g=>cases h
def okO (n:Nat) (s:Sg) (o:Oper):Bool:=o.op.operands.toList.all (fun x=>(opd s x).isSome || match x with | .global _=>true | _=>false)&&dstOk n o.dst&&noSelect o
theorem TY {n:Nat} {o:Oper} (h:okO n s o=true):(DY (envL θ s) o&&dstOk n o.dst&&noSelect o)=true:=by
 unfold okO at h;rw[aj,aj] at h;rw[aj,aj];refine ⟨⟨List.all_eq_true.2 fun x a=>?_,h.1.2⟩,h.2⟩;have a:=List.all_eq_true.1 h.1.1 x a;cases x with
 | tmp t =>
  simp[Bool.or_false] at a;have ⟨v,hv⟩:=Option.isSome_iff_exists.1 a
  have:=iB (θ:=θ) (show look s.env t=some v from hv)
  show ((envL θ s).lookup t).isSome=true;grind[envL]
 | const c=>rfl
 | func f=>rfl
 | global g=>rfl
end
structure Res where
 rs:List Ent
 ns:List Ent
 rest:List Ent
 gives:List (Hdr×Chk)
 av:AV
def Res.chs (r:Res) (ver:Nat):List Ent:=r.gives.map (fun g=>(g.1,ver,g.2))++(r.rs++r.rest)
def Nd (d:Option Nat) (n:Nat) (v:AV) (l:List (Nat×Nat×AV)):List (Nat×Nat×AV):=match d with
 | some d=>(d,n,v)::l
 | none=>l
def after (s:Sg) (d:Option Nat) (r:Res):Sg:=⟨Nd d s.nxt r.av s.env,r.chs s.nxt,s.nxt+1⟩
def Res.pure (s:Sg) (av:AV):Res:=⟨[],[],s.chs,[],av⟩
structure Good (P:Program) (w0:World) (s:Sg) (o:Oper) (r:Res):Prop where
 perm:s.chs.Perm (r.rs++r.ns++r.rest)
 says: ∀J θ,Fine P w0 J θ s-> ∀g,g∈r.gives-> ∀ver c,SaysH g.2 ver c-> ∃e0,e0∈s.chs/\Says e0 g.1 ver c
 op: ∀J θ,Fine P w0 J θ s->OpT P J w0 o (evL (envL θ s)) ((r.rs++r.ns).map (toCh P θ))
  (fun v=>r.av.ok P w0 J (upd θ s.nxt v) (s.nxt+1) (r.chs s.nxt)/\r.av.v (upd θ s.nxt v)=v/\ ∀g∈r.gives,okE P w0 J (upd θ s.nxt v) (s.nxt+1) (r.chs s.nxt) (g.1,s.nxt,g.2))
  (fun v=>r.rs.map (toCh P θ)++r.gives.map fun g=>toCh P (upd θ s.nxt v) (g.1,s.nxt,g.2))
structure GoodA (P:Program) (w0:World) (J:Hp) (θ:Th) (s:Sg) (o:Oper) (r:Res):Prop where
 perm:s.chs.Perm (r.rs++r.ns++r.rest)
 says: ∀g,g∈r.gives-> ∀ver c,SaysH g.2 ver c-> ∃e0,e0∈s.chs/\Says e0 g.1 ver c
 op:OpT P J w0 o (evL (envL θ s)) ((r.rs++r.ns).map (toCh P θ))
  (fun v=>r.av.ok P w0 J (upd θ s.nxt v) (s.nxt+1) (r.chs s.nxt)/\r.av.v (upd θ s.nxt v)=v/\ ∀g∈r.gives,okE P w0 J (upd θ s.nxt v) (s.nxt+1) (r.chs s.nxt) (g.1,s.nxt,g.2))
  (fun v=>r.rs.map (toCh P θ)++r.gives.map fun g=>toCh P (upd θ s.nxt v) (g.1,s.nxt,g.2))
theorem Good.at {P:Program} {w0:World} {J:Hp} {θ:Th} {s:Sg} {o:Oper} {r:Res} (h:Good P w0 s o r) (a:Fine P w0 J θ s):GoodA P w0 J θ s o r:=⟨h.perm,h.says J θ a,h.op J θ a⟩
def plain (l:List (Hdr×Chk)):Bool:=l.all fun g=>match g.2 with
 | .hole _ _ _ _ _ _ _ _ _ _=>false
 | _=>true
theorem aU {P:Program} {w0:World} {s:Sg} {l:List (Hdr×Chk)} {chs:List Ent} (h:plain l=true): ∀J θ,Fine P w0 J θ s-> ∀g,g∈l-> ∀a c,SaysH g.2 a c-> ∃e0,e0∈chs/\Says e0 g.1 a c:=fun _ _ _ g d a c b=>by
 have:=(List.all_eq_true.1 h) g d
 have ⟨e,x⟩:=g;cases x with
 | hole _ _ _ _ _ _ _ _ _ _=>grind
 | _=>exact b.elim
theorem OpT.weak {P:Program} {w0:World} {o:Oper} {I:Hp} {ev:Operand->Value} {rn:List Ch} {fact a:Value->Prop} {gv b:Value->List Ch} (h:OpT P I w0 o ev rn fact gv) (d: ∀v,fact v->a v) (e: ∀v,fact v->gv v=b v):OpT P I w0 o ev rn a b :=
 fun w C c=>(h w C c).imp fun v w hv=>⟨d v hv.1,by grind⟩
section
variable {P:Program} {I:Hp} {w0 w:World} {F:Ch} {n:Nat} {J:Hp} {θ:Th} {s:Sg} {a:Act} {o:Oper} {r:Res} {av:AV}
theorem Res.newer (hp:s.chs.Perm (r.rs++r.ns++r.rest)) (hs: ∀g,g∈r.gives-> ∀b c,SaysH g.2 b c-> ∃e0,e0∈s.chs/\Says e0 g.1 b c):Newer s.nxt s.chs (r.chs s.nxt):=fun e d h b c k=>by
 rcases aG d with d | d
 ·obtain ⟨g,f,rfl⟩:=List.mem_map.1 d;obtain ⟨rfl,k⟩:=k;grind
 grind
theorem fC (c: ∀J θ,Fine P w0 J θ s->OpT P J w0 o (evL (envL θ s)) [] (· =av.v θ) (fun _=>[])) (b: ∀J θ,Fine P w0 J θ s->av.ok P w0 J θ s.nxt s.chs):Good P w0 s o (Res.pure s av):=
 ⟨List.Perm.refl _,fun _ _ _ g d=>(by cases d),fun J θ e=>OpT.weak (c J θ e) (fun v hv=>by
  subst hv;exact ⟨AV.ok_same Same.upd (Nat.le_succ _) Newer.rfl (b J θ e) Hp.le.rfl,AV.v_same Same.upd (b J θ e),fun g d=>by cases d⟩) (fun v hv=>rfl)⟩
theorem D9 {θ':Th} {d:Option Nat} {v:Value} (h:envL θ' s=envL θ s) (hv:av.v θ'=v) {chs:List Ent} {m:Nat} :envL θ' ⟨Nd d s.nxt av s.env,chs,m⟩=QJ d v (envL θ s):=by
 cases d with
 | none=>exact h
 | some d=>show (d,av.v θ')::envL θ' s=_;rw[h,hv];rfl
theorem re {e:Nat×Nat×AV} {k:Nat} : ∀ {d:Option Nat} {l:List (Nat×Nat×AV)},e∈Nd d k av l->(e.2.2=av/\e.2.1=k)\/e∈l:=by
 intro d l b;cases d with
 | none=>exact .inr b
 | some d =>
  rcases aA b with rfl | h
  ·grind
  grind
theorem FQ {d:Option Nat} {k:Nat} {l:List (Nat×Nat×AV)} (h:l.Pairwise fun a b=>a.2.1≠b.2.1) (hv: ∀e∈l,e.2.1<k):(Nd d k av l).Pairwise fun a b=>a.2.1≠b.2.1:=by
 cases d with
 | none=>exact h
 | some d=>exact List.pairwise_cons.2 ⟨fun e f c=>by grind,h⟩
theorem T0 {ops:Array Oper} {rest:List Oper} {Q:Exit->Act->World->Prop} (i:GoodA P w0 J θ s o r) (d:Sim P I w0 F n J θ s a w) (l:o.guard=none) (m:okO n s o=true)
  (k: ∀θ' a w,Same s.nxt θ θ'->Sim P I w0 F n J θ' (after s o.dst r) a w->wpList P ops Q rest a w):wpList P ops Q (o::rest) a w:=by
 have hp:(s.chs.map (toCh P θ)++ [F]).Perm ((r.rs++r.ns).map (toCh P θ)++(r.rest.map (toCh P θ)++ [F])):=by
  have:=(i.perm.map (toCh P θ)).append_right [F]
  grind
 have b: ∀e,e∈r.rs\/e∈r.rest->okE P w0 J θ s.nxt s.chs e:=fun e c=>d.fine.chs e (i.perm.mem_iff.2 (by grind));have f:=Res.newer i.perm i.says;refine X3 d.agr d.st l (i.op) hp (TY m) fun v a w hv A S=>k (upd θ s.nxt v) a w Same.upd ⟨d.le,?_,?_,?_,?_,FQ d.fine.nd d.fine.ver,?_,d.fine.lay⟩
 ·rw[show envL (upd θ s.nxt v) (after s o.dst r)=QJ o.dst v (envL θ s) from D9 (Aq Same.upd d.fine.env) hv.2.1];exact A
 ·have e:(after s o.dst r).chs.map (toCh P (upd θ s.nxt v))=(r.gives.map fun g=>toCh P (upd θ s.nxt v) (g.1,s.nxt,g.2))++(r.rs.map (toCh P θ)++r.rest.map (toCh P θ)):=by
   show (Res.chs r s.nxt).map _=_;unfold Res.chs;rw[aW,aW,List.map_map,jH Same.upd fun e c=>b e (.inl c),jH Same.upd fun e c=>b e (.inr c)]
   rfl
  refine S.perm ?_;grind[aC,List.perm_append_comm_assoc]
 ·intro e c;rcases re c with h | h
  ·rw[h.1];exact hv.1
  ·exact AV.ok_same Same.upd (Nat.le_succ _) f (d.fine.env e h) Hp.le.rfl
 ·intro e c;rcases re c with h | h
  ·rw[h.2];exact ax _
  ·exact aZ (d.fine.ver e h)
 ·intro e c;rcases aG c with c | c
  ·obtain ⟨g,j,rfl⟩:=List.mem_map.1 c;exact hv.2.2 g j
  ·exact gy Same.upd (Nat.le_succ _) f (b e (by grind)) Hp.le.rfl
theorem VN {ops:Array Oper} {rest:List Oper} {Q:Exit->Act->World->Prop} {g d:Nat} {want b:Bool} (l:GoodA P w0 J θ s o r) (i:Sim P I w0 F n J θ s a w) (q:o.guard=some (g,want)) (u:((ops[g]?).bind (·.dst))=some d) (hv:(envL θ s).lookup d=some (.bool b)) (p:b=want) (t:okO n s o=true)
  (k: ∀θ' a w,Same s.nxt θ θ'->Sim P I w0 F n J θ' (after s o.dst r) a w->wpList P ops Q rest a w):wpList P ops Q (o::rest) a w:=by
 have hp:(s.chs.map (toCh P θ)++ [F]).Perm ((r.rs++r.ns).map (toCh P θ)++(r.rest.map (toCh P θ)++ [F])):=by
  have:=(l.perm.map (toCh P θ)).append_right [F]
  grind
 have c: ∀e,e∈r.rs\/e∈r.rest->okE P w0 J θ s.nxt s.chs e:=fun e f=>i.fine.chs e (l.perm.mem_iff.2 (by grind));have j:=Res.newer l.perm l.says;refine Q1 i.agr i.st q u hv p (l.op) hp (TY t) fun v a w hv A S=>k (upd θ s.nxt v) a w Same.upd ⟨i.le,?_,?_,?_,?_,FQ i.fine.nd i.fine.ver,?_,i.fine.lay⟩
 ·rw[show envL (upd θ s.nxt v) (after s o.dst r)=QJ o.dst v (envL θ s) from D9 (Aq Same.upd i.fine.env) hv.2.1];exact A
 ·have e:(after s o.dst r).chs.map (toCh P (upd θ s.nxt v))=(r.gives.map fun g=>toCh P (upd θ s.nxt v) (g.1,s.nxt,g.2))++(r.rs.map (toCh P θ)++r.rest.map (toCh P θ)):=by
   show (Res.chs r s.nxt).map _=_;unfold Res.chs;rw[aW,aW,List.map_map,jH Same.upd fun e f=>c e (.inl f),jH Same.upd fun e f=>c e (.inr f)]
   rfl
  refine S.perm ?_;grind[aC,List.perm_append_comm_assoc]
 ·intro e f;rcases re f with h | h
  ·rw[h.1];exact hv.1
  ·exact AV.ok_same Same.upd (Nat.le_succ _) j (i.fine.env e h) Hp.le.rfl
 ·intro e f;rcases re f with h | h
  ·rw[h.2];exact ax _
  ·exact aZ (i.fine.ver e h)
 ·intro e f;rcases aG f with f | f
  ·obtain ⟨g,m,rfl⟩:=List.mem_map.1 f;exact hv.2.2 g m
  ·exact gy Same.upd (Nat.le_succ _) j (c e (by grind)) Hp.le.rfl
def skip (s:Sg) (d:Option Nat):Sg:=⟨Nd d s.nxt .und s.env,s.chs,s.nxt+1⟩
theorem Nf {v:AV} {d:Option Nat} (b:Sim P I w0 F n J θ s a w) {f:Act} (g:Agr n f (QJ d (v.v θ) (envL θ s))) (hv:v.ok P w0 J θ s.nxt s.chs):Sim P I w0 F n J θ ⟨Nd d s.nxt v s.env,s.chs,s.nxt+1⟩ f w:=
 ⟨b.le,by grind[D9],b.st,fun e c=>by
  rcases re c with h | h
  ·rw[h.1];exact AV.ok_same Same.rfl (Nat.le_succ _) Newer.rfl hv Hp.le.rfl
  ·exact AV.ok_same Same.rfl (Nat.le_succ _) Newer.rfl (b.fine.env e h) Hp.le.rfl,fun e c=>by
  rcases re c with h | h
  ·grind
  ·exact aZ (b.fine.ver e h),FQ b.fine.nd b.fine.ver,fun e c=>gy Same.rfl (Nat.le_succ _) Newer.rfl (b.fine.chs e c) Hp.le.rfl,b.fine.lay⟩
theorem Rb {ops:Array Oper} {rest:List Oper} {Q:Exit->Act->World->Prop} {g d:Nat} {want b:Bool} (c:Sim P I w0 F n J θ s a w) (i:o.guard=some (g,want)) (h:((ops[g]?).bind (·.dst))=some d) (hv:(envL θ s).lookup d=some (.bool b)) (e:b= !want) (f:dstOk n o.dst=true)
  (k: ∀a,Sim P I w0 F n J θ (skip s o.dst) a w->wpList P ops Q rest a w):wpList P ops Q (o::rest) a w:=
 Q0 c.agr c.st i h hv e f fun a A=>k a (Nf c A trivial)
theorem Lk {ops:Array Oper} {rest:List Oper} {Q:Exit->Act->World->Prop} {g d:Nat} {want:Bool} (b:Sim P I w0 F n J θ s a w) (f:o.guard=some (g,want)) (e:((ops[g]?).bind (·.dst))=some d) (hv:(envL θ s).lookup d=some undef) (c:dstOk n o.dst=true)
  (k: ∀a,Sim P I w0 F n J θ (skip s o.dst) a w->wpList P ops Q rest a w):wpList P ops Q (o::rest) a w:=
 Li b.agr b.st f e hv c fun a A=>k a (Nf b A trivial)
end
def ikD:Option IntKind->TypeDesc
 | some k=>.int k
 | none=>.string
structure MD where
 K:TypeId
 E:TypeId
 k:MK
 e:ME
def MDok (P:Program) (T:TypeId) (m:MD):Prop:=
 P.underlying T=some (.map m.K m.E)/\ @KeyOk P m.K m.k.den m.k.dec m.k.val m.k.lit m.k.ok/\EltOk P m.E m.e.val m.e.lit m.e.ok m.e.z
structure TD where
 agg:Bool
 n:Nat
 el:Option TypeId
 ty:Ty
 fields:List (Nat×Nat)
 bytes:Option Nat
 place:Option (List (Nat×Nat))
 boo:Bool
 eq:Option (List (Option IntKind))
 mp:Option MD
 ik:Option (Option IntKind)
 fz:Bool
 pt:Option TypeId
def Curq:List (Option IntKind)->(List Value->List Value->Bool->Prop)->Prop
 | [],p=>p [] [] true
 | none::ks,p=> ∀a b:Bool,Curq ks fun xs ys r=>p (.bool a::xs) (.bool b::ys) ((a==b)&&r)
 | some k::ks,p=> ∀a b:Int,Curq ks fun xs ys r=>p (.int k a::xs) (.int k b::ys) ((a==b)&&r)
def lvB:LV->Option Bool
 | .val (.bool b)=>some b
 | .nb b=>some (!b)
 | _=>none
def lvI (k:IntKind):LV->Option Int
 | .val (.int j m)=>if j=k then some m else none
 | _=>none
theorem aax {θ:Th} {x:LV} {b:Bool} (h:lvB x=some b):x.v θ= .bool b:=by
 unfold lvB at h;split at h <;> first | (cases h;rfl) | cases h
theorem aay {θ:Th} {k:IntKind} {x:LV} {m:Int} (h:lvI k x=some m):x.v θ= .int k m:=by
 unfold lvI at h;split at h
 ·split at h
  ·rename_i e;subst e;cases h;rfl
  grind
 grind
def ab7:Option IntKind->LV->LV->Option Bool
 | none,x,y=>(lvB x).bind fun a=>(lvB y).bind fun b=>some (a==b)
 | some k,x,y=>(lvI k x).bind fun a=>(lvI k y).bind fun b=>some (a==b)
def aaz:List (Option IntKind)->List LV->List LV->Option Bool
 | [],[],[] =>some true
 | k::ks,x::xs,y::ys=>(ab7 k x y).bind fun q=>(aaz ks xs ys).bind fun r=>some (q&&r)
 | _,_,_=>none
theorem VO {θ:Th} : ∀ {d:List (Option IntKind)} {p:List Value->List Value->Bool->Prop} {xs ys:List LV} {r:Bool},Curq d p->aaz d xs ys=some r->p (xs.map (·.v θ)) (ys.map (·.v θ)) r:=by
 intro d;induction d with
 | nil =>
  intro p xs ys r hp h
  match xs,ys,h with
  | [],[],h=>cases h;exact hp
 | cons k d ih =>
  intro p xs ys r hp h
  match xs,ys,h with
  | x::xs,y::ys,h =>
   have ⟨q,c,h⟩:=Option.bind_eq_some_iff.1 h;have ⟨i,e,h⟩:=Option.bind_eq_some_iff.1 h;cases k with
   | none =>
    have ⟨a,g,c⟩:=Option.bind_eq_some_iff.1 c;have ⟨b,f,c⟩:=Option.bind_eq_some_iff.1 c
    have:=ih (hp a b) e
    grind[aax]
   | some k =>
    have ⟨a,g,c⟩:=Option.bind_eq_some_iff.1 c;have ⟨b,f,c⟩:=Option.bind_eq_some_iff.1 c
    have:=ih (hp a b) e
    grind[aay]
def zeroCells:Ty->List Value
 | .int k=>[.int k 0]
 | .bool=>[.bool false]
 | .str=>[.string ⟨#[]⟩]
 | .raw=>[.int .i64 0]
 | .prod a b=>zeroCells a++zeroCells b
 | .sl _ _=>[.slice none 0 0]
 | .fro t=>zeroCells t
 | .wr t=>zeroCells t
 | .tree _ _ _=>[.pointer none]
 | .bag t=>zeroCells t
def Ea:(t:Ty)->t.den
 | .int _=>(0:Int)
 | .bool=>false
 | .str=>(⟨#[]⟩:ByteArray)
 | .raw=>(⟨.int .i64 0,rfl⟩:Raw)
 | .prod a b=>(Ea a,Ea b)
 | .sl _ t=>([] :List t.den)
 | .fro t=>Ea t
 | .wr t=>Ea t
 | .tree _ _ t=>(Tr.nil:Tr t.den)
 | .bag t=>Ea t
theorem p7: ∀(t:Ty) (I:Hp),t.rep.rd I (zeroCells t) (Ea t)
 | .int k,I=>rfl
 | .bool,I=>rfl
 | .str,I=>rfl
 | .raw,I=>rfl
 | .prod a b,I=>⟨_,_,rfl,p7 a I,p7 b I⟩
 | .sl _ _,I=>TU
 | .fro t,I=>p7 t I
 | .wr t,I=>p7 t I
 | .tree _ _ _,I=>⟨_,rfl,.nil⟩
 | .bag t,I=>p7 t I
theorem zR: ∀(t:Ty),Zro t.rep (zeroCells t) (Ea t)
 | .int k=>zP
 | .bool=>(zP (h1:=fun _=>rfl))
 | .str=>(zP (h1:=fun _=>rfl))
 | .raw=>(zP (α:=Raw) (enc:=(·.1)) (h1:=(·.2)) (x:=⟨.int .i64 0,rfl⟩))
 | .prod a b=>Q3 (zR a) (zR b)
 | .sl _ _=>Vy
 | .fro t=>Vz (p7 t)
 | .wr t=>zR t
 | .tree _ _ _=>Q8
 | .bag t=>VL (p7 t)
theorem JA: ∀(t:Ty),∀v∈zeroCells t,v.oneCell'=true:=fun t v hv=>Rep.rd_one _ (p7 t fun _=>none) v hv
theorem my: ∀t:Ty,zeroCells t.erase=zeroCells t
 | .int _=>rfl
 | .bool=>rfl
 | .str=>rfl
 | .raw=>rfl
 | .prod a b=>by show zeroCells a.erase++zeroCells b.erase=_;rw[my a,my b];rfl
 | .sl _ _=>rfl
 | .fro t=>my t
 | .wr t=>my t
 | .tree _ _ _=>rfl
 | .bag t=>my t
theorem wi (t:Ty):(zeroCells t).length=t.size:=(Rep.rd_len _ (p7 t fun _=>none)).trans t.rep_size
abbrev TT:=List (TypeId×TD)
def td (tt:TT) (T:Nat):Option TD:=match tt with
 | [] =>none
 | (U,d)::l=>if Nat.beq U T then some d else td l T
structure TDok (P:Program) (T:TypeId) (d:TD):Prop where
 ti:TI P T d.agg d.n
 one:(d.agg || d.n==1)=true
 sz:d.ty.size=d.n
 el: ∀E,d.el=some E->P.underlying T=some (.slice E)
 fld: ∀f q,d.fields[f]? =some q->TF P T f q.1 q.2
 zero: ∀b,d.bytes=some b-> ∃z,TZ P T z d.n b/\z.cells=(zeroCells d.ty).toArray/\1<=b
 place: ∀pl,d.place=some pl->TB P T pl
 boo:d.boo=true->P.underlying T=some .bool
 eq: ∀ks,d.eq=some ks-> ∀w,Curq ks fun xs ys r=>EqT P T (.agg xs.toArray) (.agg ys.toArray) r w
 mp: ∀m,d.mp=some m->MDok P T m
 ik: ∀k,d.ik=some k->P.underlying T=some (ikD k)
 fz:d.fz=true-> ∃b,TZ P T .nilFunc 1 b
 pt: ∀e,d.pt=some e->P.underlying T=some (.pointer e)
def TTok (P:Program):TT->Prop
 | [] =>True
 | (T,d)::l=>TDok P T d/\TTok P l
theorem TTok.get {P:Program} {T:Nat} {d:TD} : ∀ {tt:TT},TTok P tt->td tt T=some d->TDok P T d
 | (U,x)::l,⟨h1,h2⟩,h=>by
  unfold td at h;split at h
  ·rename_i a
   have:=al a
   subst this;rw[<-ae h];exact h1
  ·exact TTok.get h2 h
def p8 (id:Nat):(t:Ty)->t.den->Nat->List LV
 | .int k,d,_=>[.val (.int k d)]
 | .bool,d,_=>[.val (.bool d)]
 | .str,d,_=>[.val (.string d)]
 | .raw,d,_=>[.val d.1]
 | .prod a b,d,j=>p8 id a d.1 j++p8 id b d.2 (j+a.size)
 | .sl E t,d,j=>[.rd ⟨id,[j]⟩ (.sl E t) d]
 | .fro t,d,j=>p8 id t d j
 | .bag t,d,j=>p8 id t d j
 | .wr t,d,j=>p8 id t d j
 | .tree T E t,d,j=>[.rd ⟨id,[j]⟩ (.tree T E t) d]
def Ng (id:Nat):(t:Ty)->t.den->AV
 | .prod a b,d=>.agg (p8 id (.prod a b) d 0)
 | .int k,d=>.one (.val (.int k d))
 | .bool,d=>.one (.val (.bool d))
 | .str,d=>.one (.val (.string d))
 | .raw,d=>.one (.val d.1)
 | .sl E t,d=>.one (.rd ⟨id,[]⟩ (.sl E t) d)
 | .fro t,d=>Ng id t d
 | .bag t,d=>Ng id t d
 | .wr t,d=>.agg (p8 id t d 0)
 | .tree T E t,d=>.one (.rd ⟨id,[]⟩ (.tree T E t) d)
theorem ja {P:Program} {w0:World} {J:Hp} {θ:Th} {id n:Nat} (e:id<n) {all:List Value} (f:θ id= .agg all.toArray): ∀(t:Ty) (d:t.den) (j:Nat) (cs:List Value),t.rep.rd J cs d->(∀i v,cs[i]? =some v->all[j+i]? =some v)->
  (∀x∈p8 id t d j,x.ok P w0 J θ n)/\(p8 id t d j).map (·.v θ)=cs
 | .int k,d,j,cs,h,_=>⟨fun x c=>by cases ak c;rfl,h.symm⟩
 | .bool,d,j,cs,h,_=>⟨fun x c=>by cases ak c;rfl,h.symm⟩
 | .str,d,j,cs,h,_=>⟨fun x c=>by cases ak c;rfl,h.symm⟩
 | .raw,d,j,cs,h,_=>⟨fun x c=>by cases ak c;exact d.2,h.symm⟩
 | .prod a b,d,j,cs,h,hc=>by
  obtain ⟨o,m,rfl,l,p⟩:=h;have y:=(Rep.rd_len _ l).trans a.rep_size;obtain ⟨q,w⟩:=ja e f a d.1 j o l fun i v hv=>hc i v (by grind);obtain ⟨r,s⟩:=ja e f b d.2 (j+a.size) m p fun i v hv=>by
   have:=hc (a.size+i) v (by grind)
   grind
  refine ⟨fun x c=>?_,?_⟩
  ·rcases aG c with c | c
   ·exact q x c
   ·exact r x c
  grind[p8]
 | .sl E t,d,j,cs,h,hc=>by
  obtain ⟨u,rfl⟩:=List.length_eq_one_iff.1 (Rep.rd_len _ h);have g:hv θ ⟨id,[j]⟩=u:=by
   show vg (θ id) [j] =u;rw[f];show (all.toArray.getD j undef)=u
   have:=hc 0 u rfl
   rw[Nat.add_zero] at this;simp[Array.getD_eq_getD_getElem?,this]
  refine ⟨fun x c=>?_,?_⟩
  ·cases ak c;exact ⟨e,by grind⟩
  ·show [hv θ ⟨id,[j]⟩] = [u];rw[g]
 | .fro t,d,j,cs,h,hc=>ja e f t d j cs h hc
 | .bag t,d,j,cs,h,hc=>ja e f t d j cs h hc
 | .wr t,d,j,cs,h,hc=>ja e f t d j cs h hc
 | .tree T E t,d,j,cs,h,hc=>by
  obtain ⟨u,rfl⟩:=List.length_eq_one_iff.1 (Rep.rd_len _ h);have g:hv θ ⟨id,[j]⟩=u:=by
   show vg (θ id) [j] =u;rw[f];show (all.toArray.getD j undef)=u
   have:=hc 0 u rfl
   rw[Nat.add_zero] at this;simp[Array.getD_eq_getD_getElem?,this]
  refine ⟨fun x c=>?_,?_⟩
  ·cases ak c;exact ⟨e,by grind⟩
  ·show [hv θ ⟨id,[j]⟩] = [u];rw[g]
theorem qu {P:Program} {w0:World} {J:Hp} {θ:Th} {id n:Nat} {chs:List Ent} (e:id<n) {u:Value} (f:θ id=u): ∀(t:Ty) (d:t.den) (cs:List Value),t.rep.rd J cs d->Lds t.isProd cs u->(Ng id t d).ok P w0 J θ n chs/\(Ng id t d).v θ=u
 | .int k,d,cs,h,c=>⟨Eq.refl true,by
  rw[h] at c;exact (List.cons.inj c).1⟩
 | .bool,d,cs,h,c=>⟨Eq.refl true,by
  rw[h] at c;exact (List.cons.inj c).1⟩
 | .str,d,cs,h,c=>⟨Eq.refl true,by
  rw[h] at c;exact (List.cons.inj c).1⟩
 | .raw,d,cs,h,c=>⟨d.2,by
  rw[h] at c;exact (List.cons.inj c).1⟩
 | .prod a b,d,cs,h,c=>by
  have c:u= .agg cs.toArray:=c;obtain ⟨j,l⟩:=ja (J:=J) e (f.trans c) (.prod a b) d 0 cs h (fun i v hv=>by grind);exact ⟨j,by show Value.agg _=_;grind⟩
 | .sl E t,d,cs,h,c=>by
  subst c;have g:hv θ ⟨id,[]⟩=u:=f;exact ⟨⟨e,by grind⟩,g⟩
 | .fro t,d,cs,h,c=>qu e f t d cs h c
 | .bag t,d,cs,h,c=>qu e f t d cs h c
 | .wr t,d,cs,h,c=>by
  have c:u= .agg cs.toArray:=c;obtain ⟨j,l⟩:=ja (J:=J) e (f.trans c) t d 0 cs h (fun i v hv=>by grind);exact ⟨j,by show Value.agg _=_;grind⟩
 | .tree T E t,d,cs,h,c=>by
  subst c;have g:hv θ ⟨id,[]⟩=u:=f;exact ⟨⟨e,by grind⟩,g⟩
structure Part (t:Ty) where
 ty:Ty
 get:t.den->ty.den
 set:t.den->ty.den->t.den
def xJ (g:Bool):(t:Ty)->Nat->Nat->Option (Part t)
 | t,off,n=>if Nat.beq off 0&&(Nat.beq t.size n&&(t.isProd==g)) then some ⟨t,fun x=>x,fun _ y=>y⟩ else match t with
  | .prod a b=>if Nat.blt off a.size then (xJ g a off n).bind fun r=>some ⟨r.ty,fun x=>r.get x.1,fun x y=>(r.set x.1 y,x.2)⟩ else (xJ g b (off - a.size) n).bind fun r=>some ⟨r.ty,fun x=>r.get x.2,fun x y=>(x.1,r.set x.2 y)⟩
  | .fro a=>(xJ g a off n).bind fun r=>some ⟨.fro r.ty,r.get,r.set⟩
  | .wr a=>(xJ g a off n).bind fun r=>some ⟨r.ty,r.get,r.set⟩
  | _=>none
def Lens {α β:Type} (R:Rep α) (off:Nat) (S:Rep β) (f:α->β) (u:α->β->α):Prop:= ∀I w c x G,R.own I w c x G-> ∃d G1 K,G.Perm (G1++K)/\(c.drop off).take S.size=d/\S.own I w d (f x) G1 /\
 ∀J w' d' y G',I.le J->(∀b,b∈K->w'.heap[b]? =w.heap[b]?)->S.own J w' d' y G'-> ∃F,F.Perm (G'++K)/\R.own J w' (spl c off d') (u x y) F
theorem Lens.self {α:Type} {R:Rep α} :Lens R 0 R (fun x=>x) (fun _ y=>y):=fun I w c x G h =>
 ⟨c,G,[],by simp,by rw[<-R.own_len h];simp,h,fun J e d y b f g a=>⟨b,by simp,by rw[C6 _ _ _ (by rw[R.own_len h,R.own_len a];omega),R.own_len a,<-R.own_len h];grind⟩⟩
theorem Lens.fst {α β γ:Type} {A:Rep α} {B:Rep β} {S:Rep γ} {off:Nat} {f:α->γ} {u:α->γ->α} (hs:off+S.size<=A.size) (h:Lens A off S f u):Lens (si A B) off S (fun x=>f x.1) (fun x y=>(u x.1 y,x.2)):=by
 rintro I w c x G ⟨i,o,D,g,rfl,rfl,e,t⟩;have ⟨d,r,K,p,E,s,z⟩:=h I w i x.1 D e;refine ⟨d,r,K++g,by grind,?_,s,fun J C j y v m n l=>?_⟩
 ·have H:=A.own_len e;grind
 ·have ⟨F,q,k⟩:=z J C j y v m (fun b a=>n b (bm _ a)) l;refine ⟨F++g,by grind,spl i off j,o,F,g,?_,rfl,k,B.own_stay (B.own_mono t m) fun b a=>n b (bq _ a)⟩;rw[we _ _ _ _ (by rw[A.own_len e,S.own_len l];exact hs)]
theorem Lens.snd {α β γ:Type} {A:Rep α} {B:Rep β} {S:Rep γ} {off:Nat} {f:β->γ} {u:β->γ->β} (h:Lens B off S f u):Lens (si A B) (A.size+off) S (fun x=>f x.2) (fun x y=>(x.1,u x.2 y)):=by
 rintro I w c x G ⟨n,g,a,C,rfl,rfl,j,t⟩;have ⟨d,o,K,p,H,r,D⟩:=h I w g x.2 C t;have v:=A.own_len j;refine ⟨d,o,a++K,(p.append_left a).trans (List.perm_append_comm_assoc _ _ _),?_,r,fun J E i y z l m s=>?_⟩
 ·grind[List.drop_append,List.drop_of_length_le,Nat.add_sub_cancel_left]
 ·have ⟨F,q,k⟩:=D J E i y z l (fun b e=>m b (bq _ e)) s;refine ⟨a++F,(q.append_left a).trans (List.perm_append_comm_assoc _ _ _),n,spl g off i,a,F,?_,rfl,A.own_stay (A.own_mono j l) fun b e=>m b (bm _ e),k⟩;rw[<-v,qq]
theorem Lens.fro {α β:Type} {R:Rep α} {S:Rep β} {off:Nat} {f:α->β} {u:α->β->α} (h:Fld R off S f) (k:Upd R off S u):Lens (zz R) off (zz S) f u:=by
 rintro I w c x G ⟨rfl,a⟩;have ⟨d,j,g⟩:=h I c x a;refine ⟨d,[],[],by simp,j,⟨rfl,g⟩,fun J n e y m i l b=>⟨[],by rw[b.1];simp,rfl,k J c x e y (R.rd_mono a i) b.2⟩⟩
structure PartOk {t:Ty} (off n:Nat) (r:Part t):Prop where
 fld:Fld t.rep off r.ty.rep r.get
 upd:Upd t.rep off r.ty.rep r.set
 updO:UpdO t.rep off r.ty.rep r.set
 lens:Lens t.rep off r.ty.rep r.get r.set
 eta: ∀x,r.set x (r.get x)=x
 size:r.ty.size=n
 fit:off+n<=t.size
theorem zS {g:Bool} : ∀(t:Ty) (off n:Nat) (r:Part t),xJ g t off n=some r->PartOk off n r:=by
 intro t;induction t with
 | prod a b p o =>
  intro off n r h;unfold xJ at h;split at h
  ·rename_i f;rw[aj,aj] at f;have j:=al f.1;have l:=al f.2.1;subst j;cases ae h;exact ⟨Fld.self,Upd.self,UpdO.self,Lens.self,fun _=>rfl,l,by omega⟩
  ·simp only at h;split at h
   ·have ⟨q,e,h⟩:=bind_some h;cases ae h;have k:=p off n q e;have i:off+q.ty.rep.size<=a.rep.size:=by rw[q.ty.rep_size,a.rep_size,k.size];exact k.fit
    exact ⟨Fld.fst k.fld,Upd.fst i k.upd,UpdO.fst i k.updO,Lens.fst i k.lens,fun x=>congrArg (fun z=>(z,x.2)) (k.eta x.1),k.size,by have:=k.fit;show off+n<=a.size+b.size;omega⟩
   ·rename_i s;have ⟨q,e,h⟩:=bind_some h;cases ae h;have k:=o (off - a.size) n q e;have u:a.size<=off:=by
     rw[Nat.blt_eq] at s;omega
    have m:a.rep.size+(off - a.size)=off:=by rw[a.rep_size];omega
    refine ⟨?_,?_,?_,?_,fun x=>congrArg (fun z=>(x.1,z)) (k.eta x.2),k.size,by have:=k.fit;show off+n<=a.size+b.size;omega⟩
    ·have:=Fld.snd (A:=a.rep) k.fld
     rwa [m] at this
    ·have:=Upd.snd (A:=a.rep) k.upd
     rwa [m] at this
    ·have:=UpdO.snd (A:=a.rep) k.updO
     rwa [m] at this
    ·have:=Lens.snd (A:=a.rep) k.lens
     rwa [m] at this
 | fro a ih =>
  intro off n r h;unfold xJ at h;split at h
  ·rename_i f;rw[aj,aj] at f;have j:=al f.1;have l:=al f.2.1;subst j;cases ae h;exact ⟨Fld.self,Upd.self,UpdO.self,Lens.self,fun _=>rfl,l,by omega⟩
  ·have ⟨q,e,h⟩:=bind_some h;cases ae h;have k:=ih off n q e;exact ⟨k.fld,k.upd,fun I w c x G d y K j l=>⟨[],[],⟨rfl,k.upd I c x d y j.2 l.2⟩,by rw[j.1,l.1]⟩,Lens.fro k.fld k.upd,k.eta,k.size,k.fit⟩
 | wr a ih =>
  intro off n r h;unfold xJ at h;split at h
  ·rename_i f;rw[aj,aj] at f;have j:=al f.1;have l:=al f.2.1;subst j;cases ae h;exact ⟨Fld.self,Upd.self,UpdO.self,Lens.self,fun _=>rfl,l,by omega⟩
  ·have ⟨q,e,h⟩:=bind_some h;cases ae h;have k:=ih off n q e;exact ⟨k.fld,k.upd,k.updO,k.lens,k.eta,k.size,k.fit⟩
 | _ =>
  intro off n r h;unfold xJ at h;split at h
  ·rename_i f;rw[aj,aj] at f;have j:=al f.1;have l:=al f.2.1;subst j;cases ae h;exact ⟨Fld.self,Upd.self,UpdO.self,Lens.self,fun _=>rfl,l,by omega⟩
  grind
end R
end Go.Proofs.YtncnbjfngmhfaaaGreatDoor
