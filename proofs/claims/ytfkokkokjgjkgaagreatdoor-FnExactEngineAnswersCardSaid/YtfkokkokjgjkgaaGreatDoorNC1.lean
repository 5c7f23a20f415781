/- FnExactEngineAnswers: for every input the law returns true and changes nothing that was there. Part 2 of 9. -/
import Derived.Test.YtfkokkokjgjkgaaGreatDoorRows
import Derived.WalkKit
import Derived.WalkSpells
import Derived.WalkLawsBesides
import Derived.ProofKit
import Derived.Orders
import Derived.Deep.MidRow
import Derived.Maps.AppendAt
import Derived.OwnWalk
import Derived.Great.BuildSlice
import Derived.Shelf.Abstract
import Derived.Laws.StructEq
import Derived.Lib.SliceRun
import Derived.Maps.OwnSet
import Derived.DeepKeys4
import Derived.Laws.CopyRow
import Derived.Lib.LaidTab
import Derived.Lib.ItoaNum
import Derived.Lib.AppendZeros
import Derived.Lib.Overlaps
import Derived.Laws.AppendOwn
import Derived.Shelf.Sort.Plain
import Derived.Shelf.Slices.In.SortNone
import Derived.Lib.SortBridge
import Derived.Test.YtfkokkokjgjkgaaGreatDoorProg
import Derived.Shelf.Strings.OnBuilder
import Derived.Shelf.Strconv.Itoa3
import Derived.Sort.Grow
import Derived.Shelf.Strings.Split
import Derived.Shelf.Strings.Cut
import Derived.Shelf.Small.Strs
import Derived.Shelf.Strconv.Atoi
import Derived.Shelf.Strconv.ErrVar
import Derived.Lib.AtoiBound
import Derived.Shelf.LaysM
import Derived.Shelf.LaysC
import Derived.Deep.Slices
import Derived.Lib.ItoaLen
import Derived.Lib.Join
import Derived.Lib.Atoi
import Derived.Lib.Split
import Derived.Test.YtfkokkokjgjkgaaGreatDoorCards
import Derived.Test.YtfkokkokjgjkgaaGreatDoorTie
import Derived.LaidMore
import Derived.OpenShut
import Derived.Stop.Joined
import Derived.SevenTiedAt
import Derived.Stop.LaidErr
import Derived.SizedLaws
import Derived.Lay
set_option synthInstance.maxSize 20000
set_option synthInstance.maxHeartbeats 2000000
set_option linter.unusedVariables false
set_option linter.unusedSimpArgs false
set_option linter.unnecessarySimpa false
set_option linter.unusedSectionVars false
set_option maxRecDepth 1000000
namespace Go.Proofs.YtfkokkokjgjkgaaGreatDoor
open Go.IntKind (i64)
theorem aa: ∀ {α:Type _} {β:Type _} (a:α) (f:α->Option β),(some a).bind f=f a:= @Option.bind_some
theorem ad: ∀ {α:Type _} {a b:α},some a=some b->a=b:= @Option.some.inj
theorem a8: ∀ {n m:Nat},n.ble m=true->n<=m:= @Nat.le_of_ble_eq_true
theorem al: ∀ {n m:Nat},n.beq m=true->n=m:= @Nat.eq_of_beq_eq_true
theorem aA: ∀ {α:Type _} (x y z:List α),x++y++z=x++(y++z):= @List.append_assoc
theorem aC: ∀ {α:Type _} {x y:List α},(x++y).length=x.length+y.length:= @List.length_append
theorem aK: ∀ {α:Type _} {a:α} {x:List α},(a::x).length=x.length+1:= @List.length_cons
theorem au: ∀ {α:Type _} {a b:α},a ∈ [b] ->a=b:=fun h=>List.mem_singleton.1 h
theorem ax: ∀ {α:Type _} {b:α} {l:List α} {a:α},a∈b::l->a=b\/a∈l:=fun h=>List.mem_cons.1 h
theorem aH: ∀ {α:Type _} {a:α} {s t:List α},a∈s++t->a∈s\/a∈t:=fun h=>List.mem_append.1 h
theorem ai: ∀(a b:Bool),((a&&b)=true)=(a=true/\b=true):= @Bool.and_eq_true
theorem aw: ∀(n:Nat),n<n.succ:= @Nat.lt_succ_self
theorem aI: ∀ {α:Type _} {i:Nat} {l:List α},(List.take i l).length=min i l.length:= @List.length_take
theorem bJ: ∀ {α:Type _} {i:Nat} {l:List α},(List.drop i l).length=l.length - i:= @List.length_drop
theorem ay: ∀ {n m k:Nat},n<m->m<=k->n<k:= @Nat.lt_of_lt_of_le
theorem aF: ∀(n:Nat),n<=n:= @Nat.le_refl
theorem be: ∀ {α:Type _} (y:α) {a:α} {l:List α},a∈l->a∈y::l:= @List.mem_cons_of_mem
theorem aZ: ∀ {α:Type _} {a:α} {x:List α} (y:List α),a∈x->a∈x++y:= @List.mem_append_left
theorem bc: ∀ {α:Type _} {b:α} (x:List α) {y:List α},b∈y->b∈x++y:= @List.mem_append_right
theorem bf: ∀ {α:Type _},([] :List α).length=0:= @List.length_nil
theorem aS: ∀ {α:Type _} {β:Type _} {f:α->β} {l₁ l₂:List α},List.map f (l₁++l₂)=List.map f l₁++List.map f l₂:= @List.map_append
theorem aT: ∀ {n m:Nat},n<m->n<m.succ:= @Nat.lt_succ_of_lt
namespace D
open Go.RowKit
def lim:Nat:=9223372036854775807
def Hp:=Nat->Option Obj
def Hp.le (I J:Hp):Prop:= ∀b o,I b=some o->J b=some o
def hp (w:World):Hp:=fun b=>w.heap[b]?
theorem Hp.le.rfl {I:Hp} :I.le I:=fun _ _ h=>h
theorem Hp.le.trans {I J K:Hp} (h:I.le J) (k:J.le K):I.le K:=fun b o e=>k b o (h b o e)
structure Rep (α:Type) where
 size:Nat
 rd:Hp->List Value->α->Prop
 own:Hp->World->List Value->α->List Nat->Prop
 rd_len: ∀ {I cs a},rd I cs a->cs.length=size
 rd_one: ∀ {I cs a},rd I cs a-> ∀u∈cs,u.oneCell'=true
 rd_mono: ∀ {I J cs a},rd I cs a->I.le J->rd J cs a
 own_len: ∀ {I w cs a F},own I w cs a F->cs.length=size
 own_one: ∀ {I w cs a F},own I w cs a F-> ∀u∈cs,u.oneCell'=true
 own_mono: ∀ {I J w cs a F},own I w cs a F->I.le J->own J w cs a F
 own_stay: ∀ {I w w' cs a F},own I w cs a F->(∀b,b∈F->w'.heap[b]? =w.heap[b]?)->own I w' cs a F
 own_live: ∀ {I w cs a F},own I w cs a F-> ∀b,b∈F->b<w.heap.size
 own_rd: ∀ {I J w cs a F},own I w cs a F->I.le J->(∀b,b∈F->J b=w.heap[b]?)->rd J cs a
def lr (α:Type) (enc:α->Value) (h1: ∀a,(enc a).oneCell'=true):Rep α where
 size:=1
 rd _ cs a:=cs= [enc a]
 own _ _ cs a F:=F= [] /\cs= [enc a]
 rd_len h:=by rw[h];rfl
 rd_one h:=by rw[h];intro u hu;simp at hu;subst hu;exact h1 _
 rd_mono h _:=h
 own_len h:=by rw[h.2];rfl
 own_one h:=by rw[h.2];intro u hu;simp at hu;subst hu;exact h1 _
 own_mono h _:=h
 own_stay h _:=h
 own_live h:=by rw[h.1];intro b hb;cases hb
 own_rd h _ _:=h.2
def a7:Rep Int:=lr Int (.int .i64) fun _=>rfl
def oJ:Rep Bool:=lr Bool .bool fun _=>rfl
def D0:Rep ByteArray:=lr ByteArray .string fun _=>rfl
def aD {α β:Type} (R:Rep α) (S:Rep β):Rep (α×β) where
 size:=R.size+S.size
 rd I cs x:= ∃c d,cs=c++d/\R.rd I c x.1/\S.rd I d x.2
 own I w cs x F:= ∃c d G K,cs=c++d/\F=G++K/\R.own I w c x.1 G/\S.own I w d x.2 K
 rd_len:=by
  rintro I cs x ⟨c,d,rfl,h1,h2⟩
  rw[aC,R.rd_len h1,S.rd_len h2]
 rd_one:=by
  rintro I cs x ⟨c,d,rfl,h1,h2⟩ u hu
  rcases aH hu with h | h
  ·exact R.rd_one h1 u h
  ·exact S.rd_one h2 u h
 rd_mono:=by
  rintro I J cs x ⟨c,d,rfl,h1,h2⟩ h
  exact ⟨c,d,rfl,R.rd_mono h1 h,S.rd_mono h2 h⟩
 own_len:=by
  rintro I w cs x F ⟨c,d,G,K,rfl,rfl,h1,h2⟩
  rw[aC,R.own_len h1,S.own_len h2]
 own_one:=by
  rintro I w cs x F ⟨c,d,G,K,rfl,rfl,h1,h2⟩ u hu
  rcases aH hu with h | h
  ·exact R.own_one h1 u h
  ·exact S.own_one h2 u h
 own_mono:=by
  rintro I J w cs x F ⟨c,d,G,K,rfl,rfl,h1,h2⟩ h
  exact ⟨c,d,G,K,rfl,rfl,R.own_mono h1 h,S.own_mono h2 h⟩
 own_stay:=by
  rintro I w w' cs x F ⟨c,d,G,K,rfl,rfl,h1,h2⟩ h
  exact ⟨c,d,G,K,rfl,rfl,R.own_stay h1 fun b hb=>h b (aZ _ hb),S.own_stay h2 fun b hb=>h b (bc _ hb)⟩
 own_live:=by
  rintro I w cs x F ⟨c,d,G,K,rfl,rfl,h1,h2⟩ b hb
  rcases aH hb with h | h
  ·exact R.own_live h1 b h
  ·exact S.own_live h2 b h
 own_rd:=by
  rintro I J w cs x F ⟨c,d,G,K,rfl,rfl,h1,h2⟩ hJ h
  exact ⟨c,d,rfl,R.own_rd h1 hJ fun b hb=>h b (aZ _ hb),S.own_rd h2 hJ fun b hb=>h b (bc _ hb)⟩
def tm {α:Type} (R:Rep α):Rep α where
 size:=R.size
 rd:=R.rd
 own I _ cs a F:=F= [] /\R.rd I cs a
 rd_len:=R.rd_len
 rd_one:=R.rd_one
 rd_mono:=R.rd_mono
 own_len h:=R.rd_len h.2
 own_one h:=R.rd_one h.2
 own_mono h k:=⟨h.1,R.rd_mono h.2 k⟩
 own_stay h _:=h
 own_live h:=by rw[h.1];intro b hb;cases hb
 own_rd h k _:=R.rd_mono h.2 k
def OwnEls {α:Type} (R:Rep α) (I:Hp) (w:World):List Value->List α->List Nat->Prop
 | _,[],F=>F= []
 | cur,x::xs,F=> ∃c rest G K,cur=c++rest/\c.length=R.size/\F=G++K/\R.own I w c x G/\OwnEls R I w rest xs K
section
variable {α:Type} {R:Rep α} {I J:Hp}
theorem OwnEls.stay {w w':World} : ∀ {xs:List α} {cur F},OwnEls R I w cur xs F->(∀b,b∈F->w'.heap[b]? =w.heap[b]?)->OwnEls R I w' cur xs F
 | [],_,_,h,_=>h
 | x::xs,cur,F,⟨c,rest,G,K,h1,h2,h3,h4,h5⟩,h=>by
  subst h3
  exact ⟨c,rest,G,K,h1,h2,rfl,R.own_stay h4 fun b hb=>h b (aZ _ hb),h5.stay fun b hb=>h b (bc _ hb)⟩
theorem OwnEls.mono {w:World} : ∀ {xs:List α} {cur F},OwnEls R I w cur xs F->I.le J->OwnEls R J w cur xs F
 | [],_,_,h,_=>h
 | x::xs,cur,F,⟨c,rest,G,K,h1,h2,h3,h4,h5⟩,h=>⟨c,rest,G,K,h1,h2,h3,R.own_mono h4 h,h5.mono h⟩
theorem OwnEls.live {w:World} : ∀ {xs:List α} {cur F},OwnEls R I w cur xs F-> ∀b,b∈F->b<w.heap.size
 | [],_,_,h,b,hb=>by rw[show _= [] from h] at hb;cases hb
 | x::xs,cur,F,⟨c,rest,G,K,_,_,h3,h4,h5⟩,b,hb=>by
  subst h3
  rcases aH hb with h | h
  ·exact R.own_live h4 b h
  ·exact h5.live b h
theorem OwnEls.at {w:World} : ∀ {xs:List α} {cur F},OwnEls R I w cur xs F->I.le J->(∀b,b∈F->J b=w.heap[b]?)-> ∀(i:Nat) x,xs[i]? =some x-> ∃c:List Value,c.length=R.size/\(∀j,j<R.size->cur[i*R.size+j]? =c[j]?)/\R.rd J c x
 | [],_,_,_,_,_,i,x,hx=>by grind
 | y::xs,cur,F,⟨c,rest,G,K,h1,h2,h3,h4,h5⟩,hJ,hB,i,x,hx=>by
  subst h3;match i,hx with
  | 0,hx =>
   simp at hx;subst hx
   exact ⟨c,h2,fun j hj=>by grind,R.own_rd h4 hJ fun b hb=>hB b (aZ _ hb)⟩
  | i+1,hx =>
   have ⟨d,e1,e2,e3⟩:=h5.at hJ (fun b hb=>hB b (bc _ hb)) i x (by grind)
   grind
theorem OwnEls.rest {w:World} : ∀ {xs:List α} {cur cur' F},OwnEls R I w cur xs F->cur'.take (xs.length*R.size)=cur.take (xs.length*R.size)->OwnEls R I w cur' xs F
 | [],_,_,_,h,_=>h
 | y::xs,cur,cur',F,⟨c,rest,G,K,h1,h2,h3,h4,h5⟩,h=>by
  subst h1
  rw[aK,Nat.add_mul,Nat.one_mul,Nat.add_comm] at h
  rw[List.take_append,List.take_of_length_le (l:=c) (by omega),h2,Nat.add_sub_cancel_left] at h
  have e0:cur'.take R.size=c:=by
   have:=congrArg (List.take R.size) h
   rw[List.take_take,Nat.min_eq_left (by omega),<-h2,List.take_left,h2] at this
   exact this
  refine ⟨c,cur'.drop R.size,G,K,?_,h2,h3,h4,h5.rest ?_⟩
  ·rw[<-e0,List.take_append_drop]
  ·have:=congrArg (List.drop R.size) h
   grind
theorem OwnEls.join {w:World} : ∀ {xs ys:List α} {cur rest F G},OwnEls R I w cur xs F->cur.length=xs.length*R.size->OwnEls R I w rest ys G->OwnEls R I w (cur++rest) (xs++ys) (F++G)
 | [],ys,cur,rest,F,G,h,hl,k=>by
  have:cur= []:=List.eq_nil_of_length_eq_zero (by grind)
  subst this
  rw[show F= [] from h]
  exact k
 | x::xs,ys,cur,rest,F,G,⟨c,r,G1,K,h1,h2,h3,h4,h5⟩,hl,k=>by
  subst h1;subst h3
  refine ⟨c,r++rest,G1,K++G,by simp,h2,by simp,h4,h5.join ?_ k⟩
  grind
theorem OwnEls.parts {w:World} : ∀ {xs ys:List α} {cur F},OwnEls R I w cur (xs++ys) F-> ∃G K,F=G++K/\OwnEls R I w cur xs G/\OwnEls R I w (cur.drop (xs.length*R.size)) ys K
 | [],ys,cur,F,h=>⟨[],F,rfl,rfl,by simp_all⟩
 | x::xs,ys,cur,F,⟨c,r,G1,K,h1,h2,h3,h4,h5⟩=>by
  have ⟨G,K',e1,e2,e3⟩:=h5.parts
  subst h1;subst h3;subst e1
  refine ⟨G1++G,K',by simp,⟨c,r,G1,G,rfl,h2,rfl,h4,e2⟩,?_⟩
  simp_all[aK,Nat.add_mul,Nat.one_mul,Nat.add_comm,List.drop_append,List.drop_of_length_le,Nat.add_sub_cancel_left]
end
def af {α:Type} (E:TypeId) (R:Rep α):Rep (List α) where
 size:=1
 rd I cs xs:= ∃ao cap,cs= [.slice ao xs.length cap] /\(xs.length<=lim/\xs.length<=cap)/\(xs= [] \/ ∃b off ccs t fr,ao=some ⟨b,off,none⟩/\I b=some (.cells ccs t fr) /\
  ∀i x,xs[i]? =some x-> ∃c:List Value,c.length=R.size/\(∀j,j<R.size->ccs.toList[off+i*R.size+j]? =c[j]?)/\R.rd I c x)
 own I w cs xs F:=xs.length<=lim/\((cs= [.slice none 0 0] /\xs= [] /\F= []) \/
  ∃g ofs cap cur K,cs= [.slice (some ⟨g,ofs,none⟩) xs.length cap] /\w.heap[g]? =some (.cells cur E (0,0))/\xs.length<=cap/\cap<=maxLen/\ofs+cap*R.size<=cur.size/\F=g::K/\OwnEls R I w (cur.toList.drop ofs) xs K)
 rd_len:=by rintro I cs xs ⟨ao,cap,rfl,_⟩;rfl
 rd_one:=by rintro I cs xs ⟨ao,cap,rfl,_⟩ u hu;simp at hu;subst hu;rfl
 rd_mono:=by
  rintro I J cs xs ⟨ao,cap,rfl,hl,h⟩ hJ
  refine ⟨ao,cap,rfl,hl,?_⟩
  rcases h with h | ⟨b,off,ccs,t,fr,h1,h2,h4⟩
  ·exact .inl h
  ·exact .inr ⟨b,off,ccs,t,fr,h1,hJ _ _ h2,fun i x hx=>let ⟨c,e1,e2,e3⟩:=h4 i x hx; ⟨c,e1,e2,R.rd_mono e3 hJ⟩⟩
 own_len:=by
  rintro I w cs xs F ⟨hl,h⟩
  rcases h with ⟨rfl,_⟩ | ⟨g,ofs,cap,cur,K,rfl,_⟩ <;> rfl
 own_one:=by
  rintro I w cs xs F ⟨hl,h⟩ u hu
  rcases h with ⟨rfl,_⟩ | ⟨g,ofs,cap,cur,K,rfl,_⟩ <;> (simp at hu;subst hu;rfl)
 own_mono:=by
  rintro I J w cs xs F ⟨hl,h⟩ hJ
  refine ⟨hl,?_⟩
  rcases h with h | ⟨g,ofs,cap,cur,K,h1,h2,h3,h4,h5,h6,h7⟩
  ·exact .inl h
  ·exact .inr ⟨g,ofs,cap,cur,K,h1,h2,h3,h4,h5,h6,h7.mono hJ⟩
 own_stay:=by
  rintro I w w' cs xs F ⟨hl,h⟩ hw
  refine ⟨hl,?_⟩
  rcases h with h | ⟨g,ofs,cap,cur,K,h1,h2,h3,h4,h5,rfl,h6⟩
  ·exact .inl h
  ·exact .inr ⟨g,ofs,cap,cur,K,h1,by rw[hw g (by simp)];exact h2,h3,h4,h5,rfl,h6.stay fun b hb=>hw b (by simp[hb])⟩
 own_live:=by
  rintro I w cs xs F ⟨hl,h⟩ b hb
  rcases h with ⟨_,_,rfl⟩ | ⟨g,ofs,cap,cur,K,h1,h2,h3,h4,h5,rfl,h6⟩
  ·cases hb
  ·rcases ax hb with rfl | hb
   ·exact (Array.getElem?_eq_some_iff.1 h2).1
   ·exact h6.live b hb
 own_rd:=by
  rintro I J w cs xs F ⟨hl,h⟩ hJ hB
  rcases h with ⟨rfl,rfl,rfl⟩ | ⟨g,ofs,cap,cur,K,rfl,h2,h3,h4,h5,rfl,h6⟩
  ·exact ⟨none,0,rfl,by simp,.inl rfl⟩
  ·refine ⟨some ⟨g,ofs,none⟩,cap,rfl,⟨hl,h3⟩,.inr ⟨g,ofs,cur,E,(0,0),rfl,by rw[hB g (by simp)];exact h2,fun i x hx=>?_⟩⟩
   obtain ⟨c,e1,e2,e3⟩:=h6.at hJ (fun b hb=>hB b (by simp[hb])) i x hx
   exact ⟨c,e1,fun j hj=>by rw[Nat.add_assoc,<-List.getElem?_drop];exact e2 j hj,e3⟩
structure Ch where
 holds:Hp->World->List Nat->Prop
 mono: ∀ {I J w F},holds I w F->I.le J->holds J w F
 stay: ∀ {I w w' F},holds I w F->(∀b,b∈F->w'.heap[b]? =w.heap[b]?)->holds I w' F
 live: ∀ {I w F},holds I w F-> ∀b,b∈F->b<w.heap.size
def Ch.own {α:Type} (R:Rep α) (cs:List Value) (a:α):Ch:=⟨fun I w F=>R.own I w cs a F,fun h=>R.own_mono h,fun h=>R.own_stay h,fun h=>R.own_live h⟩
def Ch.blk (g:Nat) (cs:List Value) (E:TypeId):Ch:=
 ⟨fun _ w F=>F= [g] /\w.heap[g]? =some (.cells cs.toArray E (0,0)),fun h _=>h,fun h hw=>⟨h.1,by rw[hw g (by rw[h.1];simp)];exact h.2⟩,fun h b hb=>by rw[h.1] at hb;simp at hb;subst hb;exact (Array.getElem?_eq_some_iff.1 h.2).1⟩
def Sep (I:Hp):List Ch->World->List Nat->Prop
 | [],_,F=>F= []
 | c::cs,w,F=> ∃G K,F=G++K/\c.holds I w G/\Sep I cs w K
section
variable {I J:Hp}
theorem Sep.stay {w w':World} : ∀ {cs F},Sep I cs w F->(∀b,b∈F->w'.heap[b]? =w.heap[b]?)->Sep I cs w' F
 | [],_,h,_=>h
 | c::cs,F,⟨G,K,h1,h2,h3⟩,h=>by
  subst h1
  exact ⟨G,K,rfl,c.stay h2 fun b hb=>h b (aZ _ hb),h3.stay fun b hb=>h b (bc _ hb)⟩
theorem Sep.mono {w:World} : ∀ {cs F},Sep I cs w F->I.le J->Sep J cs w F
 | [],_,h,_=>h
 | c::cs,F,⟨G,K,h1,h2,h3⟩,h=>⟨G,K,h1,c.mono h2 h,h3.mono h⟩
theorem Sep.live {w:World} : ∀ {cs F},Sep I cs w F-> ∀b,b∈F->b<w.heap.size
 | [],_,h,b,hb=>by rw[show _= [] from h] at hb;cases hb
 | c::cs,F,⟨G,K,h1,h2,h3⟩,b,hb=>by
  subst h1
  rcases aH hb with h | h
  ·exact c.live h2 b h
  ·exact h3.live b h
theorem Sep.append {w:World} : ∀ {cs ds F G},Sep I cs w F->Sep I ds w G->Sep I (cs++ds) w (F++G)
 | [],ds,F,G,h,k=>by rw[show F= [] from h];exact k
 | c::cs,ds,F,G,⟨G1,K,h1,h2,h3⟩,k=>by
  subst h1
  exact ⟨G1,K++G,by simp,h2,h3.append k⟩
theorem Sep.split {w:World} : ∀ {cs ds F},Sep I (cs++ds) w F-> ∃G K,F=G++K/\Sep I cs w G/\Sep I ds w K
 | [],ds,F,h=>⟨[],F,rfl,rfl,h⟩
 | c::cs,ds,F,⟨G,K,h1,h2,h3⟩=>by
  have ⟨G',K',e1,e2,e3⟩:=Sep.split h3
  subst e1;subst h1
  exact ⟨G++G',K',by simp,⟨G,G',rfl,h2,e2⟩,e3⟩
theorem Sep.perm {w:World} {cs ds:List Ch} (h:cs.Perm ds): ∀ {F},Sep I cs w F-> ∃G,G.Perm F/\Sep I ds w G:=by
 induction h with
 | nil=>grind
 | cons c _ ih =>
  rintro F ⟨G,K,rfl,h2,h3⟩
  have ⟨K',e1,e2⟩:=ih h3
  exact ⟨G++K',e1.append_left G,G,K',rfl,h2,e2⟩
 | swap a b l =>
  rintro F ⟨G,K,rfl,h2,⟨G',K',rfl,h4,h5⟩⟩
  exact ⟨G'++(G++K'),List.perm_append_comm_assoc _ _ _,G',G++K',rfl,h4,G,K',rfl,h2,h5⟩
 | trans _ _ ih1 ih2 =>
  grind
end
def St (I:Hp) (w0 w:World) (cs:List Ch):Prop:=
 (w.os=w0.os/\w.tape=w0.tape/\w.output=w0.output/\w0.heap.size<=w.heap.size)/\I.le (hp w)/\ ∃F,Sep I cs w F/\F.Nodup/\ ∀b,b∈F->I b=none
section
variable {I J:Hp} {w0 w w':World} {cs ds:List Ch}
theorem St.init (w:World):St (hp w) w w []:=⟨⟨rfl,rfl,rfl,aF _⟩,.rfl,[],rfl,List.nodup_nil,by simp⟩
theorem St.perm (h:St I w0 w cs) (hp:cs.Perm ds):St I w0 w ds:=by
 have ⟨hb,hi,F,h1,h2,h3⟩:=h
 have ⟨G,e1,e2⟩:=h1.perm hp
 exact ⟨hb,hi,G,e2,e1.nodup_iff.2 h2,fun b hb'=>h3 b (e1.mem_iff.1 hb')⟩
theorem LQ {α:Type} {l:List α} {c:α} : ∀ {i:Nat},l[i]? =some c->l.Perm (c::l.eraseIdx i):=by
 induction l with
 | nil=>grind
 | cons x l ih =>
  intro i h
  cases i with
  | zero=>simp_all
  | succ i=>exact ((ih (by grind)).cons x).trans (.swap _ _ _)
theorem St.front (h:St I w0 w cs) {c:Ch} (i:Nat) (hi:cs[i]? =some c):St I w0 w (c::cs.eraseIdx i):=h.perm (LQ hi)
theorem St.tail {c:Ch} (h:St I w0 w (c::cs)):St I w0 w cs:=by
 obtain ⟨hb,hi,F,⟨G,K,rfl,e2,e3⟩,h2,h3⟩:=h
 exact ⟨hb,hi,K,e3,(List.nodup_append.1 h2).2.1,fun b hb'=>h3 b (bc _ hb')⟩
theorem St.left (h:St I w0 w (cs++ds)):St I w0 w cs:=by
 have ⟨hb,hi,F,h1,h2,h3⟩:=h
 obtain ⟨G,K,rfl,e2,e3⟩:=h1.split
 exact ⟨hb,hi,G,e2,(List.nodup_append.1 h2).1,fun b hb'=>h3 b (aZ _ hb')⟩
theorem St.step {c:List Ch} {c':List Ch} (h:St I w0 w (c++cs)) (ho:w'.os=w.os) (ht:w'.tape=w.tape) (hu:w'.output=w.output) (hz:w.heap.size<=w'.heap.size)
  (hs: ∀F,Sep I c w F->F.Nodup->(∀b,b∈F->I b=none)->(∀b,b<w.heap.size->b∉F->w'.heap[b]? =w.heap[b]?)/\ ∃F',Sep I c' w' F'/\F'.Nodup/\ ∀b,b∈F'->b∈F\/w.heap.size<=b):St I w0 w' (c'++cs):=by
 have ⟨⟨b1,b2,b3,b4⟩,hi,F,h1,h2,h3⟩:=h
 obtain ⟨G,K,rfl,e2,e3⟩:=h1.split
 have ⟨n1,n2,n3⟩:=List.nodup_append.1 h2
 have ⟨k1,G',k2,k3,k4⟩:=hs G e2 n1 fun b hb=>h3 b (aZ _ hb)
 have hK:=fun b hb'=>k1 b (e3.live b hb') fun hg=>n3 b hg b hb' rfl
 have hlt:=fun b o hb=>(Array.getElem?_eq_some_iff.1 (hi b o hb)).1
 refine ⟨⟨ho.trans b1,ht.trans b2,hu.trans b3,Nat.le_trans b4 hz⟩,fun b o hb=>?_,G'++K,k2.append (e3.stay hK),List.nodup_append.2 ⟨k3,n2,?_⟩,?_⟩
 ·show w'.heap[b]? =some o
  rw[k1 b (hlt b o hb) fun hg=>by grind]
  exact hi b o hb
 ·rintro b hb1 c hb2 rfl
  rcases k4 b hb1 with h | h
  ·grind
  ·have:=e3.live b hb2;omega
 ·intro b hb'
  rcases aH hb' with h | h
  ·rcases k4 b h with h | h
   ·grind
   ·cases hI:I b with
    | none=>rfl
    | some o=>grind
  grind
theorem St.drawn (h:St I w0 w cs) (ho:w'.os=w.os) (ht:w'.tape=w.tape) (hu:w'.output=w.output) (hz:w'.heap=w.heap):St I w0 w' cs:=by
 refine St.step (w:=w) (c:=[]) (c':=[]) h ho ht hu (by grind) ?_
 rintro F rfl - -
 exact ⟨fun b hb _=>by rw[hz],[],rfl,List.nodup_nil,by simp⟩
def Ch.fr (I:Hp) (cs:List Ch):Ch:=⟨fun _ w F=>Sep I cs w F,fun h _=>h,fun h=>h.stay,fun h=>h.live⟩
def Ch.deep (c:Ch):Prop:= ∀ {I J w F},c.holds J w F->c.holds I w F
def Ch.deeps:List Ch->Prop
 | [] =>True
 | c::cs=>c.deep/\Ch.deeps cs
theorem Sep.deeps {w:World} : ∀ {cs F},Ch.deeps cs->Sep J cs w F->Sep I cs w F
 | [],_,_,h=>h
 | c::cs,F,hd,⟨G,K,h1,h2,h3⟩=>⟨G,K,h1,hd.1 h2,h3.deeps hd.2⟩
theorem St.lend {ls:List Ch} (h:St I w0 w (ls++cs)): ∃J,I.le J/\(∀ {α:Type} (R:Rep α) (v:List Value) (a:α),Ch.own R v a∈ls->R.rd J v a)/\(∀g l E,Ch.blk g l E∈ls->J g=some (.cells l.toArray E (0,0)))/\St J w0 w [Ch.fr I cs] /\
  ∀w' ds,Ch.deeps ds->St J w0 w' (ds++ [Ch.fr I cs])->St I w0 w' (ds++(ls++cs)):=by
 have ⟨hb,hi,F,h1,h2,h3⟩:=h
 obtain ⟨G,K,rfl,e2,e3⟩:=h1.split
 have ⟨n1,n2,n3⟩:=List.nodup_append.1 h2
 let J:=fun b=>if b∈G then w.heap[b]? else I b
 have hIJ:I.le J:=fun b o hb'=>by
  grind
 have hJG: ∀b,b∈G->J b=w.heap[b]? :=fun b hb'=>if_pos hb'
 have hJn: ∀b,b∉G->J b=I b:=fun b hb'=>if_neg hb'
 have hmem: ∀ {ls:List Ch} {G:List Nat} {c:Ch},Sep I ls w G->c∈ls-> ∃G',(∀b,b∈G'->b∈G)/\c.holds I w G':=by
  intro ls
  induction ls with
  | nil=>grind
  | cons d ls ih =>
   rintro G c ⟨G1,K1,rfl,e,e'⟩ hc
   grind
 refine ⟨J,hIJ,fun R v a hm=>?_,fun g l E hm=>?_,⟨hb,fun b o hb'=>?_,K,⟨K,[],by simp,e3,rfl⟩,n2,fun b hb'=>?_⟩,?_⟩
 ·have ⟨G',f1,f2⟩:=hmem e2 hm
  exact R.own_rd f2 hIJ fun b hb=>hJG b (f1 b hb)
 ·have ⟨G',f1,f2,f3⟩:=hmem e2 hm
  grind
 ·by_cases hg:b∈G
  ·rw[hJG b hg] at hb';exact hb'
  ·rw[hJn b hg] at hb';exact hi b o hb'
 ·grind
 ·rintro w' ds hd ⟨kb,ki,F',k1,k2,k3⟩
  obtain ⟨F1,F2,rfl,q1,F3,F4,rfl,q4,rfl⟩:=k1.split
  have hl2:=e2.live
  have hlv: ∀b,b∈G->w'.heap[b]? =w.heap[b]? :=fun b hg=>by
   have ⟨o,ho⟩: ∃o,w.heap[b]? =some o:=⟨_,Array.getElem?_eq_getElem (hl2 b hg)⟩
   rw[ho]
   exact ki b o (by grind)
  refine ⟨kb,hIJ.trans ki,F1++(G++F3),(q1.deeps hd).append ((e2.stay hlv).append q4),?_,fun b hb'=>?_⟩
  ·grind
  grind
theorem St.freeze {α:Type} {R:Rep α} {v:List Value} {a:α} (h:St I w0 w (Ch.own R v a::cs)): ∃J,I.le J/\R.rd J v a/\St J w0 w cs:=by
 obtain ⟨hb,hi,F,⟨G,K,rfl,e2,e3⟩,h2,h3⟩:=h
 have ⟨n1,n2,n3⟩:=List.nodup_append.1 h2
 refine ⟨fun b=>if b∈G then w.heap[b]? else I b,fun b o hb'=>?_,R.own_rd e2 (fun b o hb'=>?_) fun b hb'=>if_pos hb',hb,fun b o hb'=>?_,K,e3.mono fun b o hb'=>?_,n2,fun b hb'=>?_⟩
 ·grind
 ·grind
 ·have hb'':(if b∈G then w.heap[b]? else I b)=some o:=hb'
  split at hb''
  ·exact hb''
  ·exact hi b o hb''
 ·grind
 grind
theorem St.freeze_blk {g:Nat} {l:List Value} {E:TypeId} (h:St I w0 w (Ch.blk g l E::cs)): ∃J,I.le J/\J g=some (.cells l.toArray E (0,0))/\St J w0 w cs:=by
 obtain ⟨hb,hi,F,⟨G,K,rfl,⟨rfl,e2⟩,e3⟩,h2,h3⟩:=h
 have ⟨n1,n2,n3⟩:=List.nodup_append.1 h2
 refine ⟨fun b=>if b ∈ [g] then w.heap[b]? else I b,fun b o hb'=>?_,(if_pos (by simp)).trans e2,hb,fun b o hb'=>?_,K,e3.mono fun b o hb'=>?_,n2,fun b hb'=>?_⟩
 ·grind
 ·have hb'':(if b ∈ [g] then w.heap[b]? else I b)=some o:=hb'
  split at hb''
  ·exact hb''
  ·exact hi b o hb''
 ·grind
 grind
theorem St.heap (h:St I w0 w cs) {g:Nat} {l:List Value} {E:TypeId} (i:Nat) (hi:cs[i]? =some (Ch.blk g l E)):w.heap[g]? =some (.cells l.toArray E (0,0)):=by
 have ⟨hb,_,F,⟨G,K,e1,e2,e3⟩,h2,h3⟩:=h.front i hi
 exact e2.2
theorem St.alloc (h:St I w0 w cs) (l:List Value) (E:TypeId):St I w0 (w.alloc (.cells l.toArray E)) (Ch.blk w.heap.size l E::cs):=by
 refine St.step (w:=w) (c:=[]) (c':=[Ch.blk w.heap.size l E]) (w':=w.alloc (.cells l.toArray E)) h rfl rfl rfl (by simp) ?_
 rintro F rfl - -
 refine ⟨fun b hb _=>?_,[w.heap.size],⟨[w.heap.size],[],rfl,⟨rfl,heap_alloc_new w _⟩,rfl⟩,by simp,by simp⟩
 show (w.heap.push _)[b]? =_
 grind
theorem fw {w:World} {g o:Nat} {v:Value} {cur:Array Value} {E:TypeId} {fr:Nat×Nat} (h:w.heap[g]? =some (.cells cur E fr)):(w.setCell ⟨g,o,none⟩ v).heap[g]? =some (.cells (cur.setIfInBounds o v) E fr):=by
 simp[World.setCell,Array.getElem?_modify,h]
theorem St.set {g:Nat} {l:List Value} {E:TypeId} (h:St I w0 w (Ch.blk g l E::cs)) (j:Nat) (v:Value):St I w0 (w.setCell ⟨g,j,none⟩ v) (Ch.blk g (l.set j v) E::cs):=by
 refine St.step (c:=[Ch.blk g l E]) (c':=[Ch.blk g (l.set j v) E]) (w':=w.setCell ⟨g,j,none⟩ v) h rfl rfl rfl (by simp) ?_
 rintro F ⟨G,K,rfl,⟨rfl,h2⟩,rfl⟩ - -
 refine ⟨fun b hb hn=>Below.heap_setCell _ _ _ _ (by grind),[g],⟨[g],[],rfl,⟨rfl,?_⟩,rfl⟩,by simp,by simp⟩
 rw[fw h2];simp
end
end D
namespace D
open Go.RowKit
def evL (L:List (Nat×Value)):Operand->Value
 | .tmp t=>(L.lookup t).getD undef
 | .const v=>v
 | .global g=>.pointer (some ⟨g,0,none⟩)
 | .func f=>.func (.func f) #[] #[]
def NA (L:List (Nat×Value)):Operand->Bool
 | .tmp t=>(L.lookup t).isSome
 | _=>true
def D1 (L:List (Nat×Value)) (o:Oper):Bool:=o.op.operands.toList.all (NA L)
def Agr (n:Nat) (a:Act) (L:List (Nat×Value)):Prop:=a.defers= [] /\a.tmps.size=n/\ ∀t v,L.lookup t=some v->a.tmps.getD t undef=v
def RA (d:Option Tmp) (v:Value) (L:List (Nat×Value)):List (Nat×Value):=
 match d with
 | some d=>(d,v)::L
 | none=>L
def dstOk (n:Nat):Option Tmp->Bool
 | some d=>decide (d<n)
 | none=>true
section
variable {n:Nat} {a:Act} {L L':List (Nat×Value)}
theorem Agr.eval (h:Agr n a L) {x:Operand} (hx:NA L x=true):a.eval x=evL L x:=by
 cases x with
 | tmp t =>
  have ⟨v,hv⟩:=Option.isSome_iff_exists.1 hx
  simp only[Act.eval,evL,hv]
  exact h.2.2 t v hv
 | _=>rfl
theorem vG {l:Array Value} {d:Nat} {v x:Value} (h:d<l.size):(l.setIfInBounds d v).getD d x=v:=by
 simp_all
theorem getD_set_ne {l:Array Value} {d t:Nat} {v x:Value} (h:d≠t):(l.setIfInBounds d v).getD t x=l.getD t x:=by
 simp_all
theorem Agr.put (h:Agr n a L) {d:Option Tmp} (v:Value) (hd:dstOk n d=true):Agr n (a.put d v) (RA d v L):=by
 cases d with
 | none=>exact h
 | some d =>
  have hd:d<n:=by simpa [dstOk] using hd
  refine ⟨h.1,by simp[Act.put,h.2.1],fun t u hu=>?_⟩
  simp[RA,List.lookup_cons] at hu
  by_cases e:t=d
  ·subst e
   simp at hu;subst hu
   exact vG (by rw[h.2.1];exact hd)
  ·have:(t==d)=false:=by simpa using e
   rw[this] at hu
   show (a.tmps.setIfInBounds d v).getD t undef=u
   rw[getD_set_ne (fun e'=>e e'.symm)]
   exact h.2.2 t u hu
theorem Agr.sub (h:Agr n a L) (hs: ∀t v,L'.lookup t=some v->L.lookup t=some v):Agr n a L':=⟨h.1,h.2.1,fun t v hv=>h.2.2 t v (hs t v hv)⟩
theorem Agr.pick (h:Agr n a L) (L':List (Nat×Value)) (hs: ∀p∈L',L.lookup p.1=some p.2):Agr n a L':=by
 refine h.sub fun t v hv=>?_
 have: ∀(M:List (Nat×Value)),(∀p∈M,L.lookup p.1=some p.2)->M.lookup t=some v->L.lookup t=some v:=by
  intro M
  induction M with
  | nil=>grind
  | cons p M ih =>
   grind
 grind
theorem Agr.start {args:Array Value} {m:Nat} (L:List (Nat×Value)) (hn:args.size+m=n) (hs: ∀p∈L,args[p.1]? =some p.2):Agr n { tmps:=args++Array.replicate m undef,defers:=[] } L:=by
 have h0:Agr n { tmps:=args++Array.replicate m undef,defers:=[] } (args.toList.zipIdx.map fun p=>(p.2,p.1)):=by
  refine ⟨rfl,by grind,fun t v hv=>?_⟩
  have key: ∀(l:List Value) (k:Nat),((l.zipIdx k).map fun p=>(p.2,p.1)).lookup t=some v->k<=t/\l[t - k]? =some v:=by
   intro l
   induction l with
   | nil=>grind
   | cons x l ih =>
    grind[List.zipIdx_cons]
  obtain ⟨-,h2⟩:=key _ 0 hv
  rw[Nat.sub_zero,Array.getElem?_toList] at h2
  have hlt:=(Array.getElem?_eq_some_iff.1 h2).1
  rw[Array.getD_eq_getD_getElem?,Array.getElem?_append_left hlt,h2];rfl
 refine h0.pick L fun p hp=>?_
 have key: ∀(l:List Value) (k:Nat),k<=p.1->l[p.1 - k]? =some p.2->((l.zipIdx k).map fun p=>(p.2,p.1)).lookup p.1=some p.2:=by
  intro l
  induction l with
  | nil=>grind
  | cons x l ih =>
   grind[List.zipIdx_cons]
 grind
end
def Upon (P:Program) (ok:Value->World->Prop):Result Next->Prop
 | .ok (.value v) w'=>ok v w'
 | .ok .skip w'=>ok undef w'
 | .ok (.enter f args) w'=>Calls P f args w' fun e w''=> ∃v,e= .returned v/\ok v w''
 | _=>False
def OpT (P:Program) (I:Hp) (w0:World) (o:Oper) (ev:Operand->Value) (rn:List Ch) (fact:Value->Prop) (gv:Value->List Ch):Prop:=
 ∀w C,St I w0 w (rn++C)->Upon P (fun v w'=>fact v/\St I w0 w' (gv v++C)) ((execOp ev o).run P w)
theorem Upon.wp {P:Program} {o:Oper} {a:Act} {w:World} {ok:Value->World->Prop} {K:Act->World->Prop} {Q:Exit->Act->World->Prop} (hr:Upon P ok ((execOp a.eval o).run P w)) (hk: ∀v w',ok v w'->K (a.put o.dst v) w'):o.wp P a w K Q:=by
 unfold Oper.wp
 generalize (execOp a.eval o).run P w=r at hr
 cases r with
 | halt h w'=>exact hr.elim
 | ok x w' =>
  cases x <;> first | exact hr.elim | exact hk _ _ hr | skip
  refine Calls.mono hr ?_
  grind
def noSelect (o:Oper):Bool:=match o.op with | .select .. =>false | _=>true
theorem qx {ρ ρ':Operand->Value} {o:Oper} (hs:noSelect o=true) (h: ∀x∈o.op.operands,ρ x=ρ' x):execOp ρ o=execOp ρ' o:=
 execOp_congr o (fun cs b e=>by grind[noSelect]) h
section
variable {P:Program} {I:Hp} {w0 w:World} {n:Nat} {a:Act} {L:List (Nat×Value)} {C0 C rn:List Ch} {ops:Array Oper} {Q:Exit->Act->World->Prop} {o:Oper} {rest:List Oper}
theorem YV {fact:Value->Prop} {gv:Value->List Ch} (ha:Agr n a L) (hs:St I w0 w C0) (hg:o.guard=none) (hop:OpT P I w0 o (evL L) rn fact gv) (hp:C0.Perm (rn++C)) (hk:(D1 L o&&dstOk n o.dst&&noSelect o)=true)
  (k: ∀v a w,fact v->Agr n a (RA o.dst v L)->St I w0 w (gv v++C)->wpList P ops Q rest a w):wpList P ops Q (o::rest) a w:=by
 simp[ai] at hk
 have ⟨⟨hk1,hk2⟩,hk3⟩:=hk
 refine wpList_plain hg fun K hK=>?_
 have he:=qx hk3 fun x hx=>ha.eval ((List.all_eq_true.1 hk1) x (by grind))
 have h:=hop w C (hs.perm hp)
 rw[<-he] at h
 exact h.wp fun v w' hv=>hK _ _ (k v _ w' hv.1 (ha.put v hk2) hv.2)
end
end D
namespace D
open Go.RowKit
structure OpRec where
 reads:List Nat
 needs:List Nat
 gives:List Nat
 deps:List Nat
 fact:List Value->Prop
 src:List (Nat×Option Nat)
structure ResRec where
 deps:List Nat
 ch:List Value->Ch
structure Plan where
 ops:List OpRec
 res:List ResRec
 base:List Nat
 pre:List (List Nat)
 fin:List (Nat×Option Nat)
 left:List Nat
def upd (vs:Nat->Value) (i:Nat) (v:Value):Nat->Value:=fun j=>if j=i then v else vs j
theorem iN {vs:Nat->Value} {i:Nat} {v:Value} :upd vs i v i=v:=by simp[upd]
theorem Kf {vs:Nat->Value} {i j:Nat} {v:Value} (h:j≠i):upd vs i v j=vs j:=by simp[upd,h]
namespace Plan
def op (p:Plan) (i:Nat):OpRec:=p.ops.getD i ⟨[],[],[],[],fun _=>True,[]⟩
def chunk (p:Plan) (r:Nat) (vs:Nat->Value):Ch:=
 match p.res[r]? with
 | some x=>x.ch (x.deps.map vs)
 | none=>Ch.fr (fun _=>none) []
def fact (p:Plan) (i:Nat) (vs:Nat->Value):Prop:=(p.op i).fact ((p.op i).deps.map vs)
end Plan
def edgesOf (o:Oper):List Nat:=(o.after.toList.filter (Region.binds .any)).map (·.on)
def slotsOf (ops:Array Oper) (o:Oper):List Nat:=o.looksAt ops
def LR (o:Oper) (vs:Nat->Value):Option Bool:=
 match o.guard with
 | none=>some true
 | some (g,want)=>match vs g with
  | .bool b=>some (b==want)
  | _=>some false
section
variable {p:Plan} {C:List Ch} {P:Program} {I:Hp} {w0:World} {n:Nat} {L:List (Nat×Value)} {ops:List Oper} {S:Nat->Bool} {vs:Nat->Value} {a:Act} {w:World} {i:Nat} {o:Oper}
theorem mem_ready {ops:Array Oper} {listed:Array Bool} {i:Nat} :i∈Region.ready .any ops listed↔i<ops.size/\listed.getD i true=false/\ ∀o,ops[i]? =some o-> ∀j,j∈edgesOf o->listed.getD j false=true:=by
 unfold Region.ready
 rw[List.mem_filter,List.mem_range]
 constructor
 ·grind[Array.all_eq_true',edgesOf]
 ·rintro ⟨h1,h2,h3⟩
  refine ⟨h1,?_⟩
  simp only[ai,Bool.not_eq_true']
  refine ⟨h2,?_⟩
  have ho:=Array.getElem?_eq_getElem h1
  rw[ho]
  simp only[Option.map_some,Option.getD_some,Array.all_eq_true',Bool.or_eq_true,Bool.not_eq_true']
  intro e he
  cases hb:Region.binds .any e with
  | false=>grind
  | true =>
   refine .inr (h3 _ ho _ ?_)
   grind[edgesOf]
def leftOf (m:Nat) (listed:Array Bool):Nat:=((List.range m).filter fun i=> !listed.getD i false).length
end
end D
namespace D
open Go.RowKit
def YW:TypeDesc->Bool
 | .struct _ | .array _ _=>true
 | _=>false
def TI (P:Program) (T:TypeId) (agg:Bool) (n:Nat):Prop:=(∃d,P.underlying T=some d/\YW d=agg)/\(P.info? T).map (·.size)=some n
def TZ (P:Program) (T:TypeId) (z:Value) (n bytes:Nat):Prop:=(P.info? T).map (fun i=>(i.zero,i.size,i.bytes))=some (some z,n,bytes)
def TF (P:Program) (T:TypeId) (f off n:Nat):Prop:= ∃fs fd,P.underlying T=some (.struct fs)/\fs[f]? =some fd/\fd.offset=off/\(P.info? fd.type).map (·.size)=some (n+1)
section
variable {P:Program}
theorem TI.run_agg {T:TypeId} {agg:Bool} {n:Nat} (h:TI P T agg n) (w:World):(isAgg T).run P w= .ok agg w:=by
 obtain ⟨⟨d,hd,rfl⟩,-⟩:=h
 unfold isAgg
 rw[Sem.run_bind,run_underlying hd w]
 cases d <;> rfl
theorem TI.run_size {T:TypeId} {agg:Bool} {n:Nat} (h:TI P T agg n) (w:World):(sizeOf T).run P w= .ok n w:=by
 obtain ⟨-,h⟩:=h
 cases hq:P.info? T with
 | none=>grind
 | some i =>
  simp_all[sizeOf,typeInfo]
theorem TZ.run_zero {T:TypeId} {z:Value} {n b:Nat} (h:TZ P T z n b) (w:World):(zeroValue T).run P w= .ok z w:=by
 have ⟨i,hi,h1,h2,h3⟩:=info_parts h
 simp[zeroValue,typeInfo,hi,h1]
variable {I:Hp} {w0:World} {o:Oper} {ev:Operand->Value}
theorem bd {v:Value} (h: ∀w,(execOp ev o).run P w= .ok (.value v) w):OpT P I w0 o ev [] (· =v) (fun _=>[]):=by
 intro w C hs
 rw[h]
 exact ⟨rfl,hs⟩
theorem RG {x:Operand} {v:Value} (ho:o.op= .move x) (hv:ev x=v):OpT P I w0 o ev [] (· =v) (fun _=>[]):=
 bd fun w=>by simp_all[execOp]
theorem LS {x:Operand} {v:Value} (ho:o.op= .assign x) (hv:ev x=v):OpT P I w0 o ev [] (· =v) (fun _=>[]):=
 bd fun w=>by simp_all[execOp]
theorem Kg {c x y:Operand} {b:Bool} {v:Value} (ho:o.op= .pick c x y) (hc:ev c= .bool b) (hv:(if b then ev x else ev y)=v):OpT P I w0 o ev [] (· =v) (fun _=>[]):=
 bd fun w=>by simp_all[execOp,asBool]
theorem Aj {x:Operand} {vs:Array Value} {i:Nat} {v:Value} (ho:o.op= .extract x i) (hx:ev x= .tuple vs) (hv:vs[i]? =some v):OpT P I w0 o ev [] (· =v) (fun _=>[]):=
 bd fun w=>by simp_all[execOp,Instr.extract,Result.andThen]
theorem NB {x:Operand} {t:TypeId} {b:Bool} (ho:o.op= .unOp .not t x) (hx:ev x= .bool b):OpT P I w0 o ev [] (· = .bool (!b)) (fun _=>[]):=
 bd fun w=>by simp[execOp,ho,hx];rfl
theorem V9 {x:Operand} {t:TypeId} {n:Int} (ho:o.op= .unOp .neg t x) (hx:ev x= .int .i64 n):OpT P I w0 o ev [] (· = .int .i64 (i64.wrap (-n))) (fun _=>[]):=
 bd fun w=>by simp[execOp,ho,hx,Op.unary,Op.intArith,Result.andThen]
def aba:BinOp->Bool
 | .eql | .neq | .lss | .leq | .gtr | .geq=>true
 | _=>false
def acX:BinOp->Int->Int->Bool
 | .eql,a,b=>a==b
 | .neq,a,b=>a !=b
 | .lss,a,b=>decide (a<b)
 | .leq,a,b=>decide (a<=b)
 | .gtr,a,b=>decide (a>b)
 | _,a,b=>decide (a≥b)
theorem xe {x y:Operand} {b:BinOp} {t u:TypeId} {k:IntKind} {m n:Int} {c:Bool} (ho:o.op= .binOp b t x y u) (hx:ev x= .int k m) (hy:ev y= .int k n) (hb:aba b=true) (hc:acX b m n=c):OpT P I w0 o ev [] (· = .bool c) (fun _=>[]):=
 bd fun w=>by
  subst hc
  simp[execOp,ho,hx,hy]
  cases b <;> first | exact absurd hb (by decide) | (cases k <;> rfl)
theorem Wa {x y:Operand} {t u:TypeId} {m n:Int} (ho:o.op= .binOp .add t x y u) (hx:ev x= .int .i64 m) (hy:ev y= .int .i64 n):OpT P I w0 o ev [] (· = .int .i64 (i64.wrap (m+n))) (fun _=>[]):=
 bd fun w=>by simp[execOp,ho,hx,hy];rfl
theorem Wb {x y:Operand} {t u:TypeId} {m n:Int} (ho:o.op= .binOp .sub t x y u) (hx:ev x= .int .i64 m) (hy:ev y= .int .i64 n):OpT P I w0 o ev [] (· = .int .i64 (i64.wrap (m - n))) (fun _=>[]):=
 bd fun w=>by simp[execOp,ho,hx,hy];rfl
theorem Wc {x y:Operand} {t u:TypeId} {m n:Int} (ho:o.op= .binOp .mul t x y u) (hx:ev x= .int .i64 m) (hy:ev y= .int .i64 n):OpT P I w0 o ev [] (· = .int .i64 (i64.wrap (m*n))) (fun _=>[]):=
 bd fun w=>by simp[execOp,ho,hx,hy];rfl
def CZ (m n:Int):Int:=i64.wrap (m.tdiv n)
theorem Wd {x y:Operand} {t u:TypeId} {m n:Int} (ho:o.op= .binOp .quo t x y u) (hx:ev x= .int .i64 m) (hy:ev y= .int .i64 n) (h0:n≠0):OpT P I w0 o ev [] (· = .int .i64 (CZ m n)) (fun _=>[]):=
 bd fun w=>by simp_all[execOp,eqGuard,binOp,Op.intDiv,Result.andThen,CZ]
theorem We {x y:Operand} {t u:TypeId} {m n:Int} (ho:o.op= .binOp .rem t x y u) (hx:ev x= .int .i64 m) (hy:ev y= .int .i64 n) (h0:n≠0):OpT P I w0 o ev [] (· = .int .i64 (m.tmod n)) (fun _=>[]):=
 bd fun w=>by simp_all[execOp,eqGuard,binOp,Op.intDiv,Result.andThen]
def xf (m n:Int):Int:=i64.wrap (m*2 ^ (min n.toNat 64))
def oK (m n:Int):Int:=m.fdiv (2 ^ (min n.toNat 64))
theorem Wf {x y:Operand} {t u:TypeId} {m n:Int} (ho:o.op= .binOp .shl t x y u) (hx:ev x= .int .i64 m) (hy:ev y= .int .i64 n) (h0:0<=n):OpT P I w0 o ev [] (· = .int .i64 (xf m n)) (fun _=>[]):=
 bd fun w=>by simp[execOp,ho,hx,hy,eqGuard,binOp,Op.shift,show¬n<0 from by omega,Result.andThen,xf,IntKind.bits]
theorem Wg {x y:Operand} {t u:TypeId} {m n:Int} (ho:o.op= .binOp .shr t x y u) (hx:ev x= .int .i64 m) (hy:ev y= .int .i64 n) (h0:0<=n):OpT P I w0 o ev [] (· = .int .i64 (oK m n)) (fun _=>[]):=
 bd fun w=>by simp[execOp,ho,hx,hy,eqGuard,binOp,Op.shift,show¬n<0 from by omega,Result.andThen,oK,IntKind.bits]
def tn (m n:Int):Int:=i64.wrap ((BitVec.ofInt 64 m &&& BitVec.ofInt 64 n).toNat:Nat)
def orI (m n:Int):Int:=i64.wrap ((BitVec.ofInt 64 m ||| BitVec.ofInt 64 n).toNat:Nat)
def ack (m n:Int):Int:=i64.wrap ((BitVec.ofInt 64 m ^^^ BitVec.ofInt 64 n).toNat:Nat)
theorem Wh {x y:Operand} {t u:TypeId} {m n:Int} (ho:o.op= .binOp .and t x y u) (hx:ev x= .int .i64 m) (hy:ev y= .int .i64 n):OpT P I w0 o ev [] (· = .int .i64 (tn m n)) (fun _=>[]):=
 bd fun w=>by simp[execOp,ho,hx,hy];rfl
theorem YX {x y:Operand} {t u:TypeId} {m n:Int} (ho:o.op= .binOp .or t x y u) (hx:ev x= .int .i64 m) (hy:ev y= .int .i64 n):OpT P I w0 o ev [] (· = .int .i64 (orI m n)) (fun _=>[]):=
 bd fun w=>by simp[execOp,ho,hx,hy];rfl
theorem Wi {x y:Operand} {t u:TypeId} {m n:Int} (ho:o.op= .binOp .xor t x y u) (hx:ev x= .int .i64 m) (hy:ev y= .int .i64 n):OpT P I w0 o ev [] (· = .int .i64 (ack m n)) (fun _=>[]):=
 bd fun w=>by simp[execOp,ho,hx,hy];rfl
theorem Ak {t:TypeId} {b c:Bool} (hT:P.underlying t=some .bool) (w:World):(Op.equal t (.bool b) (.bool c)).run P w= .ok (b==c) w:=by
 unfold Op.equal Op.maxDepth
 rw[Op.equalIn,Sem.run_bind,run_underlying hT];rfl
theorem Wj {x y:Operand} {t u:TypeId} {b c:Bool} (hT:P.underlying t=some .bool) (ho:o.op= .binOp .eql t x y u) (hx:ev x= .bool b) (hy:ev y= .bool c):OpT P I w0 o ev [] (· = .bool (b==c)) (fun _=>[]):=
 bd fun w=>by
  have g1:eqGuard .eql t x y (.bool b) (.bool c)=pure ():=rfl
  have g2:binOp .eql t (.bool b) (.bool c)=(do pure (.bool (<-Op.equal t (.bool b) (.bool c)))):=rfl
  simp_all[execOp,Sem.run_bind,Sem.run_pure,Ak,Result.andThen_ok]
theorem Wk {x y:Operand} {t u:TypeId} {b c:Bool} (hT:P.underlying t=some .bool) (ho:o.op= .binOp .neq t x y u) (hx:ev x= .bool b) (hy:ev y= .bool c):OpT P I w0 o ev [] (· = .bool (b !=c)) (fun _=>[]):=
 bd fun w=>by
  have g1:eqGuard .neq t x y (.bool b) (.bool c)=pure ():=rfl
  have g2:binOp .neq t (.bool b) (.bool c)=(do pure (.bool (!(<-Op.equal t (.bool b) (.bool c))))):=rfl
  simp only[execOp,ho,hx,hy,g1,g2,Sem.run_bind,Sem.run_pure,Ak hT,Result.andThen_ok];rfl
theorem lX {x:Operand} {T:TypeId} {f g off b n:Nat} (hf:TF P T f off n) (ho:o.op= .fieldAddr T x f) (hx:ev x= .pointer (some ⟨g,b,none⟩)):OpT P I w0 o ev [] (· = .pointer (some ⟨g,b+off,none⟩)) (fun _=>[]):=by
 have ⟨fs,fd,h1,h2,h3,h4⟩:=hf
 refine bd fun w=>?_
 cases hq:P.info? fd.type with
 | none=>grind
 | some i =>
  have h5:i.size=n+1:=by simpa [hq] using h4
  simp[execOp,ho,hx,Instr.fieldAt,Instr.sureAddr,run_underlying h1,h2,fieldPlace,sizeOf,typeInfo,hq,h5,h3,Result.andThen,Addr.add_mid]
theorem vH {x:Operand} {T:TypeId} {E:TypeId} {a:Option Addr} {n c:Nat} (hT:P.underlying T=some (.slice E)) (ho:o.op= .call { callee:=.builtin .len,args:= #[x],argTypes:= #[T] }) (hx:ev x= .slice a n c):OpT P I w0 o ev [] (· = .int .i64 n) (fun _=>[]):=
 bd fun w=>by simp[execOp,ho,hx,resolve,invoke,builtin,Builtin.len_,run_underlying hT,Result.andThen,goInt]
theorem Im {x:Operand} {T:TypeId} {s:ByteArray} (hT:P.underlying T=some .string) (ho:o.op= .call { callee:=.builtin .len,args:= #[x],argTypes:= #[T] }) (hx:ev x= .string s):OpT P I w0 o ev [] (· = .int .i64 s.size) (fun _=>[]):=
 bd fun w=>by simp[execOp,ho,hx,resolve,invoke,builtin,Builtin.len_,run_underlying hT,Result.andThen,goInt]
theorem D2 {f:Fn} {first captured:Array Operand} {v:Value} (ho:o.op= .makeFunc f first captured) (hv:Value.func f (first.toList.map ev).toArray (captured.toList.map ev).toArray=v):OpT P I w0 o ev [] (· =v) (fun _=>[]):=
 bd fun w=>by
  have h1:first.map ev=(first.toList.map ev).toArray:=by grind
  have h2:captured.map ev=(captured.toList.map ev).toArray:=by grind
  simp[execOp,ho,<-hv,h1,h2];rfl
end
end D
namespace D
open Go.RowKit
section
variable {P:Program} {I:Hp} {w0 w w':World} {cs:List Ch}
theorem Upon.imp {ok ok':Value->World->Prop} {r:Result Next} (h:Upon P ok r) (k: ∀v w,ok v w->ok' v w):Upon P ok' r:=by
 cases r with
 | halt x w=>exact h
 | ok x w =>
  cases x <;> first | exact h | exact k _ _ h | skip
  exact Calls.mono h fun e w' ⟨v,h1,h2⟩=>⟨v,h1,k _ _ h2⟩
def bk:Value->Nat
 | .pointer (some a)=>a.block
 | _=>0
def abb (v:Value):Prop:= ∃g,v= .pointer (some ⟨g,0,none⟩)
variable {o:Oper} {ev:Operand->Value}
theorem F7 {T:TypeId} {z:Value} {n b:Nat} {l:List Value} (hz:TZ P T z n b) (hl:z.cells=l.toArray) (ho:o.op= .alloc T):OpT P I w0 o ev [] abb (fun v=>[Ch.blk (bk v) l T]):=by
 intro w C hs
 have hr:(execOp ev o).run P w= .ok (.value (.pointer (some ⟨w.heap.size,0,none⟩))) (w.alloc (.cells l.toArray T)):=by
  simp[execOp,ho,Instr.alloc,Sem.run_bind,hz.run_zero,Result.andThen_ok]
  simp[newVar,newRow,hl,Result.andThen]
 rw[hr]
 exact ⟨⟨_,rfl⟩,hs.alloc l T⟩
theorem Wl {T:TypeId} {x:Operand} {u:Value} {l:List Value} (hu:ev x=u) (hl:u.cells=l.toArray) (ho:o.op= .box T x):OpT P I w0 o ev [] abb (fun v=>[Ch.blk (bk v) l T]):=by
 intro w C hs
 have hr:(execOp ev o).run P w= .ok (.value (.pointer (some ⟨w.heap.size,0,none⟩))) (w.alloc (.cells l.toArray T)):=by
  simp[execOp,ho,Instr.box,hu,Sem.run_bind]
  simp[newVar,newRow,hl,Result.andThen]
 rw[hr]
 exact ⟨⟨_,rfl⟩,hs.alloc l T⟩
def Lds (agg:Bool) (d:List Value) (u:Value):Prop:=if agg then u= .agg d.toArray else d= [u]
theorem Kh {T:TypeId} {agg:Bool} {n b off:Nat} {d:List Value} (hT:TI P T agg n) (hd:d.length=n) (hn:agg=false->n=1) (hc:w.rangeAt b off d): ∃u,(Instr.loadAt T (.pointer (some ⟨b,off,none⟩))).run P w= .ok u w/\Lds agg d u:=by
 cases agg with
 | true =>
  have ⟨⟨t,h1,h2⟩,h3⟩:=hT
  exact ⟨_,run_loadAt_mid w b off T d t hc h1 (by cases t <;> first | rfl | cases h2) (by grind),rfl⟩
 | false =>
  obtain ⟨u,rfl⟩:=List.length_eq_one_iff.1 (hd.trans (hn rfl))
  refine ⟨u,?_,rfl⟩
  have hc0:=hc 0 u rfl
  rw[Nat.add_zero] at hc0
  simp[Instr.loadAt,Instr.sureAddr,loadVar,Sem.run_bind,hT.run_agg,load,Sem.run,hc0,Result.andThen]
theorem D3 {T:TypeId} {x:Operand} {agg:Bool} {n b off:Nat} {d:List Value} {rn:List Ch} (hT:TI P T agg n) (ho:o.op= .load T x) (hx:ev x= .pointer (some ⟨b,off,none⟩)) (hd:d.length=n) (hn:agg=false->n=1) (hc: ∀w C,St I w0 w (rn++C)->w.rangeAt b off d):OpT P I w0 o ev rn (Lds agg d) (fun _=>rn):=by
 intro w C hs
 have ⟨u,hr,hu⟩:=Kh hT hd hn (hc w C hs)
 simp[execOp,ho,hx,Sem.run_bind,hr,Result.andThen_ok]
 exact ⟨hu,hs⟩
theorem NC {g off:Nat} {l d:List Value} {E:TypeId} {C:List Ch} (h:St I w0 w (Ch.blk g l E::C)) (hd:(l.drop off).take d.length=d):w.rangeAt g off d:=by
 intro j v hj
 have hg:=h.heap 0 rfl
 grind[World.cell?]
theorem F8 {T:TypeId} {x:Operand} {agg:Bool} {n g off:Nat} {l d:List Value} {E:TypeId} {u:Value} (hT:TI P T agg n) (ho:o.op= .load T x) (hx:ev x= .pointer (some ⟨g,off,none⟩)) (hn:(agg || n==1)=true) (hd:(l.drop off).take n=d) (hdl:d.length=n) (hu:(if agg then Value.agg d.toArray else d.getD 0 undef)=u) :
  OpT P I w0 o ev [Ch.blk g l E] (· =u) (fun _=>[Ch.blk g l E]):=by
 intro w C hs
 refine (D3 (rn:=[Ch.blk g l E]) hT ho hx hdl (fun e=>by grind) (fun w C h=>NC h (by grind)) w C hs).imp fun v w hv=>⟨?_,hv.2⟩
 grind[Lds]
theorem yo {T:TypeId} {x:Operand} {agg:Bool} {n g off:Nat} {l d:List Value} {E:TypeId} {fr:Nat×Nat} {u:Value} (hI:I g=some (.cells l.toArray E fr)) (hT:TI P T agg n) (ho:o.op= .load T x) (hx:ev x= .pointer (some ⟨g,off,none⟩)) (hn:(agg || n==1)=true) (hd:(l.drop off).take n=d) (hdl:d.length=n) (hu:(if agg then Value.agg d.toArray else d.getD 0 undef)=u) :
  OpT P I w0 o ev [] (· =u) (fun _=>[]):=by
 intro w C hs
 refine (D3 (rn:=[]) hT ho hx hdl (fun e=>by grind) (fun w C h j v hj=>?_) w C hs).imp fun v w hv=>⟨?_,hv.2⟩
 ·have hg:w.heap[g]? =some (.cells l.toArray E fr):=h.2.1 g _ hI
  grind[World.cell?]
 grind[Lds]
def Fld {α β:Type} (R:Rep α) (off:Nat) (S:Rep β) (f:α->β):Prop:= ∀I c x,R.rd I c x-> ∃d,(c.drop off).take S.size=d/\S.rd I d (f x)
theorem Fld.self {α:Type} {R:Rep α} :Fld R 0 R (fun x=>x):=fun I c x h=>⟨c,by rw[<-R.rd_len h];simp,h⟩
theorem Fld.fst {α β γ:Type} {A:Rep α} {B:Rep β} {S:Rep γ} {off:Nat} {f:α->γ} (h:Fld A off S f):Fld (aD A B) off S (fun x=>f x.1):=by
 rintro I c x ⟨c1,c2,rfl,h1,h2⟩
 have ⟨d,e1,e2⟩:=h I c1 x.1 h1
 have hl:=S.rd_len e2
 grind[aI,bJ,List.drop_append]
theorem Fld.snd {α β γ:Type} {A:Rep α} {B:Rep β} {S:Rep γ} {off:Nat} {f:β->γ} (h:Fld B off S f):Fld (aD A B) (A.size+off) S (fun x=>f x.2):=by
 rintro I c x ⟨c1,c2,rfl,h1,h2⟩
 have ⟨d,e1,e2⟩:=h I c2 x.2 h2
 refine ⟨d,?_,e2⟩
 rw[List.drop_append,List.drop_of_length_le (by rw[A.rd_len h1];omega),A.rd_len h1,Nat.add_sub_cancel_left];exact e1
def ptB:Value->Nat
 | .slice (some a) _ _=>a.block
 | _=>0
def ptO:Value->Nat
 | .slice (some a) _ _=>a.off
 | _=>0
def pt (v:Value) (o:Nat):Value:=.pointer (some ⟨ptB v,ptO v+o,none⟩)
def aG {α:Type} (xs:List α) (i:Int):Option α:=if 0<=i then xs[i.toNat]? else none
def inI {α:Type} (xs:List α) (i:Int):Prop:=0<=i/\i.toNat<xs.length
theorem D4 {α:Type} {xs:List α} {i:Int} {x:α} (h:aG xs i=some x):inI xs i:=by
 unfold aG at h
 split at h
 ·exact ⟨‹_›,(List.getElem?_eq_some_iff.1 h).1⟩
 grind
theorem pg {α:Type} {xs:List α} {i:Int} {x:α} (h:aG xs i=some x):xs[i.toNat]? =some x:=by
 grind[aG]
def Hd (v:Value) (n:Nat):Prop:= ∃ao cap,v= .slice ao n cap/\(0<n-> ∃b off,ao=some ⟨b,off,none⟩)/\n<=cap
theorem Hd.of_rd {α:Type} {E:TypeId} {R:Rep α} {v:Value} {xs:List α} (h:(af E R).rd I [v] xs):Hd v xs.length:=by
 have ⟨ao,cap,hv,hl,h⟩:=h
 refine ⟨ao,cap,by grind,fun hp=>?_,hl.2⟩
 grind
theorem Hd.of_own {α:Type} {E:TypeId} {R:Rep α} {v:Value} {xs:List α} {F:List Nat} (h:(af E R).own I w [v] xs F):Hd v xs.length:=by
 have ⟨hl,h⟩:=h
 rcases h with ⟨hv,rfl,rfl⟩ | ⟨g,ofs,cap,cur,K,hv,_,hle,_⟩
 ·exact ⟨none,0,by grind,by simp,aF _⟩
 ·exact ⟨_,cap,by grind,fun _=>⟨g,ofs,rfl⟩,by omega⟩
theorem St.hd {α:Type} {E:TypeId} {R:Rep α} {v:Value} {xs:List α} (h:St I w0 w cs) (i:Nat) (hi:cs[i]? =some (Ch.own (af E R) [v] xs)):Hd v xs.length/\xs.length<=lim:=by
 have ⟨hb,_,F,⟨G,K,e1,e2,e3⟩,h2,h3⟩:=h.front i hi
 exact ⟨Hd.of_own (I:=I) (w:=w) (E:=E) (R:=R) (F:=G) e2,e2.1⟩
theorem C1 {x:Operand} {T E:TypeId} {v:Value} {n:Nat} (h:Hd v n) (hT:P.underlying T=some (.slice E)) (ho:o.op= .call { callee:=.builtin .len,args:= #[x],argTypes:= #[T] }) (hx:ev x=v):OpT P I w0 o ev [] (· = .int .i64 n) (fun _=>[]):=by
 obtain ⟨ao,cap,rfl,_⟩:=h
 exact vH hT ho hx
theorem rU {α:Type} {x y:Operand} {T E:TypeId} {v:Value} {xs:List α} {i:Int} {n:Nat} {agg:Bool} (h:Hd v xs.length) (hT:P.underlying T=some (.slice E)) (hE:TI P E agg n) (ho:o.op= .indexAddr T x y) (hx:ev x=v) (hy:ev y= .int .i64 i) (hi:inI xs i):OpT P I w0 o ev [] (· =pt v (i.toNat*n)) (fun _=>[]):=by
 obtain ⟨ao,cap,rfl,hp,-⟩:=h
 obtain ⟨b,off,rfl⟩:=hp (by have:=hi.2;omega)
 refine bd fun w=>?_
 have h2:i<(xs.length:Int):=by have:=hi.2;omega
 simp[execOp,ho,hx,hy,Instr.indexAt,asIntOf,run_underlying hT,hE.run_size,hi.1,h2,Result.andThen,pt,ptB,ptO,Addr.add_mid]
theorem yp {x:Operand} {T:TypeId} {f off n b:Nat} {v:Value} (hf:TF P T f off n) (ho:o.op= .fieldAddr T x f) (hx:ev x=pt v b):OpT P I w0 o ev [] (· =pt v (b+off)) (fun _=>[]):=by
 have:=lX (I:=I) (w0:=w0) hf ho hx
 rw[Nat.add_assoc] at this
 exact this
theorem Io {α β:Type} {E T:TypeId} {R:Rep α} {S:Rep β} {off n k:Nat} {f:α->β} {x:Operand} {v:Value} {xs:List α} {a:α} {i:Int} {agg:Bool} (hr:(af E R).rd I [v] xs) (ha:aG xs i=some a) (hf:Fld R off S f) (hT:TI P T agg n) (hS:S.size=n) (hn:(agg || n==1)=true) (ho:o.op= .load T x) (hx:ev x=pt v (i.toNat*k+off)) (hk:R.size=k) :
  OpT P I w0 o ev [] (fun u=> ∃d,S.rd I d (f a)/\Lds agg d u) (fun _=>[]):=by
 have ⟨ao,cap,hv,hl,h⟩:=hr
 have hm:=pg ha
 rcases h with rfl | ⟨b,ofs,ccs,t,fr,rfl,hI,hel⟩
 ·grind
 have ⟨c,c1,c2,c3⟩:=hel i.toNat a hm
 have ⟨d,d1,d2⟩:=hf I c a c3
 intro w C hs
 refine (D3 (rn:=[]) hT ho hx ((S.rd_len d2).trans hS) (fun e=>by grind) (fun w C h j u hj=>?_) w C hs).imp fun u w hv=>⟨⟨d,d2,hv.1⟩,hv.2⟩
 have hg:w.heap[b]? =some (.cells ccs t fr):=h.2.1 b _ hI
 grind[List.getElem?_eq_some_iff,ptB,ptO,World.cell?]
def Rep.Sh {α:Type} (R:Rep α):Prop:= ∀ {I w cs a F},R.own I w cs a F->F= [] /\R.rd I cs a
theorem D5 {α:Type} {enc:α->Value} {h1: ∀a,(enc a).oneCell'=true} :(lr α enc h1).Sh:=fun h=>h
theorem Wm {α β:Type} {R:Rep α} {S:Rep β} (h:R.Sh) (k:S.Sh):(aD R S).Sh:=by
 rintro I w cs a F ⟨c,d,G,K,rfl,rfl,h1,h2⟩
 have ⟨g1,g2⟩:=h h1
 have ⟨k1,k2⟩:=k h2
 exact ⟨by grind,c,d,rfl,g2,k2⟩
theorem YY {α:Type} {R:Rep α} :(tm R).Sh:=fun h=>h
theorem Wn:oJ.Sh:=D5
theorem YZ:D0.Sh:=D5
theorem OwnEls.sh {α:Type} {R:Rep α} (hR:R.Sh): ∀ {xs:List α} {cur F},OwnEls R I w cur xs F->F= []
 | [],_,_,h=>h
 | x::xs,cur,F,⟨c,rest,G,K,h1,h2,h3,h4,h5⟩=>by rw[h3,(hR h4).1,h5.sh hR];rfl
def ph (w:World) (g:Nat):Nat->List Value->World
 | _,[] =>w
 | o,v::vs=>ph (w.setCell ⟨g,o,none⟩ v) g (o+1) vs
theorem rV {g:Nat} : ∀(vs:List Value) (w:World) (o i:Nat),(∀j,j<vs.length->(w.cell? ⟨g,o+i+j,none⟩).isSome=true)->(∀j,w.frozen? ⟨g,o+j,none⟩=false)->(∀v,v∈vs->v.oneCell'=true)->
  (storeCells ⟨g,o,none⟩ vs i).run P w= .ok () (ph w g (o+i) vs)
 | [],w,o,i,_,_,_=>by rfl
 | v::vs,w,o,i,hc,hf,h1=>by
  have ih:=rV vs (w.setCell ⟨g,o+i,none⟩ v) o (i+1) (fun j hj=>by
   have:=hc (j+1) (by grind)
   rw[Option.isSome_iff_exists] at this⊢
   have ⟨u,hu⟩:=this
   simp[World.cell?,World.setCell,Array.getElem?_modify] at hu⊢
   cases hg:w.heap[g]? with
   | none=>grind
   | some ob=>grind) (fun j=>by
   simp_all) (fun u hu=>h1 u (by grind))
  have hv:=h1 v (by simp)
  simp[storeCells,Sem.run_bind,Addr.add_mid,store]
  have hrun:(Sem.store .plain ⟨g,o+i,none⟩ v (.pure ())).run P w= .ok () (w.setCell ⟨g,o+i,none⟩ v):=by
   cases v <;> first | grind[Sem.run] | (simp[Value.oneCell'] at hv)
  grind[Result.andThen_ok,ph]
theorem Ki {T:TypeId} {agg:Bool} {n g o:Nat} {u:Value} {l:List Value} (hT:TI P T agg n) (hu:u.cells=l.toArray) (hl:l.length=n) (hc: ∀j,j<n->(w.cell? ⟨g,o+j,none⟩).isSome=true) (hf: ∀j,w.frozen? ⟨g,o+j,none⟩=false) (h1: ∀v,v∈l->v.oneCell'=true) :
  (Instr.storeAt T (.pointer (some ⟨g,o,none⟩)) u).run P w= .ok () (ph w g o l):=by
 have:=rV (P:=P) (g:=g) l w o 0 (by grind) hf h1
 simp[Instr.storeAt,Instr.sureAddr,storeVar,Sem.run_bind,Sem.run_pure,Result.andThen_ok,hT.run_size,hu]
 grind
def spl (l:List Value):Nat->List Value->List Value
 | _,[] =>l
 | o,v::vs=>spl (l.set o v) (o+1) vs
theorem xg: ∀(vs l:List Value) (o:Nat),(spl l o vs).length=l.length
 | [],l,o=>rfl
 | v::vs,l,o=>by rw[spl,xg vs,List.length_set]
theorem St.sets {g:Nat} {E:TypeId} : ∀(vs l:List Value) (o:Nat) {w:World},St I w0 w (Ch.blk g l E::cs)->St I w0 (ph w g o vs) (Ch.blk g (spl l o vs) E::cs)
 | [],l,o,w,h=>h
 | v::vs,l,o,w,h=>St.sets vs (l.set o v) (o+1) (h.set o v)
theorem D6 {T:TypeId} {x y:Operand} {agg:Bool} {n g off:Nat} {l d:List Value} {E:TypeId} {u:Value} (hT:TI P T agg n) (ho:o.op= .store T x y) (hx:ev x= .pointer (some ⟨g,off,none⟩)) (hy:ev y=u) (hu:u.cells=d.toArray) (hd:d.length=n) (h1:d.all (·.oneCell')=true) (hl:off+n<=l.length) :
  OpT P I w0 o ev [Ch.blk g l E] (fun _=>True) (fun _=>[Ch.blk g (spl l off d) E]):=by
 intro w C hs
 have hg:=hs.heap 0 rfl
 have hr:=Ki (P:=P) (w:=w) hT (g:=g) (o:=off) hu hd (fun j hj=>by
  grind[World.cell?]) (fun j=>by simp[World.frozen?,hg]) (fun v hv=>List.all_eq_true.1 h1 v hv)
 simp only[execOp,ho,hx,hy,Sem.run_bind,hr,Result.andThen_ok]
 exact ⟨trivial,St.sets d l off hs⟩
end
end D
namespace D
open Go.RowKit
section
variable {P:Program} {I:Hp} {w0 w w':World} {cs:List Ch} {o:Oper} {ev:Operand->Value} {α:Type} {R:Rep α} {E:TypeId}
theorem ND: ∀(l:List Value) (k:Nat) (cells:Array Value),k+l.length<=cells.size->((l.toArray.zipIdx).foldl (fun cs (c,j)=>cs.setIfInBounds (k+j) c) cells).toList=cells.toList.take k++l++cells.toList.drop (k+l.length):=by
 intro l k cells h
 have key: ∀(l:List Value) (i:Nat) (cells:Array Value),k+i+l.length<=cells.size->((l.zipIdx i).foldl (fun cs (p:Value×Nat)=>cs.setIfInBounds (k+p.2) p.1) cells).toList=cells.toList.take (k+i)++l++cells.toList.drop (k+i+l.length):=by
  intro l
  induction l with
  | nil=>simp_all
  | cons x l ih =>
   intro i cells h
   rw[aK] at h
   rw[List.zipIdx_cons,List.foldl_cons,ih (i+1) _ (by grind),Array.toList_setIfInBounds]
   have hs:cells.toList.length=cells.size:=Array.length_toList
   have e1:(cells.toList.set (k+i) x).take (k+i+1)=cells.toList.take (k+i)++ [x]:=by
    rw[List.take_add_one,List.take_set_of_le (aF _),List.getElem?_set_self (by omega)];rfl
   have e2:(cells.toList.set (k+i) x).drop (k+(i+1)+l.length)=cells.toList.drop (k+(i+1)+l.length):=List.drop_set_of_lt (by omega)
   rw[e2,show k+(i+1)=k+i+1 from rfl,e1,aK,show k+i+(l.length+1)=k+i+1+l.length from by omega]
   simp
 grind
theorem F9 (size:Nat): ∀(us:List (Value×List Value)) (k:Nat) (cells:Array Value),(∀u∈us,u.1.cells=u.2.toArray/\u.2.length=size)->(k+us.length)*size<=cells.size->
  ∃c,Instr.fill (fun i=>some (i*size,size)) cells ((us.zipIdx k).map fun p=>(p.2,p.1.1))=some c/\c.toList=cells.toList.take (k*size)++us.flatMap (·.2)++cells.toList.drop ((k+us.length)*size)
 | [],k,cells,_,_=>⟨cells,rfl,by simp⟩
 | (u,l)::us,k,cells,h,hs=>by
  have ⟨hu,hl⟩:=h (u,l) (by simp)
  simp only at hu hl
  have hk:(k+1+us.length)*size<=cells.size:=by rw[show k+1+us.length=k+(us.length+1) from by omega];exact hs
  have hk1:(k+1)*size<=cells.size:=Nat.le_trans (Nat.mul_le_mul_right _ (by omega)) hk
  rw[Nat.add_mul,Nat.one_mul] at hk1
  have hr:=ND l (k*size) cells (by omega)
  have hsz:((l.toArray.zipIdx).foldl (fun cs (p:Value×Nat)=>cs.setIfInBounds (k*size+p.2) p.1) cells).size=cells.size:=by
   rw[<-Array.length_toList,hr]
   simp[aC,aI,bJ,Array.length_toList];omega
  obtain ⟨c,c1,c2⟩:=F9 size us (k+1) _ (fun u hu=>h u (by grind)) (by rw[hsz];exact hk)
  refine ⟨c,?_,?_⟩
  ·grind[List.zipIdx_cons,Instr.fill]
  ·rw[c2,hr]
   have e1:(k+1)*size=k*size+l.length:=by grind
   have e2:(k+1+us.length)*size=k*size+l.length+us.length*size:=by grind
   have e3:(k+(us.length+1))*size=k*size+l.length+us.length*size:=by rw[<-e2];congr 1;omega
   have htl:(cells.toList.take (k*size)).length=k*size:=by rw[aI,Array.length_toList];omega
   rw[e1,e2,aK,e3,List.flatMap_cons]
   rw[aA,aA,aA]
   rw[List.take_append,htl,List.take_of_length_le (by omega),Nat.add_sub_cancel_left,List.take_left]
   rw[List.drop_append,htl,List.drop_of_length_le (by omega),List.drop_append,show k*size+l.length+us.length*size - k*size - l.length=us.length*size from by omega,List.drop_of_length_le (by omega),List.drop_drop]
   simp
theorem RH {T:TypeId} (hT:P.underlying T=some (.slice E)) {agg:Bool} {n:Nat} (hE:TI P E agg n) (ho:o.op= .buildSlice T 0 #[]):OpT P I w0 o ev [] (fun _=>True) (fun v=>[Ch.own (af E R) [v] []]):=by
 intro w C hs
 have hr:(execOp ev o).run P w= .ok (.value (.slice (some ⟨w.heap.size,0,none⟩) 0 0)) (w.alloc (.cells #[] E)):=by
  simp[execOp,ho,Instr.buildSlice,run_underlying hT,hE.run_size,Instr.fill,newRow,Result.andThen]
  grind
 rw[hr]
 refine ⟨trivial,?_⟩
 obtain ⟨hb,hi,F,⟨G,K,rfl,⟨rfl,hg⟩,hr⟩,n1,n2⟩:=hs.alloc [] E
 exact ⟨hb,hi,[w.heap.size] ++K,⟨[w.heap.size],K,rfl,⟨by simp,.inr ⟨w.heap.size,0,0,#[],[],rfl,hg,by simp,by simp,by simp,rfl,rfl⟩⟩,hr⟩,n1,n2⟩
def Gc (R:Rep α):List (List Value)->List α->List Ch
 | c::ls,x::xs=>Ch.own R c x::Gc R ls xs
 | _,_=>[]
theorem Kj: ∀ {ls:List (List Value)} {xs:List α} {F},ls.length=xs.length->Sep I (Gc R ls xs) w F->OwnEls R I w (ls.flatMap (fun l=>l)) xs F
 | [],[],F,_,h=>h
 | l::ls,x::xs,F,he,⟨G,K,h1,h2,h3⟩=>⟨l,ls.flatMap (fun l=>l),G,K,by simp,R.own_len h2,h1,h2,Kj (by grind) h3⟩
 | [],_::_,F,he,h=>by grind
 | _::_,[],F,he,h=>by grind
theorem Kk {n:Nat} : ∀us:List (Value×List Value),(∀u∈us,u.2.length=n)->(us.flatMap (·.2)).length=us.length*n
 | [],_=>by simp
 | u::us,h=>by rw[List.flatMap_cons,aC,aK,Nat.add_mul,h u (by simp),Kk us fun v hv=>h v (by grind)];omega
theorem NF {T:TypeId} {z:Value} {n b m:Nat} {parts:Array (Nat×Operand)} (us:List (Value×List Value)) (xs:List α) (hT:P.underlying T=some (.slice E)) (hE:TZ P E z n b) (hn:0<n) (hR:R.size=n) (hm:0<m) (hsm:m*n<=16777216) (ho:o.op= .buildSlice T m parts) (hp:parts.toList.map (fun p=>(p.1,ev p.2))=(us.zipIdx 0).map fun p=>(p.2,p.1.1)) (hl:us.length=m) (hx:xs.length=m)
  (hu: ∀u∈us,u.1.cells=u.2.toArray/\u.2.length=n):OpT P I w0 o ev (Gc R (us.map (·.2)) xs) (fun _=>True) (fun v=>[Ch.own (af E R) [v] xs]):=by
 intro w C hs
 have ⟨ie,hie,hz,h1,h2⟩:=info_parts hE
 have hsz:((Array.range (m*n)).map (z.cells[· % z.cells.size]!)).size=m*n:=by simp
 have ⟨c,c1,c2⟩:=F9 n us 0 ((Array.range (m*n)).map (z.cells[· % z.cells.size]!)) hu (by grind)
 have hmn:=Nat.mul_pos hm hn
 have hr:(execOp ev o).run P w= .ok (.value (.slice (some ⟨w.heap.size,0,none⟩) m m)) (w.alloc (.cells c E)):=by
  simp[execOp,ho,Sem.run_bind]
  rw[run_buildSlice w T E m _ c ie z hT hie hz (by grind) (by grind) (by simp_all)]
  rfl
 rw[hr]
 refine ⟨trivial,?_⟩
 have hc:c=(us.flatMap (·.2)).toArray:=by grind
 rw[hc]
 obtain ⟨hb,hi,F,⟨G,K,rfl,⟨rfl,hg⟩,hr⟩,n1,n2⟩:=hs.alloc (us.flatMap (·.2)) E
 obtain ⟨F1,F2,rfl,k1,k2⟩:=hr.split
 refine ⟨hb,hi,(w.heap.size::F1)++F2,⟨w.heap.size::F1,F2,rfl,⟨by unfold lim;have:m<=m*n:=Nat.le_mul_of_pos_right _ hn;omega,.inr ⟨w.heap.size,0,m,_,F1,by rw[hx],hg,by omega,?_,?_,rfl,?_⟩⟩,k2⟩,by grind,fun b hb=>n2 b (by grind)⟩
 ·unfold maxLen;have:m<=m*n:=Nat.le_mul_of_pos_right _ hn;omega
 ·grind[Kk]
 ·have:=Kj (R:=R) (I:=I) (w:=w.alloc (.cells (us.flatMap (·.2)).toArray E)) (ls:=us.map (·.2)) (xs:=xs) (by grind) k1
  grind[List.flatMap_map]
theorem dP {t ty e:TypeId} {i:TypeInfo} (ht:P.underlying t=some (.slice e)) (hi:P.info? e=some i) {ao:Option Addr} {n c:Nat} (hc:n<=c) {bo:Option Addr} {d:Nat} :(Builtin.append_ #[t,t] ty #[.slice ao n c,.slice bo 0 d]).run P w= .ok (.slice ao n c) w:=by
 have hz:(Builtin.firstCells i.size 0 (.slice bo 0 d)).run P w= .ok #[] w:=by
  cases bo <;> simp[Builtin.firstCells,loadCells,loadCellsFrom]
 simp[Builtin.append_,run_underlying ht,sizeOf,typeInfo,hi,Builtin.lenOf,hz,hc,Result.andThen]
 cases ao <;> simp[storeCells]
theorem Y0 {ccs:Array Value} {off:Nat} : ∀ {xs:List α},(∀i x,xs[i]? =some x-> ∃c:List Value,c.length=R.size/\(∀j,j<R.size->ccs.toList[off+i*R.size+j]? =c[j]?)/\R.rd I c x)->
  ∃news:List Value,news.length=xs.length*R.size/\(∀j u,news[j]? =some u->ccs.toList[off+j]? =some u)/\(∀u∈news,u.oneCell'=true)/\OwnEls (tm R) I w news xs []:=by
 intro xs
 induction xs generalizing off with
 | nil=>intro _;exact ⟨[],by simp,by simp,by simp,rfl⟩
 | cons x xs ih =>
  intro h
  have ⟨c,c1,c2,c3⟩:=h 0 x rfl
  have ⟨news,n1,n2,n3,n4⟩:=ih (off:=off+R.size) fun i y hy=>by
   have ⟨c,c1,c2,c3⟩:=h (i+1) y (by grind)
   grind
  refine ⟨c++news,by grind,fun j u hj=>?_,fun u hu=>?_,⟨c,news,[],[],rfl,c1,rfl,⟨rfl,c3⟩,n4⟩⟩
  ·grind
  ·rcases aH hu with h | h
   ·exact R.rd_one c3 u h
   grind
def OffRow (w:World) (E:TypeId) (n:Nat) (v:Value) (len:Nat) (cells:List Value):Prop:=cells.length=len*n/\((v= .slice none 0 0/\len=0)\/ ∃g ofs cap cur,v= .slice (some ⟨g,ofs,none⟩) len cap/\w.heap[g]? =some (.cells cur E (0,0))/\len<=cap/\cap<=maxLen/\ofs+cap*n<=cur.size/\(cur.toList.drop ofs).take (len*n)=cells)
theorem OffRow.of_owns {b n len:Nat} {v:Value} {cells:List Value} (h:w.ownsRow b E n v len cells):OffRow w E n v len cells:=
 ⟨h.1,h.2.imp (fun h=>h) fun ⟨g,cap,cur,e,_,hg,h1,h2,h3,h4⟩=>⟨g,0,cap,cur,e,hg,h1,h2,by omega,h4⟩⟩
theorem pj (g:Nat): ∀(d:List Value) (o:Nat) (w:World),(w.setCells g o d).os=w.os/\(w.setCells g o d).tape=w.tape/\(w.setCells g o d).output=w.output/\(w.setCells g o d).heap.size=w.heap.size/\ ∀b,b≠g->(w.setCells g o d).heap[b]? =w.heap[b]?
 | [],_,_=>⟨rfl,rfl,rfl,rfl,fun _ _=>rfl⟩
 | v::d,o,w=>by
  have ⟨i1,i2,i3,i4,i5⟩:=pj g d (o+1) (w.setCell ⟨g,o,none⟩ v)
  exact ⟨i1,i2,i3,i4.trans (by simp_all),fun b hb=>(i5 b hb).trans (Below.heap_setCell _ _ _ _ hb)⟩
theorem rW {g:Nat} {fr:Nat×Nat} : ∀(d:List Value) (o:Nat) (w:World) (cur:Array Value),o+d.length<=cur.size->w.heap[g]? =some (.cells cur E fr)->(w.setCells g o d).heap[g]? =some (.cells (cur.toList.take o++d++cur.toList.drop (o+d.length)).toArray E fr)
 | [],o,w,cur,_,h=>by simpa [World.setCells] using h
 | v::d,o,w,cur,hs,h=>by
  rw[aK] at hs
  have:=rW d (o+1) (w.setCell ⟨g,o,none⟩ v) (cur.setIfInBounds o v) (by grind) (fw h)
  rw[World.setCells,this,Array.toList_setIfInBounds]
  have hl:cur.toList.length=cur.size:=Array.length_toList
  have e1:(cur.toList.set o v).take (o+1)=cur.toList.take o++ [v]:=by
   rw[List.take_add_one,List.take_set_of_le (aF _),List.getElem?_set_self (by omega)];rfl
  grind[List.drop_set_of_lt,aK]
theorem Cm {t ty:TypeId} {z:Value} {n b:Nat} {i:TypeInfo} (ht:P.underlying t=some (.slice E)) (hi:P.info? E=some i) (hz:i.zero=some z) (hsize:i.size=n) (hby:i.bytes=b) (hzs:z.cells.size=n) (hn:0<n)
  {v:Value} {len:Nat} {cells:List Value} (hrow:OffRow w E n v len cells) (a:Addr) (m c:Nat) (news:List Value) (hl:news.length=m*n) (hnews: ∀j u,news[j]? =some u->w.cell? (a.add j)=some u) (hone: ∀u∈news,u.oneCell'=true) (h63:len+m<=maxLen) (hb:(len+m)*b<=140737488355328) :
  ∃v' w',(Builtin.append_ #[t,t] ty #[v,.slice (some a) m c]).run P w= .ok v' w'/\OffRow w' E n v' (len+m) (cells++news)/\w.grownBy w' v.ownBlock/\(v'.ownBlock=v.ownBlock\/ ∃g',v'.ownBlock=some g'/\w.heap.size<=g'):=by
 have ⟨hcl,h⟩:=hrow
 have hlen:(cells++news).length=(len+m)*n:=by grind
 rcases h with ⟨rfl,rfl⟩ | ⟨g,ofs,cap,cur,rfl,hg,h3,h4,h5,h6⟩
 ·obtain rfl:cells= []:=List.eq_nil_of_length_eq_zero (by omega)
  obtain ⟨v',w',hrun,r1,r2,-,r3⟩:=run_append_own_at (P:=P) (w:=w) 0 t ty E i z n b ht hi hz hsize hby hzs hn (.slice none 0 0) 0 [] (World.ownsRow_nil w _ E n) a m c news hl hnews hone h63 hb (by omega)
  exact ⟨v',w',hrun,.of_owns r1,r2,r3.imp (fun h=>h) fun h=>⟨_,h,aF _⟩⟩
 ·by_cases hroom:len+m<=cap
  ·have hfit:ofs+len*n+news.length<=cur.size:=by
    have:(len+m)*n<=cap*n:=Nat.mul_le_mul_right _ hroom
    rw[Nat.add_mul] at this
    omega
   have hrun:=run_append_room_cells (P:=P) w t ty E i ht hi g ofs len cap a m c news (by grind) hnews hone hroom (fun j hj=>by
    simp[World.cell?,hg,Option.isSome_none,Bool.false_eq_true,ite_false]
    grind) (fun j _=>by simp[World.frozen?,hg])
   rw[hsize] at hrun
   have ⟨o1,o2,o3,o4,o5⟩:=pj g news (ofs+len*n) w
   refine ⟨_,_,hrun,⟨hlen,.inr ⟨g,ofs,cap,_,rfl,rW news _ w cur hfit hg,hroom,h4,?_,?_⟩⟩,⟨o1,o2,o3,by omega,fun k _ hk=>o5 k fun e=>hk (by rw[e];rfl)⟩,.inl rfl⟩
   ·grind
   grind
  ·have ⟨v',w',hrun,r1,r2⟩:=run_append_arg_grows (P:=P) w t ty E i z n b ht hi hz hsize hby hzs hn ⟨g,ofs,none⟩ len cap cells hcl (fun j u hj=>by
    grind[Addr.add_mid,World.cell?]) a m c news hl hnews (by omega) h63 hb
   refine ⟨v',w',hrun,.of_owns r1,⟨r2.os,r2.tape,r2.output,r2.size,fun k hk _=>r2.block k hk (by simp)⟩,.inr ?_⟩
   rcases r1.2 with ⟨_,h0⟩ | ⟨g',cp,cu,rfl,hge,-⟩
   ·omega
   ·exact ⟨g',rfl,hge⟩
theorem St.append_cells {t ty:TypeId} {z:Value} {n b:Nat} (ht:P.underlying t=some (.slice E)) (hE:TZ P E z n b) (hzs:z.cells.size=n) (hn:0<n) (hR:R.size=n)
  {v:Value} {xs ys:List α} {news:List Value} {K2:List Nat} {a:Addr} {cap:Nat} {C:List Ch} (hs:St I w0 w (Ch.own (af E R) [v] xs::C))
  (hsep: ∃G F',(∃F,(af E R).own I w [v] xs G/\Sep I C w F/\F'=K2++F/\(G++F').Nodup/\ ∀b,b∈G++F'->I b=none)) (hels:OwnEls R I w news ys K2)
  (hnews: ∀j u,news[j]? =some u->w.cell? (a.add j)=some u) (hone: ∀u∈news,u.oneCell'=true) (hl:news.length=ys.length*n) (hb:(xs.length+ys.length)*b<=140737488355328) (hb1:1<=b) :
  ∃v' w',(Builtin.append_ #[t,t] ty #[v,.slice (some a) ys.length cap]).run P w= .ok v' w'/\St I w0 w' (Ch.own (af E R) [v'] (xs++ys)::C):=by
 have ⟨i,hi,hz,hsize,hby⟩:=info_parts hE
 obtain ⟨G,F',F,⟨hlx,hown⟩,hC,rfl,hnd,hI⟩:=hsep
 have hlen:=Nat.le_trans (Nat.le_mul_of_pos_right _ hb1) hb
 have old: ∃K1 cells,OffRow w E n v xs.length cells/\OwnEls R I w cells xs K1/\cells.length=xs.length*n /\
   ((G=K1/\v.ownBlock=none)\/ ∃g,G=g::K1/\v.ownBlock=some g/\g<w.heap.size):=by
  rcases hown with ⟨hv,rfl,rfl⟩ | ⟨g,ofs,cp,cur,K1,hv,hg,h3,h4,h5,rfl,h6⟩
  ·obtain rfl:v= .slice none 0 0:=by grind
   exact ⟨[],[],.of_owns (World.ownsRow_nil w 0 E n),rfl,by simp,.inl ⟨rfl,rfl⟩⟩
  ·obtain rfl:v= .slice (some ⟨g,ofs,none⟩) xs.length cp:=by grind
   have hlt:=(Array.getElem?_eq_some_iff.1 hg).1
   rw[hR] at h5
   have hfit:xs.length*n<=cur.size - ofs:=by have:=Nat.mul_le_mul_right n h3;omega
   have htl:((cur.toList.drop ofs).take (xs.length*n)).length=xs.length*n:=by rw[aI,bJ,Array.length_toList];exact Nat.min_eq_left hfit
   exact ⟨K1,(cur.toList.drop ofs).take (xs.length*n),⟨htl,.inr ⟨g,ofs,cp,cur,rfl,hg,h3,h4,h5,rfl⟩⟩,h6.rest (by grind),htl,.inr ⟨g,rfl,rfl,hlt⟩⟩
 have ⟨K1,cells,hrow,hxs,hcells,hG⟩:=old
 have ⟨v',w',hrun,hrow',hgrow,hat⟩:=Cm (P:=P) (w:=w) (ty:=ty) ht hi hz hsize hby hzs hn hrow a ys.length cap news hl hnews hone
  (by unfold maxLen;omega) hb
 refine ⟨v',w',hrun,?_⟩
 obtain ⟨⟨b1,b2,b3,b4⟩,hle,-⟩:=hs
 have hlt:=fun b o hb=>(Array.getElem?_eq_some_iff.1 (hle b o hb)).1
 have hK1:=hxs.live
 have hK2:=hels.live
 have hF:=hC.live
 have hne: ∀b,b∈K1\/b∈K2\/b∈F->some b≠v.ownBlock:=by
  rcases hG with ⟨rfl,hv⟩ | ⟨g,rfl,hv,_⟩
  ·grind
  ·grind
 have hIne: ∀b o,I b=some o->some b≠v.ownBlock:=by
  intro b o hb e
  rcases hG with ⟨rfl,hv⟩ | ⟨g,rfl,hv,_⟩
  ·grind
  ·grind
 have hkeep:=fun b h1 h2=>hgrow.block b h1 h2
 have hnd':(K1++(K2++F)).Nodup:=by
  rcases hG with ⟨rfl,_⟩ | ⟨g,rfl,_,_⟩
  ·omega
  ·grind
 have hI': ∀b,b∈K1++(K2++F)->I b=none:=by
  intro b hb
  rcases hG with ⟨rfl,_⟩ | ⟨g,rfl,_,_⟩
  ·grind
  ·grind
 have hxs':=hxs.stay fun b hb=>hkeep b (hK1 b hb) (hne b (.inl hb))
 have hys':=hels.stay fun b hb=>hkeep b (hK2 b hb) (hne b (.inr (.inl hb)))
 have hj:=hxs'.join (by grind) hys'
 have hC':=hC.stay fun b hb=>hkeep b (hF b hb) (hne b (.inr (.inr hb)))
 have ⟨hr1,hr2⟩:=hrow'
 refine ⟨⟨hgrow.os.trans b1,hgrow.tape.trans b2,hgrow.output.trans b3,Nat.le_trans b4 hgrow.size⟩,fun b o hb=>?_,?_⟩
 ·show w'.heap[b]? =some o
  rw[hkeep b (hlt b o hb) (hIne b o hb)];exact hle b o hb
 rcases hr2 with ⟨rfl,h0⟩ | ⟨g',ofs',cp',cur',rfl,hg2,hg3,hg4,hg5,hg6⟩
 ·have hx0:xs= []:=List.eq_nil_of_length_eq_zero (by omega)
  have hy0:ys= []:=List.eq_nil_of_length_eq_zero (by omega)
  subst hx0;subst hy0
  have e1:=hxs
  have e2:=hels
  subst e1;exact ⟨F,⟨[],F,rfl,⟨by simp,.inl ⟨rfl,rfl,rfl⟩⟩,hC'⟩,by grind,fun b hb=>hI' b (by grind)⟩
 ·have hnew: ∀b,b∈K1++(K2++F)->b≠g':=by
   intro b hb e
   subst e
   have hb':b∈K1\/b∈K2\/b∈F:=by simpa using hb
   rcases hat with e | ⟨g1,e,hge⟩
   ·exact hne b hb' (by rw[<-e];rfl)
   ·grind[Value.ownBlock]
  refine ⟨(g'::(K1++K2))++F,⟨g'::(K1++K2),F,rfl,⟨by grind[aC,lim],.inr ⟨g',ofs',cp',cur',K1++K2,by grind,hg2,by grind,hg4,by grind,rfl,hj.rest ?_⟩⟩,hC'⟩,?_,fun b hb=>?_⟩
  ·grind
  ·grind
  ·rw[List.cons_append,aA] at hb
   rcases ax hb with rfl | hb
   ·cases hIb:I b with
    | none=>rfl
    | some o =>
     grind[absurd,Value.ownBlock]
   grind
def Cpy (S R:Rep α):Prop:= ∀ {I w c a},S.rd I c a->R.own I w c a []
theorem tq {enc:α->Value} {h1: ∀a,(enc a).oneCell'=true} :Cpy (lr α enc h1) (lr α enc h1):=fun h=>⟨rfl,h⟩
theorem Kl:Cpy oJ oJ:=tq
theorem NG:Cpy D0 D0:=tq
theorem RI {R:Rep α} :Cpy (tm R) (tm R):=fun h=>⟨rfl,h⟩
theorem RJ {α β:Type} {A A':Rep α} {B B':Rep β} (h:Cpy A A') (k:Cpy B B'):Cpy (aD A B) (aD A' B'):=by
 rintro I w c a ⟨d,e,rfl,h1,h2⟩
 exact ⟨d,e,[],[],rfl,rfl,h h1,k h2⟩
theorem St.free {R:Rep α} {c:List Value} {x:α} (h:St I w0 w cs) (hx:R.own I w c x []):St I w0 w (Ch.own R c x::cs):=by
 have ⟨hb,hi,F,h1,h2,h3⟩:=h
 exact ⟨hb,hi,F,⟨[],F,rfl,hx,h1⟩,h2,h3⟩
theorem St.frees {R:Rep α} : ∀ {ls:List (List Value)} {xs:List α},St I w0 w cs->(∀p,p∈ls.zip xs->R.own I w p.1 p.2 [])->St I w0 w (Gc R ls xs++cs)
 | [],_,h,_=>h
 | _::_,[],h,_=>h
 | c::ls,x::xs,h,hx=>(St.frees h fun p hp=>hx p (by simp[hp])).free (hx (c,x) (by simp))
theorem Ip {S:Rep α} {T:TypeId} {z:Value} {n b m:Nat} {parts:Array (Nat×Operand)} (us:List (Value×List Value)) (xs:List α) (hc:Cpy S R) (hr: ∀p,p∈(us.map (·.2)).zip xs->S.rd I p.1 p.2) (hT:P.underlying T=some (.slice E)) (hE:TZ P E z n b) (hn:0<n) (hR:R.size=n) (hm:0<m) (hsm:m*n<=16777216) (ho:o.op= .buildSlice T m parts) (hp:parts.toList.map (fun p=>(p.1,ev p.2))=(us.zipIdx 0).map fun p=>(p.2,p.1.1)) (hl:us.length=m) (hx:xs.length=m)
  (hu: ∀u∈us,u.1.cells=u.2.toArray/\u.2.length=n):OpT P I w0 o ev [] (fun _=>True) (fun v=>[Ch.own (af E R) [v] xs]):=by
 intro w C hs
 exact NF (R:=R) us xs hT hE hn hR hm hsm ho hp hl hx hu w C (St.frees hs fun p hp=>hc (hr p hp))
theorem dm {T:TypeId} {x y:Operand} {s u v:Value} (ho:o.op= .call { callee:=.builtin .append,args:= #[x,y],argTypes:= #[T,T] }) (hx:ev x=s) (hy:ev y=u) (hr:(Builtin.append_ #[T,T] o.type #[s,u]).run P w= .ok v w'):(execOp ev o).run P w= .ok (.value v) w':=by
 simp[execOp,ho,resolve,invoke,builtin,Sem.run_bind,Sem.run_pure,Result.andThen_ok,List.map_toArray,List.map_cons,List.map_nil,hx,hy,hr]
theorem LU {T:TypeId} {z:Value} {n b:Nat} {x y:Operand} {s u:Value} {xs ys:List α} (hT:P.underlying T=some (.slice E)) (hE:TZ P E z n b) (hzs:z.cells.size=n) (hn:0<n) (hR:R.size=n) (hb1:1<=b) (ho:o.op= .call { callee:=.builtin .append,args:= #[x,y],argTypes:= #[T,T] }) (hx:ev x=s) (hy:ev y=u) (hb:(xs.length+ys.length)*b<=140737488355328) :
  OpT P I w0 o ev [Ch.own (af E R) [s] xs,Ch.own (af E R) [u] ys] (fun _=>True) (fun v=>[Ch.own (af E R) [v] (xs++ys)]):=by
 intro w C hs
 have hs0:=hs
 obtain ⟨hb0,hi,F,⟨G,K,rfl,e1,K1,K2,rfl,⟨hly,e2⟩,e3⟩,hnd,hI⟩:=hs
 have hst:St I w0 w (Ch.own (af E R) [s] xs::C):=(hs0.perm (List.Perm.swap _ _ _)).tail
 rcases e2 with ⟨hv,rfl,rfl⟩ | ⟨g,ofs,cap,cur,K3,hv,k1,k2,k3,k4,rfl,k5⟩
 ·obtain rfl:u= .slice none 0 0:=by grind
  have ⟨i,hi',hz,hsize,hby⟩:=info_parts hE
  have hrun:(Builtin.append_ #[T,T] o.type #[s,.slice none 0 0]).run P w= .ok s w:=by
   rcases e1.2 with ⟨hs1,_⟩ | ⟨g,ofs,cap,cur,K,hs1,_,h3,_⟩
   ·simp_all[dP,aF]
   ·grind[dP]
  rw[dm ho hx hy hrun]
  refine ⟨trivial,?_⟩
  grind
 ·obtain rfl:u= .slice (some ⟨g,ofs,none⟩) ys.length cap:=by grind
  have hln:cap*n<=(cur.toList.drop ofs).length:=by rw[bJ,Array.length_toList];rw[hR] at k4;omega
  have hfit:ys.length*n<=cap*n:=Nat.mul_le_mul_right _ k2
  have hlen:((cur.toList.drop ofs).take (ys.length*n)).length=ys.length*n:=by rw[aI];omega
  have hels:OwnEls R I w ((cur.toList.drop ofs).take (ys.length*n)) ys K3:=k5.rest (by grind)
  have hone: ∀v∈(cur.toList.drop ofs).take (ys.length*n),v.oneCell'=true:=by
   have: ∀ {ys:List α} {l:List Value} {F},OwnEls R I w l ys F-> ∀v∈l.take (ys.length*R.size),v.oneCell'=true:=by
    intro ys
    induction ys with
    | nil=>simp_all
    | cons y ys ih =>
     rintro l F ⟨c,rest,G,K,rfl,h2,h3,h4,h5⟩ v hv
     rw[aK,Nat.add_mul,Nat.one_mul,Nat.add_comm,List.take_append,List.take_of_length_le (by omega),h2,Nat.add_sub_cancel_left] at hv
     rcases aH hv with h | h
     ·exact R.own_one h4 v h
     grind
   grind
  have hnd1:(G++(K3++K2)).Nodup:=by
   exact hnd.sublist (List.Sublist.append_left (List.sublist_cons_self _ _) _)
  have ⟨v',w',hrun,hst'⟩:=St.append_cells (ty:=o.type) hT hE hzs hn hR (a:=⟨g,ofs,none⟩) (cap:=cap) (K2:=K3) (ys:=ys) (news:=(cur.toList.drop ofs).take (ys.length*n)) hst
   ⟨G,K3++K2,K2,e1,e3,rfl,hnd1,fun b hb=>hI b (by grind)⟩
   hels (fun j u hj=>by
    grind[Addr.add_mid,World.cell?]) hone hlen hb hb1
  rw[dm ho hx hy hrun]
  exact ⟨trivial,hst'⟩
theorem Cn {S:Rep α} {E' T:TypeId} {z:Value} {n b:Nat} {x y:Operand} {s u:Value} {xs ys:List α} (hc:Cpy S R) (hSz:S.size=n) (hr:(af E' S).rd I [u] ys) (hT:P.underlying T=some (.slice E)) (hE:TZ P E z n b) (hzs:z.cells.size=n) (hn:0<n) (hR:R.size=n) (hb1:1<=b) (ho:o.op= .call { callee:=.builtin .append,args:= #[x,y],argTypes:= #[T,T] }) (hx:ev x=s) (hy:ev y=u) (hb:(xs.length+ys.length)*b<=140737488355328) :
  OpT P I w0 o ev [Ch.own (af E R) [s] xs] (fun _=>True) (fun v=>[Ch.own (af E R) [v] (xs++ys)]):=by
 intro w C hs
 have hs0:=hs
 obtain ⟨hb0,hi,F,⟨G,K,rfl,e1,e3⟩,hnd,hI⟩:=hs
 have ⟨ao,cap,hv,hl,h⟩:=hr
 obtain rfl:u= .slice ao ys.length cap:=by grind
 rcases h with rfl | ⟨g,off,ccs,t,fr,rfl,hg,hel⟩
 ·have ⟨i,hi',hz,hsize,hby⟩:=info_parts hE
  have hrun:(Builtin.append_ #[T,T] o.type #[s,.slice ao 0 cap]).run P w= .ok s w:=by
   rcases e1.2 with ⟨hs1,_⟩ | ⟨g,ofs,cap,cur,K,hs1,_,h3,_⟩
   ·simp_all[dP,aF]
   ·grind[dP]
  rw[dm ho hx hy hrun]
  refine ⟨trivial,?_⟩
  grind
 ·have ⟨news,n1,n2,n3,n4⟩:=Y0 (R:=S) (I:=I) (w:=w) hel
  have n4':OwnEls R I w news ys []:=by
   have: ∀ {ys:List α} {l:List Value},OwnEls (tm S) I w l ys [] ->OwnEls R I w l ys []:=by
    intro ys
    induction ys with
    | nil=>intro l h;exact h
    | cons y ys ih =>
     rintro l ⟨c,rest,G,K,h1,h2,h3,⟨rfl,h4⟩,h5⟩
     have:K= []:=by simpa using h3.symm
     subst this
     exact ⟨c,rest,[],[],h1,by rw[hR,<-hSz];exact h2,rfl,hc h4,ih h5⟩
   exact this n4
  have hw:w.heap[g]? =some (.cells ccs t fr):=hi g _ hg
  have ⟨v',w',hrun,hst'⟩:=St.append_cells (ty:=o.type) hT hE hzs hn hR (a:=⟨g,off,none⟩) (cap:=cap) (K2:=[]) (ys:=ys) (news:=news) hs0
   ⟨G,K,K,e1,e3,rfl,hnd,hI⟩ n4' (fun j u hj=>by
    grind[Addr.add_mid,World.cell?]) n3 (by grind) hb hb1
  rw[dm ho hx hy hrun]
  exact ⟨trivial,hst'⟩
theorem Al {T:TypeId} {z:Value} {n b:Nat} {x y:Operand} {s u:Value} {xs ys:List α} (hSh:R.Sh) (hc:Cpy R R) (hT:P.underlying T=some (.slice E)) (hE:TZ P E z n b) (hzs:z.cells.size=n) (hn:0<n) (hR:R.size=n) (hb1:1<=b) (ho:o.op= .call { callee:=.builtin .append,args:= #[x,y],argTypes:= #[T,T] }) (hx:ev x=s) (hy:ev y=u) (hb:(xs.length+ys.length)*b<=140737488355328) :
  OpT P I w0 o ev [Ch.own (af E R) [s] xs,Ch.own (af E R) [u] ys] (fun _=>True) (fun v=>[Ch.own (af E R) [v] (xs++ys),Ch.own (af E R) [u] ys]):=by
 intro w C hs
 have hs0:=hs
 obtain ⟨hb0,hi,F,⟨G,K,rfl,e1,K1,K2,rfl,e2',e3⟩,hnd,hI⟩:=hs
 have ⟨hly,e2⟩:=e2'
 rcases e2 with ⟨hv,rfl,rfl⟩ | ⟨g,ofs,cap,cur,K3,hv,k1,k2,k3,k4,rfl,k5⟩
 ·obtain rfl:u= .slice none 0 0:=by grind
  have ⟨i,hi',hz,hsize,hby⟩:=info_parts hE
  have hrun:(Builtin.append_ #[T,T] o.type #[s,.slice none 0 0]).run P w= .ok s w:=by
   rcases e1.2 with ⟨hs1,_⟩ | ⟨g,ofs,cap,cur,K,hs1,_,h3,_⟩
   ·simp_all[dP,aF]
   ·grind[dP]
  rw[dm ho hx hy hrun]
  refine ⟨trivial,?_⟩
  grind
 ·obtain rfl:u= .slice (some ⟨g,ofs,none⟩) ys.length cap:=by grind
  have:=k5.sh hSh
  subst this
  have hln:cap*n<=(cur.toList.drop ofs).length:=by rw[bJ,Array.length_toList];rw[hR] at k4;omega
  have hfit:ys.length*n<=cap*n:=Nat.mul_le_mul_right _ k2
  have hlen:((cur.toList.drop ofs).take (ys.length*n)).length=ys.length*n:=by rw[aI];omega
  have hels:OwnEls R I w ((cur.toList.drop ofs).take (ys.length*n)) ys []:=k5.rest (by grind)
  have hone: ∀v∈(cur.toList.drop ofs).take (ys.length*n),v.oneCell'=true:=by
   have: ∀ {ys:List α} {l:List Value} {F},OwnEls R I w l ys F-> ∀v∈l.take (ys.length*R.size),v.oneCell'=true:=by
    intro ys
    induction ys with
    | nil=>simp_all
    | cons y ys ih =>
     rintro l F ⟨c,rest,G,K,rfl,h2,h3,h4,h5⟩ v hv
     rw[aK,Nat.add_mul,Nat.one_mul,Nat.add_comm,List.take_append,List.take_of_length_le (by omega),h2,Nat.add_sub_cancel_left] at hv
     rcases aH hv with h | h
     ·exact R.own_one h4 v h
     grind
   grind
  have ⟨v',w',hrun,hst'⟩:=St.append_cells (ty:=o.type) hT hE hzs hn hR (a:=⟨g,ofs,none⟩) (cap:=cap) (K2:=[]) (ys:=ys) (news:=(cur.toList.drop ofs).take (ys.length*n)) hs0
   ⟨G,[g] ++K2,[g] ++K2,e1,⟨[g],K2,rfl,⟨hly,.inr ⟨g,ofs,cap,cur,[],hv,k1,k2,k3,k4,rfl,k5⟩⟩,e3⟩,rfl,hnd,hI⟩
   hels (fun j u hj=>by
    grind[Addr.add_mid,World.cell?]) hone hlen hb hb1
  rw[dm ho hx hy hrun]
  exact ⟨trivial,hst'⟩
end
end D
namespace D
open Go.RowKit
inductive Out (R S:Type) where
 | nxt (s:S)
 | brk (s:S)
 | ret (r:R)
def ak {R S:Type} (f:S->Option (Out R S)):Nat->S->Option (Out R S)
 | 0,_=>none
 | k+1,s=>match f s with
  | none=>none
  | some (.nxt s')=>ak f k s'
  | some (.brk s')=>some (.brk s')
  | some (.ret r)=>some (.ret r)
def aP:Nat:=1180591620717411303424
def cM {α:Type} (b:Nat) (xs ys:List α):Option (List α):=if (xs.length+ys.length)*b<=140737488355328 then some (xs++ys) else none
def chk (p:Prop) [Decidable p] :Option Unit:=if p then some () else none
theorem bind_some {α β:Type} {x:Option α} {f:α->Option β} {r:β} (h:(x.bind f)=some r): ∃a,x=some a/\f a=some r:=Option.bind_eq_some_iff.1 h
theorem vI {α:Type} {b:Nat} {xs ys zs:List α} (h:cM b xs ys=some zs):zs=xs++ys/\(xs.length+ys.length)*b<=140737488355328:=by
 unfold cM at h
 split at h
 ·exact ⟨(ad h).symm,‹_›⟩
 ·cases h
theorem bQ {p:Prop} [Decidable p] {u:Unit} (h:chk p=some u):p:=by
 unfold chk at h
 split at h
 ·assumption
 ·cases h
section
variable {P:Program} {I J:Hp} {w0 w w':World} {cs C:List Ch} {n:Nat} {a:Act} {L:List (Nat×Value)} {Q:Exit->Act->World->Prop}
def Con (P:Program) (k:FuncId) (args:Array Value) (I:Hp) (w0:World) (rn:List Ch) (fact:Value->Prop) (gv:Value->List Ch):Prop:=
 ∀w C,St I w0 w (rn++C)->Calls P k args w fun e w'=> ∃v,e= .returned v/\fact v/\St I w0 w' (gv v++C)
theorem qy {o:Oper} {ev:Operand->Value} {k:FuncId} {f:Operand} {xs:Array Operand} {ts:Array TypeId} {first captured args:Array Value} {rn:List Ch} {fact:Value->Prop} {gv:Value->List Ch} (he:Enters P k) (ho:o.op= .call { callee:=.value f,args:=xs,argTypes:=ts }) (hf:ev f= .func (.func k) first captured) (hl:first.toList++xs.toList.map ev++captured.toList=args.toList) (hc:Con P k args I w0 rn fact gv):OpT P I w0 o ev rn fact gv:=by
 intro w C hs
 have ha:(first++xs.map ev)++captured=args:=by
  apply Array.ext'
  rw[<-hl];simp
 have hr:(execOp ev o).run P w= .ok (.enter k args) w:=by
  simp only[execOp,ho,resolve,hf,Deferred.ofValue,Sem.run_bind,Sem.run_pure,Result.andThen_ok,invoke,ha]
  exact he args w
 rw[hr]
 exact hc w C hs
theorem Con.imp {k:FuncId} {args:Array Value} {rn:List Ch} {fact fact':Value->Prop} {gv gv':Value->List Ch} (h:Con P k args I w0 rn fact gv) (hf: ∀v,fact v->fact' v) (hg: ∀v,fact v-> ∀w C,St I w0 w (gv v++C)->St I w0 w (gv' v++C)):Con P k args I w0 rn fact' gv' :=
 fun w C hs=>(h w C hs).mono fun e w' ⟨v,h1,h2,h3⟩=>⟨v,h1,hf v h2,hg v h2 _ _ h3⟩
def Rep.Dp {α:Type} (R:Rep α):Prop:= ∀ {I J:Hp} {w:World} {v:List Value} {x:α} {F:List Nat},R.own J w v x F->R.own I w v x F
theorem Am {α:Type} {enc:α->Value} {h1: ∀a,(enc a).oneCell'=true} :(lr α enc h1).Dp:=fun h=>h
theorem Wo:oJ.Dp:=Am
theorem Y1:D0.Dp:=Am
theorem Wp {α β:Type} {R:Rep α} {S:Rep β} (h:R.Dp) (k:S.Dp):(aD R S).Dp:=by
 rintro I J w v x F ⟨c,d,G,K,h1,h2,h3,h4⟩
 exact ⟨c,d,G,K,h1,h2,h h3,k h4⟩
theorem D7 {α:Type} {E:TypeId} {R:Rep α} (h:R.Dp):(af E R).Dp:=by
 intro I J w v x F hh
 have key: ∀ {xs:List α} {cur F},OwnEls R J w cur xs F->OwnEls R I w cur xs F:=by
  intro xs
  induction xs with
  | nil=>intro cur F h;exact h
  | cons x xs ih =>
   rintro cur F ⟨c,rest,G,K,h1,h2,h3,h4,h5⟩
   exact ⟨c,rest,G,K,h1,h2,h3,h h4,ih h5⟩
 refine ⟨hh.1,hh.2.imp (fun h=>h) ?_⟩
 rintro ⟨g,ofs,cap,cur,K,h1,h2,h3,h4,h5,h6,h7⟩
 exact ⟨g,ofs,cap,cur,K,h1,h2,h3,h4,h5,h6,key h7⟩
theorem An {α:Type} {R:Rep α} (h:R.Dp) {v:List Value} {x:α} :(Ch.own R v x).deep:=fun hh=>h hh
theorem Y2 {g:Nat} {l:List Value} {E:TypeId} :(Ch.blk g l E).deep:=fun hh=>hh
def Iq (P:Program) (a:Act) (w:World):ResultVar->Value->Prop
 | .tmp t,v=>a.tmps.getD t undef=v
 | .cell p T,v=> ∃A,a.tmps.getD p undef= .pointer (some A)/\(loadVar T A).run P w= .ok v w
theorem Wq (ha:Agr n a L) {t:Nat} {v:Value} (h:L.lookup t=some v):Iq P a w (.tmp t) v:=ha.2.2 t v h
theorem RK (ha:Agr n a L) {t g:Nat} {T E:TypeId} {l:List Value} {m:Nat} {cs:List Ch} (h:L.lookup t=some (.pointer (some ⟨g,0,none⟩))) (hs:St I w0 w cs) (i:Nat) (hi:cs[i]? =some (Ch.blk g l E)) (hT:TI P T true m) (hl:l.length=m):Iq P a w (.cell t T) (.agg l.toArray):=by
 refine ⟨_,ha.2.2 t _ h,?_⟩
 obtain ⟨⟨d,h1,h2⟩,h3⟩:=hT
 refine run_loadVar_mid w g 0 T l d (fun j v hv=>?_) h1 (by cases d <;> first | rfl | cases h2) (by rw[h3,hl])
 have hg:=hs.heap i hi
 rw[Nat.zero_add]
 simp[World.cell?,hg,hv]
theorem RL {c:Operand} {x y:Code} {b:Bool} (ha:Agr n a L) (hk:NA L c=true) (hv:evL L c= .bool b) (hb:b=true) (h:x.wp P Q a w):(Code.cond c x y).wp P Q a w:=
 wp_cond_true (by rw[ha.eval hk,hv,hb]) h
theorem NH {c:Operand} {x y:Code} {b:Bool} (ha:Agr n a L) (hk:NA L c=true) (hv:evL L c= .bool b) (hb:b=false) (h:y.wp P Q a w):(Code.cond c x y).wp P Q a w:=
 wp_cond_false (by rw[ha.eval hk,hv,hb]) h
theorem Y3 {id:Nat} (h:Q .normal a w):Exit.inBlock id Q (.exit id) a w:=by
 show if id=id then Q .normal a w else Q (.exit id) a w
 rw[if_pos rfl];exact h
theorem Y4 {id id':Nat} (hne:id'≠id) (h:Q (.exit id') a w):Exit.inBlock id Q (.exit id') a w:=by
 show if id'=id then Q .normal a w else Q (.exit id') a w
 rw[if_neg hne];exact h
theorem RM {R S:Type} {c:Code} {f:S->Option (Out R S)} {k:Nat} {s:S} {o:Out R S} (Inv:S->Act->World->Prop) (h:ak f k s=some o) (h0:Inv s a w)
  (round: ∀s o',f s=some o'->((∀s',o'≠ .nxt s')->o'=o)-> ∀a w,Inv s a w->c.wp P (Exit.then (fun a w=> ∃s',o'= .nxt s'/\Inv s' a w) Q) a w):(Code.loop c).wp P Q a w:=by
 intro b it cs
 have key: ∀k s a w,ak f k s=some o->Inv s a w-> ∃e a' w',Q e a' w'/\Arrives P (lone (b.at a (.code c:: .inLoop c::it)) cs w) b it cs e a' w':=by
  intro k
  induction k with
  | zero=>intro s a w h;cases h
  | succ k ih =>
   intro s a w h hI
   rw[ak] at h
   cases hf:f s with
   | none=>rw[hf] at h;cases h
   | some o' =>
    rw[hf] at h
    obtain ⟨e,a₁,w₁,hq,harr⟩:=round s o' hf (fun hn=>by
     cases o' with
     | nxt s'=>exact absurd rfl (hn s')
     | brk s'=>exact ad h
     | ret r=>exact ad h) a w hI b (.inLoop c::it) cs
    cases e with
    | normal =>
     obtain ⟨s',rfl,hI₁⟩:=hq
     obtain ⟨e₂,a₂,w₂,hq₂,harr₂⟩:=ih s' a₁ w₁ h hI₁
     exact ⟨e₂,a₂,w₂,hq₂,.of_steps (Steps.trans harr (.one step_inLoop)) harr₂⟩
    | exit id=>exact ⟨_,a₁,w₁,hq,.pass (x:=.inLoop c) rfl (fun _ _=>.inl (by simp)) harr⟩
    | goto l=>exact ⟨_,a₁,w₁,hq,.pass (x:=.inLoop c) rfl (fun _ _=>.inl (by simp)) harr⟩
    | ret=>exact ⟨_,a₁,w₁,hq,.pass (x:=.inLoop c) rfl (fun _ _=>.inl (by simp)) harr⟩
    | panic ch=>exact ⟨_,a₁,w₁,hq,.pass (x:=.inLoop c) rfl (fun _ _=>.inl (by simp)) harr⟩
    | outgrown=>exact ⟨_,a₁,w₁,hq,.pass (x:=.inLoop c) rfl (fun _ _=>.inl (by simp)) harr⟩
 obtain ⟨e,a',w',hq,harr⟩:=key k s a w h h0
 exact ⟨e,a',w',hq,.of_steps (.one step_loop) harr⟩
theorem RN {ops:Array Oper} {o:Oper} {rest:List Oper} {g d:Nat} {want b:Bool} (ha:Agr n a L) (hs:St I w0 w C) (hg:o.guard=some (g,want)) (hd:((ops[g]?).bind (·.dst))=some d) (hv:L.lookup d=some (.bool b)) (hb:b= !want) (hn:dstOk n o.dst=true)
  (k: ∀a,Agr n a (RA o.dst undef L)->wpList P ops Q rest a w):wpList P ops Q (o::rest) a w:=by
 refine wpList_skip ?_ (k _ (ha.put undef hn))
 have h:=ha.2.2 d _ hv
 unfold Region.wanted yielded
 rw[hg];simp only
 rw[hd];simp only[aa]
 rw[Array.getD_eq_getD_getElem?] at h
 cases ht:a.tmps[d]? with
 | none=>rw[ht] at h;cases h
 | some u =>
  rw[ht] at h
  simp only[Option.getD_some] at h
  rw[h];simp only[hb]
  cases want <;> rfl
theorem RO {ops:Array Oper} {o:Oper} {rest:List Oper} {g d:Nat} {want b:Bool} {C0 rn:List Ch} {fact:Value->Prop} {gv:Value->List Ch} (ha:Agr n a L) (hs:St I w0 w C0) (hg:o.guard=some (g,want)) (hd:((ops[g]?).bind (·.dst))=some d) (hv:L.lookup d=some (.bool b)) (hb:b=want) (hop:OpT P I w0 o (evL L) rn fact gv) (hp:C0.Perm (rn++C)) (hk:(D1 L o&&dstOk n o.dst&&noSelect o)=true)
  (k: ∀v a w,fact v->Agr n a (RA o.dst v L)->St I w0 w (gv v++C)->wpList P ops Q rest a w):wpList P ops Q (o::rest) a w:=by
 simp only[ai] at hk
 obtain ⟨⟨hk1,hk2⟩,hk3⟩:=hk
 have hw:Region.wanted o (yielded ops a.tmps)=true:=by
  have h:=ha.2.2 d _ hv
  unfold Region.wanted yielded
  rw[hg];simp only
  rw[hd];simp only[aa]
  rw[Array.getD_eq_getD_getElem?] at h
  cases ht:a.tmps[d]? with
  | none=>rw[ht] at h;cases h
  | some u =>
   rw[ht] at h
   simp only[Option.getD_some] at h
   rw[h];simp[hb]
 refine BigFrame.wpList_want hw fun K hK=>?_
 have he:execOp a.eval o=execOp (evL L) o:=qx hk3 fun x hx=>ha.eval ((List.all_eq_true.1 hk1) x (by simpa using hx))
 have h:=hop w C (hs.perm hp)
 rw[<-he] at h
 exact h.wp fun v w' hv=>hK _ _ (k v _ w' hv.1 (ha.put v hk2) hv.2)
end
end D
namespace D
open Go.RowKit
section
variable {P:Program} {I J:Hp} {w0 w w':World} {cs C:List Ch} {n:Nat} {a:Act} {L L':List (Nat×Value)} {Q:Exit->Act->World->Prop} {o:Oper} {ev:Operand->Value}
theorem nrm {K:Act->World->Prop} (h:K a w):Exit.then K Q .normal a w:=h
theorem acY {id:Nat} (h:Q .normal a w):Exit.inBlock id Q .normal a w:=h
theorem Wr {K:Act->World->Prop} {id:Nat} (h:Q (.exit id) a w):Exit.then K Q (.exit id) a w:=h
theorem Ws {K:Act->World->Prop} (h:Q .ret a w):Exit.then K Q .ret a w:=h
theorem acm {id:Nat} (h:Q .ret a w):Exit.inBlock id Q .ret a w:=h
theorem two (b:Bool):b=false\/b=true:=by cases b <;> simp
theorem Hd.one {v:Value} {n:Nat} (h:Hd v n):v.oneCell'=true:=by obtain ⟨_,_,rfl,_⟩:=h;rfl
def Ir (place:Nat->Option (Nat×Nat)) (cells:List Value):List (Nat×List Value)->Option (List Value)
 | [] =>some cells
 | (i,l)::rest=>match place i with
  | none=>none
  | some (off,size)=>if l.length=size/\off+size<=cells.length then Ir place (cells.take off++l++cells.drop (off+size)) rest else none
theorem UW {place:Nat->Option (Nat×Nat)} : ∀ {parts:List (Nat×Value)} {ls:List (Nat×List Value)} {cells r:List Value},parts.map (fun p=>(p.1,p.2.cells))=ls.map (fun p=>(p.1,p.2.toArray))->Ir place cells ls=some r->Instr.fill place cells.toArray parts=some r.toArray
 | [],[],cells,r,_,h=>by grind[Ir,Instr.fill,ad]
 | [],_::_,cells,r,he,h=>by grind
 | _::_,[],cells,r,he,h=>by grind
 | (i,u)::parts,(j,l)::ls,cells,r,he,h=>by
  simp[List.map_cons,List.cons.injEq,Prod.mk.injEq] at he
  obtain ⟨⟨rfl,hu⟩,he⟩:=he
  rw[Ir] at h
  rw[Instr.fill]
  cases hp:place i with
  | none=>grind
  | some q =>
   have ⟨off,size⟩:=q
   rw[hp] at h
   simp only at h⊢
   split at h
   ·rename_i hc
    rw[hu]
    rw[if_neg (by grind)]
    have hr:=ND l off cells.toArray (by grind)
    have e:(l.toArray.zipIdx.foldl (fun cs (c,j)=>cs.setIfInBounds (off+j) c) cells.toArray)=(cells.take off++l++cells.drop (off+size)).toArray:=by
     rw[<-hc.1]
     apply Array.ext'
     rw[hr]
    rw[e]
    exact UW he h
   grind
def TB (P:Program) (T:TypeId) (pl:List (Nat×Nat)):Prop:= ∃fs,P.underlying T=some (.struct fs)/\fs.toList.mapM (fun f=>(P.info? f.type).map fun i=>(f.offset,i.size))=some pl
def peq:List (Nat×Value)->List (Nat×List Value)->Prop
 | [],[] =>True
 | (i,u)::p,(j,l)::q=>i=j/\u.cells=l.toArray/\peq p q
 | _,_=>False
theorem NI: ∀ {p:List (Nat×Value)} {q:List (Nat×List Value)},peq p q->p.map (fun p=>(p.1,p.2.cells))=q.map (fun p=>(p.1,p.2.toArray))
 | [],[],_=>rfl
 | (i,u)::p,(j,l)::q,h=>by
  obtain ⟨rfl,h2,h3⟩:=h
  rw[List.map_cons,List.map_cons,NI h3,h2]
 | [],_::_,h=>h.elim
 | _::_,[],h=>h.elim
theorem NJ {T:TypeId} {z:Value} {m b:Nat} {parts:Array (Nat×Operand)} {zl r:List Value} (ls:List (Nat×List Value)) {pl:List (Nat×Nat)} (hT:TB P T pl) (hz:TZ P T z m b) (hzl:z.cells=zl.toArray) (ho:o.op= .build T parts)
  (hls:peq (parts.toList.map fun p=>(p.1,ev p.2)) ls) (hr:Ir (pl[·]?) zl ls=some r):OpT P I w0 o ev [] (· = .agg r.toArray) (fun _=>[]):=by
 refine bd fun w=>?_
 have ⟨fs,h1,h2⟩:=hT
 obtain ⟨i,hi,hz1,-,-⟩:=info_parts hz
 have hf:=UW (place:=fun i=>pl.toArray[i]?) (cells:=zl) (r:=r) (parts:=(parts.map fun (i,x)=>(i,ev x)).toList) (by rw[Array.toList_map];exact NI hls) (by grind)
 simp_all[Program.built,execOp,Sem.run_bind,run_build]
def aJ {R S T:Type} (x:Option (Out R S)) (kr:R->Option T) (k:S->Option T):Option T:=
 match x with
 | some (.brk s)=>k s
 | some (.ret r)=>kr r
 | _=>none
theorem LW {R S T:Type} {x:Option (Out R S)} {kr:R->Option T} {k:S->Option T} {t:T} (h:aJ x kr k=some t): ∃o,x=some o/\((∃s,o= .brk s/\k s=some t)\/ ∃r,o= .ret r/\kr r=some t):=by
 unfold aJ at h
 grind
def Is {S T:Type} (x:Option (T ⊕ S)) (k:S->Option T):Option T:=
 match x with
 | some (.inr s)=>k s
 | some (.inl t)=>some t
 | none=>none
theorem C2 {S T:Type} {x:Option (T ⊕ S)} {k:S->Option T} {t:T} (h:Is x k=some t): ∃o,x=some o/\((∃s,o= .inr s/\k s=some t)\/o= .inl t):=by
 unfold Is at h
 grind
def vg:Value->List Nat->Value
 | v,[] =>v
 | .tuple vs,i::l=>vg (vs.getD i undef) l
 | .agg cs,i::l=>vg (cs.getD i undef) l
 | .func _ _ cs,i::l=>vg (cs.getD i undef) l
 | _,_::_=>undef
theorem St.nil {α:Type} {R:Rep α} {E:TypeId} (h:St I w0 w cs):St I w0 w (Ch.own (af E R) [.slice none 0 0] ([] :List α)::cs):=
 h.free ⟨by simp,.inl ⟨rfl,rfl,rfl⟩⟩
theorem one_cell {α:Type} {R:Rep α} {c:List Value} {x:α} (h:R.rd I c x) (hs:R.size=1): ∃v,c= [v]:=List.length_eq_one_iff.1 ((R.rd_len h).trans hs)
theorem UX {α:Type} {R:Rep α} {E:TypeId} :(af E R).rd I [.slice none 0 0] ([] :List α):=⟨none,0,rfl,by simp,.inl rfl⟩
theorem OwnEls.stay' {α:Type} {R:Rep α} (hR:R.Sh) (hc:Cpy R R): ∀ {xs:List α} {cur:List Value},OwnEls R I w cur xs [] ->OwnEls R I w' cur xs []
 | [],_,h=>h
 | x::xs,cur,⟨d,rest,G,K,h1,h2,h3,h4,h5⟩=>by
  have hK:K= []:=by simp at h3;exact h3.2
  subst hK
  exact ⟨d,rest,[],[],h1,h2,rfl,hc (hR h4).2,h5.stay' hR hc⟩
def Upd {α β:Type} (R:Rep α) (off:Nat) (S:Rep β) (u:α->β->α):Prop:= ∀I c x d y,R.rd I c x->S.rd I d y->R.rd I (spl c off d) (u x y)
theorem C3: ∀(d c:List Value) (off:Nat),off+d.length<=c.length->spl c off d=c.take off++d++c.drop (off+d.length)
 | [],c,off,h=>by simp[spl]
 | v::d,c,off,h=>by
  rw[aK] at h
  rw[spl,C3 d _ _ (by grind)]
  have e1:(c.set off v).take (off+1)=c.take off++ [v]:=by
   rw[List.take_add_one,List.take_set_of_le (aF _),List.getElem?_set_self (by omega)];rfl
  grind[List.drop_set_of_lt,aK]
theorem Upd.self {α:Type} {R:Rep α} :Upd R 0 R (fun _ y=>y):=by
 intro I c x d y h k
 rw[C3 _ _ _ (by rw[R.rd_len h,R.rd_len k];omega),R.rd_len k,<-R.rd_len h]
 grind
theorem vJ: ∀(d c e:List Value) (off:Nat),off+d.length<=c.length->spl (c++e) off d=spl c off d++e
 | [],c,e,off,h=>rfl
 | v::d,c,e,off,h=>by
  rw[aK] at h
  rw[spl,spl,List.set_append_left _ _ (by omega),vJ d _ e _ (by grind)]
theorem pK: ∀(d c e:List Value) (off:Nat),spl (c++e) (c.length+off) d=c++spl e off d
 | [],c,e,off=>rfl
 | v::d,c,e,off=>by
  rw[spl,spl,List.set_append_right _ _ (by omega),Nat.add_sub_cancel_left,show c.length+off+1=c.length+(off+1) from by omega,pK d]
theorem Km {d c:List Value} {o off:Nat} (h:o<=c.length):(spl c (o+off) d).drop o=spl (c.drop o) off d:=by
 have:=pK d (c.take o) (c.drop o) off
 simp_all
theorem Upd.fst {α β γ:Type} {A:Rep α} {B:Rep β} {S:Rep γ} {off:Nat} {u:α->γ->α} (hs:off+S.size<=A.size) (h:Upd A off S u):Upd (aD A B) off S (fun x y=>(u x.1 y,x.2)):=by
 rintro I c x d y ⟨c1,c2,rfl,h1,h2⟩ k
 rw[vJ _ _ _ _ (by rw[A.rd_len h1,S.rd_len k];exact hs)]
 exact ⟨_,c2,rfl,h I c1 x.1 d y h1 k,h2⟩
theorem Upd.snd {α β γ:Type} {A:Rep α} {B:Rep β} {S:Rep γ} {off:Nat} {u:β->γ->β} (h:Upd B off S u):Upd (aD A B) (A.size+off) S (fun x y=>(x.1,u x.2 y)):=by
 rintro I c x d y ⟨c1,c2,rfl,h1,h2⟩ k
 rw[<-A.rd_len h1,pK]
 exact ⟨c1,_,rfl,h1,h I c2 x.2 d y h2 k⟩
theorem OwnEls.set {α:Type} {R:Rep α} (hR:R.Sh) (hc:Cpy R R) {c:List Value} {y:α} (hy:R.rd I c y): ∀ {xs:List α} {cur cur':List Value} {k:Nat},OwnEls R I w cur xs [] ->k<xs.length->cur'.length=cur.length->(∀j,j<R.size->cur'[k*R.size+j]? =c[j]?)->(∀j,j<k*R.size\/k*R.size+R.size<=j->cur'[j]? =cur[j]?)->OwnEls R I w' cur' (xs.set k y) []
 | [],_,_,k,_,hk,_,_,_=>by rfl
 | x::xs,cur,cur',0,⟨d,rest,G,K,h1,h2,h3,h4,h5⟩,hk,hl,h6,h7=>by
  have hK:K= []:=by simp at h3;exact h3.2
  subst hK;subst h1
  have hcl:=R.rd_len hy
  refine ⟨c,cur'.drop R.size,[],[],?_,hcl,rfl,hc hy,?_⟩
  ·apply List.ext_getElem?
   grind
  ·have e:cur'.drop R.size=rest:=by
    apply List.ext_getElem?
    intro j
    rw[List.getElem?_drop,h7 _ (.inr (by omega)),List.getElem?_append_right (by omega)]
    congr 1;omega
   rw[e]
   exact h5.stay' hR hc
 | x::xs,cur,cur',k+1,⟨d,rest,G,K,h1,h2,h3,h4,h5⟩,hk,hl,h6,h7=>by
  have hK:K= []:=by simp at h3;exact h3.2
  subst hK;subst h1
  have hm:(k+1)*R.size=k*R.size+R.size:=by grind
  refine ⟨d,cur'.drop R.size,[],[],?_,h2,rfl,hc (hR h4).2,?_⟩
  ·apply List.ext_getElem?
   grind
  ·refine OwnEls.set hR hc hy (cur:=rest) h5 (by simpa using hk) ?_ (fun j hj=>?_) (fun j hj=>?_)
   ·rw[bJ,hl,aC];omega
   ·rw[List.getElem?_drop,<-h6 j hj];congr 1;omega
   ·rw[List.getElem?_drop,h7 _ (by omega),List.getElem?_append_right (by omega)];congr 1;omega
theorem NK {c d:List Value} {off j:Nat} (h:off+d.length<=c.length):(spl c off d)[j]? =if off<=j/\j<off+d.length then d[j - off]? else c[j]? :=by
 grind[C3,aI]
theorem Ge {α β:Type} {E T:TypeId} {R:Rep α} {S:Rep β} {agg:Bool} {n k off:Nat} {f:α->β->α} {x y:Operand} {v u:Value} {xs:List α} {a:α} {b:β} {i:Int} {d:List Value} (hR:R.Sh) (hc:Cpy R R) (ha:aG xs i=some a) (hU:Upd R off S f) (hT:TI P T agg n) (ho:o.op= .store T x y) (hx:ev x=pt v (i.toNat*k+off)) (hy:ev y=u) (hu:u.cells=d.toArray) (h1:d.all (·.oneCell')=true) (hd:d.length=n) (hk:R.size=k) (hS:off+n<=k) (hb:S.rd I d b) :
  OpT P I w0 o ev [Ch.own (af E R) [v] xs] (fun _=>True) (fun _=>[Ch.own (af E R) [v] (xs.set i.toNat (f a b))]):=by
 intro w C hs
 have hm:=pg ha
 have hlt:=(List.getElem?_eq_some_iff.1 hm).1
 obtain ⟨hb0,hi,F,⟨G,K,rfl,⟨hl,e2⟩,e3⟩,hnd,hI⟩:=hs
 rcases e2 with ⟨hv,rfl,rfl⟩ | ⟨g,ofs,cap,cur,K1,hv,k1,k2,k3,k4,rfl,k5⟩
 ·grind
 obtain rfl:v= .slice (some ⟨g,ofs,none⟩) xs.length cap:=by grind
 have:=k5.sh hR
 subst this
 have ⟨c,c1,c2,c3⟩:=k5.at Hp.le.rfl (by simp) i.toNat a hm
 have hfit:ofs+(i.toNat*k+k)<=cur.size:=by
  have k4':=k4
  rw[hk] at k4'
  have:(i.toNat+1)*k<=cap*k:=Nat.mul_le_mul_right _ (by omega)
  rw[Nat.add_mul,Nat.one_mul] at this;omega
 have hln:cur.toList.length=cur.size:=Array.length_toList
 have hld:(cur.toList.drop ofs).length=cur.size - ofs:=by grind
 have hr:=Ki (P:=P) (w:=w) hT (g:=g) (o:=ofs+(i.toNat*k+off)) hu hd (fun j hj=>by
  simp[World.cell?,k1,Option.isSome_none,Bool.false_eq_true,ite_false]
  grind) (fun j=>by simp[World.frozen?,k1]) (fun v hv=>List.all_eq_true.1 h1 v hv)
 simp only[execOp,ho,hx,hy,pt,ptB,ptO,Sem.run_bind,hr,Result.andThen_ok]
 refine ⟨trivial,?_⟩
 have hch: ∀(d:List Value) (o:Nat) (w:World),(ph w g o d).os=w.os/\(ph w g o d).tape=w.tape/\(ph w g o d).output=w.output/\(ph w g o d).heap.size=w.heap.size/\ ∀b,b≠g->(ph w g o d).heap[b]? =w.heap[b]? :=by
  intro d
  induction d with
  | nil=>intro o w;exact ⟨rfl,rfl,rfl,rfl,fun _ _=>rfl⟩
  | cons v d ih =>
   intro o w
   have ⟨i1,i2,i3,i4,i5⟩:=ih (o+1) (w.setCell ⟨g,o,none⟩ v)
   exact ⟨i1,i2,i3,i4.trans (by simp_all),fun b hb=>(i5 b hb).trans (Below.heap_setCell _ _ _ _ hb)⟩
 have hrow: ∀(d:List Value) (o:Nat) (w:World) (cur:Array Value),w.heap[g]? =some (.cells cur E (0,0))->(ph w g o d).heap[g]? =some (.cells (spl cur.toList o d).toArray E (0,0)):=by
  intro d
  induction d with
  | nil=>simp_all[ph,spl]
  | cons v d ih =>
   intro o w cur h
   have:=ih (o+1) (w.setCell ⟨g,o,none⟩ v) (cur.setIfInBounds o v) (fw h)
   rw[Array.toList_setIfInBounds] at this
   exact this
 have ⟨q1,q2,q3,q4,q5⟩:=hch d (ofs+(i.toNat*k+off)) w
 have hgK:g∉K:=by rw[List.cons_append] at hnd;simpa using (List.nodup_cons.1 hnd).1
 have hcl:c.length=k:=by omega
 have hrd:=hU I c a d b c3 hb
 refine ⟨⟨q1.trans hb0.1,q2.trans hb0.2.1,q3.trans hb0.2.2.1,by omega⟩,fun b o hbo=>?_,[g] ++K,⟨[g],K,rfl,⟨by grind,.inr ⟨g,ofs,cap,_,[],by grind,hrow d _ w cur k1,by grind,k3,by grind[List.size_toArray,xg],rfl,?_⟩⟩,e3.stay fun b hb=>q5 b fun e=>hgK (e ▸ hb)⟩,hnd,hI⟩
 ·show (ph w g (ofs+(i.toNat*k+off)) d).heap[b]? =some o
  rw[q5 b fun e=>by grind]
  exact hi b o hbo
 ·have hsp: ∀j,(spl (cur.toList.drop ofs) (i.toNat*k+off) d)[j]? =if i.toNat*k+off<=j/\j<i.toNat*k+off+d.length then d[j - (i.toNat*k+off)]? else (cur.toList.drop ofs)[j]? :=fun j=>NK (by omega)
  rw[Km (by omega)]
  refine OwnEls.set (w:=w) hR hc hrd (cur:=cur.toList.drop ofs) k5 hlt (by rw[xg]) (fun j hj=>?_) (fun j hj=>?_)
  ·rw[hk] at hj⊢
   rw[hsp,NK (by omega)]
   by_cases h:off<=j/\j<off+d.length
   ·rw[if_pos h,if_pos (by omega)];congr 1;omega
   grind
  grind
def mkI {α:Type} (b:Nat) (n:Int) (z:α):Option (List α):=if 0<=n/\n.toNat*b<=140737488355328 then some (List.replicate n.toNat z) else none
theorem Wt {α:Type} {E T:TypeId} {R:Rep α} {z:Value} {n b:Nat} {x y:Operand} {s u:Value} {xs ys zs:List α} (h:cM b xs ys=some zs) (hT:P.underlying T=some (.slice E)) (hE:TZ P E z n b) (hzs:z.cells.size=n) (hn:0<n) (hR:R.size=n) (hb1:1<=b) (ho:o.op= .call { callee:=.builtin .append,args:= #[x,y],argTypes:= #[T,T] }) (hx:ev x=s) (hy:ev y=u) :
  OpT P I w0 o ev [Ch.own (af E R) [s] xs,Ch.own (af E R) [u] ys] (fun _=>True) (fun v=>[Ch.own (af E R) [v] zs]):=by
 obtain ⟨rfl,hb⟩:=vI h
 grind[LU]
theorem uP {α:Type} {E T E':TypeId} {R S:Rep α} {z:Value} {n b:Nat} {x y:Operand} {s u:Value} {xs ys zs:List α} (h:cM b xs ys=some zs) (hc:Cpy S R) (hSz:S.size=n) (hr:(af E' S).rd I [u] ys) (hT:P.underlying T=some (.slice E)) (hE:TZ P E z n b) (hzs:z.cells.size=n) (hn:0<n) (hR:R.size=n) (hb1:1<=b) (ho:o.op= .call { callee:=.builtin .append,args:= #[x,y],argTypes:= #[T,T] }) (hx:ev x=s) (hy:ev y=u) :
  OpT P I w0 o ev [Ch.own (af E R) [s] xs] (fun _=>True) (fun v=>[Ch.own (af E R) [v] zs]):=by
 obtain ⟨rfl,hb⟩:=vI h
 grind[Cn]
theorem Gf {α:Type} {E T:TypeId} {R:Rep α} {z:Value} {n b:Nat} {x y:Operand} {s u:Value} {xs ys zs:List α} (h:cM b xs ys=some zs) (hSh:R.Sh) (hc:Cpy R R) (hT:P.underlying T=some (.slice E)) (hE:TZ P E z n b) (hzs:z.cells.size=n) (hn:0<n) (hR:R.size=n) (hb1:1<=b) (ho:o.op= .call { callee:=.builtin .append,args:= #[x,y],argTypes:= #[T,T] }) (hx:ev x=s) (hy:ev y=u) :
  OpT P I w0 o ev [Ch.own (af E R) [s] xs,Ch.own (af E R) [u] ys] (fun _=>True) (fun v=>[Ch.own (af E R) [v] zs,Ch.own (af E R) [u] ys]):=by
 obtain ⟨rfl,hb⟩:=vI h
 grind[Al]
theorem Iu {v:Value} (h:abb v):v= .pointer (some ⟨bk v,0,none⟩):=by obtain ⟨g,rfl⟩:=h;rfl
theorem OpT.hdk {rn:List Ch} {fact:Value->Prop} {gv:Value->List Ch} {α:Type} {E:TypeId} {R:Rep α} {xs:List α} (u:Value->Value) (k:Nat) (hk: ∀v,(gv v)[k]? =some (Ch.own (af E R) [u v] xs)) (h:OpT P I w0 o ev rn fact gv):OpT P I w0 o ev rn (fun v=>fact v/\Hd (u v) xs.length) gv:=by
 intro w C hs
 refine (h w C hs).imp fun v w hv=>⟨⟨hv.1,?_⟩,hv.2⟩
 have hlt:=(List.getElem?_eq_some_iff.1 (hk v)).1
 exact (hv.2.hd k (by rw[List.getElem?_append_left hlt];exact hk v)).1
theorem LX {ops:Array Oper} {rest:List Oper} {g d:Nat} {want:Bool} (ha:Agr n a L) (hs:St I w0 w C) (hg:o.guard=some (g,want)) (hd:((ops[g]?).bind (·.dst))=some d) (hv:L.lookup d=some undef) (hn:dstOk n o.dst=true)
  (k: ∀a,Agr n a (RA o.dst undef L)->wpList P ops Q rest a w):wpList P ops Q (o::rest) a w:=by
 refine wpList_skip ?_ (k _ (ha.put undef hn))
 have h:=ha.2.2 d _ hv
 unfold Region.wanted yielded
 rw[hg];simp only
 rw[hd];simp only[aa]
 rw[Array.getD_eq_getD_getElem?] at h
 cases ht:a.tmps[d]? with
 | none=>rfl
 | some u =>
  rw[ht] at h
  simp[Option.getD_some] at h
  rw[h];rfl
theorem Wu {x y:Operand} {t u:TypeId} {a b:ByteArray} (ho:o.op= .binOp .eql t x y u) (hx:ev x= .string a) (hy:ev y= .string b):OpT P I w0 o ev [] (· = .bool (a==b)) (fun _=>[]):=
 bd fun w=>by rw[beq_toListBytes];simp[execOp,ho,hx,hy];rfl
theorem Wv {x y:Operand} {t u:TypeId} {a b:ByteArray} (ho:o.op= .binOp .neq t x y u) (hx:ev x= .string a) (hy:ev y= .string b):OpT P I w0 o ev [] (· = .bool (a !=b)) (fun _=>[]):=
 bd fun w=>by unfold bne;rw[beq_toListBytes];simp[execOp,ho,hx,hy];rfl
def EqT (P:Program) (t:TypeId) (x y:Value) (b:Bool) (w:World):Prop:=(Op.equal t x y).run P w= .ok b w/\(eqGuard .eql t (.const x) (.const y) x y).run P w= .ok () w/\(eqGuard .neq t (.const x) (.const y) x y).run P w= .ok () w
theorem Ww {x y:Operand} {t u:TypeId} {va vb:Array Value} {b:Bool} (h: ∀w,EqT P t (.agg va) (.agg vb) b w) (ho:o.op= .binOp .eql t x y u) (hx:ev x= .agg va) (hy:ev y= .agg vb) {c:Bool} (hc:b=c):OpT P I w0 o ev [] (· = .bool c) (fun _=>[]):=
 bd fun w=>by
  have ⟨h1,h2,h3⟩:=h w
  have g2:binOp .eql t (.agg va) (.agg vb)=(do pure (.bool (<-Op.equal t (.agg va) (.agg vb)))):=rfl
  simp_all[eqGuard,execOp,Sem.run_bind,Sem.run_pure,Result.andThen_ok]
theorem Wx {x y:Operand} {t u:TypeId} {va vb:Array Value} {b:Bool} (h: ∀w,EqT P t (.agg va) (.agg vb) b w) (ho:o.op= .binOp .neq t x y u) (hx:ev x= .agg va) (hy:ev y= .agg vb) {c:Bool} (hc:(!b)=c):OpT P I w0 o ev [] (· = .bool c) (fun _=>[]):=
 bd fun w=>by
  have ⟨h1,h2,h3⟩:=h w
  have g2:binOp .neq t (.agg va) (.agg vb)=(do pure (.bool (!(<-Op.equal t (.agg va) (.agg vb))))):=rfl
  simp_all[eqGuard,execOp,Sem.run_bind,Sem.run_pure,Result.andThen_ok]
theorem Wy {d:Nat} {xs ys:Array Value} (w:World):(Op.eqFields d xs ys []).run P w= .ok true w:=rfl
theorem zN {d:Nat} {xs ys:Array Value} {f:Field} {fs:List Field} {va vb:Value} {r r2:Bool} {w:World} (hn:(f.name != "_")=true) (ha:(part f.type xs f.offset).run P w= .ok va w) (hb:(part f.type ys f.offset).run P w= .ok vb w) (he:(Op.equalIn d f.type va vb).run P w= .ok r w) (h2:(Op.eqFields d xs ys fs).run P w= .ok r2 w):(Op.eqFields d xs ys (f::fs)).run P w= .ok (r&&r2) w:=by
 rw[Op.eqFields,if_pos (by grind)]
 simp[Sem.run_bind,ha,hb,he,Result.andThen_ok]
 cases r
 ·rfl
 grind
theorem yq {T:TypeId} {cs:Array Value} {off:Nat} {v:Value} {w:World} (hT:TI P T false 1) (h:cs[off]? =some v):(part T cs off).run P w= .ok v w:=by
 unfold part
 rw[Sem.run_bind,hT.run_agg]
 simp_all
theorem Y5 {t:TypeId} {fs:Array Field} {xs ys:Array Value} {b:Bool} (w:World) (ht:P.underlying t=some (.struct fs)) (hp:P.stoodInHeld t=false) (hm:P.eqGuardType P.depth t=false) (h:(Op.eqFields 9999 xs ys fs.toList).run P w= .ok b w):EqT P t (.agg xs) (.agg ys) b w:=by
 have hf:P.fieldsOf t=fs:=by unfold Program.fieldsOf;rw[ht]
 refine ⟨?_,run_eqGuard_agg w _ _ _ _ _ _ hm,run_eqGuard_agg w _ _ _ _ _ _ hm⟩
 grind[Op.equal,Op.maxDepth,run_equalIn_agg]
end
end D
namespace D
open Go.RowKit
section
variable {P:Program} {I J:Hp} {w0 w w':World} {cs C:List Ch} {n:Nat} {a:Act} {L L':List (Nat×Value)} {o:Oper} {ev:Operand->Value}
end
end D
namespace D
open Go.RowKit
def Bun (I:Hp) (ls:List Ch) {α:Type} (R:Rep α) (cs:List Value) (x:α):Prop:= ∀w F,Sep I ls w F->R.own I w cs x F
section
variable {P:Program} {I J:Hp} {w0 w w':World} {cs C:List Ch} {n:Nat} {a:Act} {L L':List (Nat×Value)} {o:Oper} {ev:Operand->Value}
theorem NL {α:Type} {R:Rep α} {c:List Value} {x:α} :Bun I [Ch.own R c x] R c x:=by
 rintro w F ⟨G,K,rfl,h1,rfl⟩
 rw[List.append_nil];exact h1
theorem Wz {α:Type} {E:TypeId} {R:Rep α} :Bun I [] (af E R) [.slice none 0 0] []:=fun w F h=>⟨Nat.zero_le _,.inl ⟨rfl,rfl,h⟩⟩
theorem Y6 {α:Type} {R:Rep α} {c:List Value} {x:α} (h:R.rd I c x):Bun I [] (tm R) c x:=fun w F k=>⟨k,h⟩
theorem RP {α β:Type} {R:Rep α} {S:Rep β} {l m:List Ch} {c d:List Value} {x:α} {y:β} (h:Bun I l R c x) (k:Bun I m S d y):Bun I (l++m) (aD R S) (c++d) (x,y):=by
 intro w F hs
 obtain ⟨G,K,rfl,h1,h2⟩:=hs.split
 exact ⟨c,d,G,K,rfl,rfl,h w G h1,k w K h2⟩
def rX (I:Hp) (l m:List Ch):Prop:= ∀w F,Sep I l w F->Sep I m w F
theorem vK:rX I [] []:=fun _ _ h=>h
theorem rY {α:Type} {R:Rep α} {l m m':List Ch} {c:List Value} {x:α} (h:Bun I l R c x) (k:rX I m m'):rX I (l++m) (Ch.own R c x::m'):=by
 intro w F hs
 obtain ⟨G,K,rfl,h1,h2⟩:=hs.split
 exact ⟨G,K,rfl,h w G h1,k w K h2⟩
theorem OpT.pre {l0 ls ls':List Ch} {fact:Value->Prop} {gv:Value->List Ch} (k:rX I l0 ls') (e:l0=ls) (h:OpT P I w0 o ev ls' fact gv):OpT P I w0 o ev ls fact gv:=by
 subst e
 intro w C hs
 refine h w C ?_
 have ⟨h1,h2,F,h3,h4,h5⟩:=hs
 obtain ⟨G,K,rfl,e1,e2⟩:=h3.split
 exact ⟨h1,h2,G++K,(k w G e1).append e2,h4,h5⟩
def UpdO {α β:Type} (R:Rep α) (off:Nat) (S:Rep β) (u:α->β->α):Prop:= ∀I w c x G d y K,R.own I w c x G->S.own I w d y K-> ∃G' D,R.own I w (spl c off d) (u x y) G'/\(G'++D).Perm (G++K)
theorem UpdO.self {α:Type} {R:Rep α} :UpdO R 0 R (fun _ y=>y):=by
 intro I w c x G d y K h k
 rw[C3 _ _ _ (by rw[R.own_len h,R.own_len k];omega),R.own_len k,<-R.own_len h]
 grind[List.perm_append_comm]
theorem UpdO.fst {α β γ:Type} {A:Rep α} {B:Rep β} {S:Rep γ} {off:Nat} {u:α->γ->α} (hs:off+S.size<=A.size) (h:UpdO A off S u):UpdO (aD A B) off S (fun x y=>(u x.1 y,x.2)):=by
 rintro I w c x F d y K ⟨c1,c2,G1,G2,rfl,rfl,h1,h2⟩ k
 rw[vJ _ _ _ _ (by rw[A.own_len h1,S.own_len k];exact hs)]
 have ⟨G',D,e1,e2⟩:=h I w c1 x.1 G1 d y K h1 k
 refine ⟨G'++G2,D,⟨_,c2,G',G2,rfl,rfl,e1,h2⟩,?_⟩
 grind[aA,List.Perm.append_left,List.perm_append_comm,trans]
theorem UpdO.snd {α β γ:Type} {A:Rep α} {B:Rep β} {S:Rep γ} {off:Nat} {u:β->γ->β} (h:UpdO B off S u):UpdO (aD A B) (A.size+off) S (fun x y=>(x.1,u x.2 y)):=by
 rintro I w c x F d y K ⟨c1,c2,G1,G2,rfl,rfl,h1,h2⟩ k
 rw[<-A.own_len h1,pK]
 have ⟨G',D,e1,e2⟩:=h I w c2 x.2 G2 d y K h2 k
 refine ⟨G1++G',D,⟨c1,_,G1,G',rfl,rfl,h1,e1⟩,?_⟩
 grind
theorem OwnEls.setO {α β:Type} {R:Rep α} {S:Rep β} {off:Nat} {f:α->β->α} (hU:UpdO R off S f) {d:List Value} {y:β} {Kd:List Nat} (hd:S.own I w d y Kd) (hoff:off+S.size<=R.size) :
  ∀ {xs:List α} {cur:List Value} {F:List Nat} {k:Nat} {x:α},OwnEls R I w cur xs F->xs[k]? =some x-> ∃F' D,OwnEls R I w (spl cur (k*R.size+off) d) (xs.set k (f x y)) F'/\(F'++D).Perm (F++Kd)
 | [],_,_,k,_,_,hk=>by grind
 | z::xs,cur,F,0,x,⟨c,rest,G,K,h1,h2,h3,h4,h5⟩,hk=>by
  simp at hk;subst hk;subst h1;have ⟨G',D,e1,e2⟩:=hU I w c z G d y Kd h4 hd
  rw[Nat.zero_mul,Nat.zero_add,vJ _ _ _ _ (by rw[h2,S.own_len hd];omega)]
  refine ⟨G'++K,D,⟨_,rest,G',K,rfl,by rw[xg];exact h2,rfl,e1,h5⟩,?_⟩
  grind[aA,List.Perm.append_left,List.perm_append_comm,trans]
 | z::xs,cur,F,k+1,x,⟨c,rest,G,K,h1,h2,h3,h4,h5⟩,hk=>by
  subst h1;obtain ⟨F',D,e1,e2⟩:=OwnEls.setO hU hd hoff h5 (k:=k) (by simpa using hk)
  have e:(k+1)*R.size+off=c.length+(k*R.size+off):=by rw[h2,Nat.add_mul,Nat.one_mul];omega
  rw[e,pK]
  refine ⟨G++F',D,⟨c,_,G,F',rfl,h2,rfl,h4,e1⟩,?_⟩
  grind
theorem vL {α β:Type} {E T:TypeId} {R:Rep α} {S:Rep β} {ls:List Ch} {agg:Bool} {n k off:Nat} {f:α->β->α} {x y:Operand} {v u:Value} {xs:List α} {a:α} {b:β} {i:Int} {d:List Value} (hB:Bun I ls S d b) (ha:aG xs i=some a) (hU:UpdO R off S f) (hT:TI P T agg n) (ho:o.op= .store T x y) (hx:ev x=pt v (i.toNat*k+off)) (hy:ev y=u) (hu:u.cells=d.toArray) (h1:d.all (·.oneCell')=true) (hd:d.length=n) (hSn:S.size=n) (hk:R.size=k) (hS:off+n<=k) :
  OpT P I w0 o ev (Ch.own (af E R) [v] xs::ls) (fun _=>True) (fun _=>[Ch.own (af E R) [v] (xs.set i.toNat (f a b))]):=by
 intro w C hs
 have hm:=pg ha
 have hlt:=(List.getElem?_eq_some_iff.1 hm).1
 obtain ⟨hb0,hi,F,⟨G,K,rfl,⟨hl,e2⟩,e3⟩,hnd,hI⟩:=hs
 obtain ⟨Kd,KC,rfl,e4,e5⟩:=Sep.split e3
 rcases e2 with ⟨hv,rfl,rfl⟩ | ⟨g,ofs,cap,cur,K1,hv,k1,k2,k3,k4,rfl,k5⟩
 ·grind
 obtain rfl:v= .slice (some ⟨g,ofs,none⟩) xs.length cap:=by grind
 have hfit:ofs+(i.toNat*k+k)<=cur.size:=by
  have k4':=k4
  rw[hk] at k4'
  have:(i.toNat+1)*k<=cap*k:=Nat.mul_le_mul_right _ (by omega)
  rw[Nat.add_mul,Nat.one_mul] at this;omega
 have hln:cur.toList.length=cur.size:=Array.length_toList
 have hr:=Ki (P:=P) (w:=w) hT (g:=g) (o:=ofs+(i.toNat*k+off)) hu hd (fun j hj=>by
  simp[World.cell?,k1,Option.isSome_none,Bool.false_eq_true,ite_false]
  grind) (fun j=>by simp[World.frozen?,k1]) (fun v hv=>List.all_eq_true.1 h1 v hv)
 simp only[execOp,ho,hx,hy,pt,ptB,ptO,Sem.run_bind,hr,Result.andThen_ok]
 refine ⟨trivial,?_⟩
 have hch: ∀(d:List Value) (o:Nat) (w:World),(ph w g o d).os=w.os/\(ph w g o d).tape=w.tape/\(ph w g o d).output=w.output/\(ph w g o d).heap.size=w.heap.size/\ ∀b,b≠g->(ph w g o d).heap[b]? =w.heap[b]? :=by
  intro d
  induction d with
  | nil=>intro o w;exact ⟨rfl,rfl,rfl,rfl,fun _ _=>rfl⟩
  | cons v d ih =>
   intro o w
   have ⟨i1,i2,i3,i4,i5⟩:=ih (o+1) (w.setCell ⟨g,o,none⟩ v)
   exact ⟨i1,i2,i3,i4.trans (by simp_all),fun b hb=>(i5 b hb).trans (Below.heap_setCell _ _ _ _ hb)⟩
 have hrow: ∀(d:List Value) (o:Nat) (w:World) (cur:Array Value),w.heap[g]? =some (.cells cur E (0,0))->(ph w g o d).heap[g]? =some (.cells (spl cur.toList o d).toArray E (0,0)):=by
  intro d
  induction d with
  | nil=>simp_all[ph,spl]
  | cons v d ih =>
   intro o w cur h
   have:=ih (o+1) (w.setCell ⟨g,o,none⟩ v) (cur.setIfInBounds o v) (fw h)
   rw[Array.toList_setIfInBounds] at this
   exact this
 have ⟨q1,q2,q3,q4,q5⟩:=hch d (ofs+(i.toNat*k+off)) w
 have ⟨F',D,z1,z2⟩:=OwnEls.setO hU (hB w Kd e4) (by omega) k5 hm
 have hperm:((g::F'++KC)++D).Perm ((g::K1)++(Kd++KC)):=by
  have p1:((F'++KC)++D).Perm ((F'++D)++KC):=by
   rw[aA,aA];exact List.Perm.append_left _ List.perm_append_comm
  have p2:=p1.trans (z2.append_right KC)
  simpa using p2
 have hnd':=(hperm.nodup_iff).2 hnd
 have hmem: ∀b,b∈g::F'++KC->b∈(g::K1)++(Kd++KC):=fun b hb=>hperm.mem_iff.1 (aZ _ hb)
 have hnd2:=(List.nodup_append.1 hnd').1
 have hgF:=(List.nodup_cons.1 (show (g::(F'++KC)).Nodup from hnd2)).1
 refine ⟨⟨q1.trans hb0.1,q2.trans hb0.2.1,q3.trans hb0.2.2.1,by omega⟩,fun b o hbo=>?_,(g::F')++KC,⟨g::F',KC,rfl,⟨by grind,.inr ⟨g,ofs,cap,_,F',by grind,hrow d _ w cur k1,by grind,k3,by grind[List.size_toArray,xg],rfl,?_⟩⟩,e5.stay fun b hb=>q5 b fun e=>hgF (bc _ (e ▸ hb))⟩,hnd2,fun b hb=>hI b (hmem b hb)⟩
 ·show (ph w g (ofs+(i.toNat*k+off)) d).heap[b]? =some o
  rw[q5 b fun e=>by grind]
  exact hi b o hbo
 ·rw[hk] at z1
  rw[Km (by omega)]
  exact OwnEls.stay z1 fun b hb=>q5 b fun e=>hgF (aZ _ (e ▸ hb))
def Zro {α:Type} (R:Rep α) (cs:List Value) (z:α):Prop:= ∀(I:Hp) (w:World),R.own I w cs z []
theorem zO {α:Type} {enc:α->Value} {h1: ∀a,(enc a).oneCell'=true} {x:α} :Zro (lr α enc h1) [enc x] x:=fun I w=>⟨rfl,rfl⟩
theorem WA {α:Type} {E:TypeId} {R:Rep α} :Zro (af E R) [.slice none 0 0] []:=fun I w=>⟨Nat.zero_le _,.inl ⟨rfl,rfl,rfl⟩⟩
theorem RQ {α β:Type} {R:Rep α} {S:Rep β} {c d:List Value} {x:α} {y:β} (h:Zro R c x) (k:Zro S d y):Zro (aD R S) (c++d) (x,y):=fun I w=>⟨c,d,[],[],rfl,rfl,h I w,k I w⟩
theorem WB {α:Type} {R:Rep α} {c:List Value} {x:α} (h: ∀I,R.rd I c x):Zro (tm R) c x:=fun I w=>⟨rfl,h I⟩
theorem Y7 {α:Type} {E T:TypeId} {R:Rep α} {zv:Value} {n b:Nat} {x y:Operand} {l:Int} {z:α} {xs:List α} (hz:Zro R zv.cells.toList z) (hT:P.underlying T=some (.slice E)) (hE:TZ P E zv n b) (ho:o.op= .makeSlice T x y) (hR:R.size=n) (hn:0<n) (hb:1<=b) (hx:ev x= .int .i64 l) (hy:ev y= .int .i64 l) (h:mkI b l z=some xs):OpT P I w0 o ev [] (fun _=>True) (fun v=>[Ch.own (af E R) [v] xs]):=by
 intro w C hs
 unfold mkI at h
 split at h
 ·rename_i hl
  have ⟨i,hi,hz1,hsz,hby⟩:=info_parts hE
  have hzl:zv.cells.size=n:=by have:=R.own_len (hz I w);rw[Array.length_toList,hR] at this;exact this
  have hle:=Nat.le_trans (Nat.le_mul_of_pos_right _ hb) hl.2
  have hr:=run_make (P:=P) w T E i zv hT hi hz1 .i64 .i64 l l hl.1 (Int.le_refl _) (by grind) (by omega)
  rw[hsz] at hr
  simp only[execOp,ho,hx,hy,Sem.run_bind,hr,Result.andThen_ok]
  refine ⟨trivial,?_⟩
  have hs1:=hs.alloc (madeCells zv.cells (l.toNat*n)).toList E
  obtain ⟨hb0,hi0,F,⟨G,K,rfl,⟨rfl,hg⟩,hr2⟩,n1,n2⟩:=hs1
  refine ⟨hb0,hi0,[w.heap.size] ++K,⟨[w.heap.size],K,rfl,⟨by grind[List.length_replicate,lim],.inr ⟨w.heap.size,0,l.toNat,_,[],by grind,hg,by grind,by unfold maxLen;omega,by grind[madeCells],rfl,?_⟩⟩,hr2⟩,n1,n2⟩
  have key: ∀(W:World) (m:Nat),OwnEls R I W (madeCells zv.cells (m*n)).toList (List.replicate m z) []:=by
   intro W m
   induction m with
   | zero=>rfl
   | succ m ih =>
    refine ⟨zv.cells.toList,(madeCells zv.cells (m*n)).toList,[],[],?_,by grind,rfl,hz I W,ih⟩
    apply List.ext_getElem?
    intro j
    by_cases hj:j<n
    ·grind[madeCells,Nat.mod_eq_of_lt]
    ·rw[List.getElem?_append_right (by grind),Array.length_toList,hzl]
     by_cases h1:j<(m+1)*n
     ·have h2:j - n<m*n:=by rw[Nat.add_mul,Nat.one_mul] at h1;omega
      simp[madeCells,h1,h2,hzl,Array.getElem?_range]
      conv=>lhs;rw[show j=(j - n)+n from by omega,Nat.add_mod_right]
     ·have h2: ¬j - n<m*n:=by rw[Nat.add_mul,Nat.one_mul] at h1;omega
      simp[madeCells,h1,h2]
  grind
 grind
end
end D
namespace D
open Go.RowKit
section
variable {P:Program} {I J:Hp} {w0 w w':World} {cs C:List Ch} {n:Nat} {a:Act} {L L':List (Nat×Value)} {o:Oper} {ev:Operand->Value}
theorem OwnEls.cut2 {α:Type} {R:Rep α} : ∀ {ys zs:List α} {cur:List Value} {F:List Nat},OwnEls R I w cur (ys++zs) F-> ∃c1 c2 K1 K2,cur=c1++c2/\c1.length=ys.length*R.size/\F=K1++K2/\OwnEls R I w c1 ys K1/\OwnEls R I w c2 zs K2
 | [],zs,cur,F,h=>⟨[],cur,[],F,rfl,by simp,rfl,rfl,h⟩
 | y::ys,zs,cur,F,⟨c,rest,G,K,h1,h2,h3,h4,h5⟩=>by
  obtain ⟨c1,c2,K1,K2,rfl,e2,rfl,e4,e5⟩:=OwnEls.cut2 (ys:=ys) h5
  exact ⟨c++c1,c2,G++K1,K2,by rw[h1,aA],by rw[aC,h2,e2,aK,Nat.add_mul,Nat.one_mul,Nat.add_comm],by rw[h3,aA],⟨c,c1,G,K1,rfl,h2,rfl,h4,e4⟩,e5⟩
theorem OwnEls.glue {α:Type} {R:Rep α} : ∀ {ys zs:List α} {c1 c2:List Value} {K1 K2:List Nat},c1.length=ys.length*R.size->OwnEls R I w c1 ys K1->OwnEls R I w c2 zs K2->OwnEls R I w (c1++c2) (ys++zs) (K1++K2)
 | [],zs,c1,c2,K1,K2,hl,h1,h2=>by
  rw[bf,Nat.zero_mul,List.length_eq_zero_iff] at hl
  rw[hl,show K1= [] from h1];exact h2
 | y::ys,zs,cur,c2,F,K2,hl,⟨c,rest,G,K,h1,h2,h3,h4,h5⟩,h=>by
  subst h1;subst h3
  rw[aC,h2,aK,Nat.add_mul,Nat.one_mul] at hl
  exact ⟨c,rest++c2,G,K++K2,by rw[aA],h2,by rw[aA],h4,h5.glue (by omega) h⟩
end
end D
namespace D
open Go.RowKit
def Reads {κ ε:Type} [DecidableEq κ] (lit:κ->Lit) (ok:κ->Bool) (elit:ε->Lit) (z:ε) (D:DataW Unit) (M:List (κ×ε)):Prop:=
 Maps.IsMap D/\ ∀x,ok x=true->Maps.has D (lit x)=(M.lookup x).isSome/\D.atKey (lit x) (.lit (elit z))= .lit (elit ((M.lookup x).getD z))
def lkM {κ ε:Type} [DecidableEq κ] (M:List (κ×ε)) (x:κ):Option ε:=M.lookup x
structure KeyOk (P:Program) (k:TypeId) {κ:Type} [DecidableEq κ] (val:κ->Value) (lit:κ->Lit) (ok:κ->Bool):Prop where
 keyed:Maps.Keyed P k
 inj: ∀x y,val x=val y->x=y
 key: ∀x,ok x=true->keyOf P k (val x)=some (lit x)
theorem KeyOk.linj {P:Program} {k:TypeId} {κ:Type} [DecidableEq κ] {val:κ->Value} {lit:κ->Lit} {ok:κ->Bool} (K:KeyOk P k val lit ok) {x y:κ} (hx:ok x=true) (hy:ok y=true) (h:lit x=lit y):x=y:=
 K.inj _ _ (K.keyed.inj (K.key x hx) (by rw[h];exact K.key y hy))
theorem KeyOk.isKey {P:Program} {k:TypeId} {κ:Type} [DecidableEq κ] {val:κ->Value} {lit:κ->Lit} {ok:κ->Bool} (K:KeyOk P k val lit ok) {x:κ} (hx:ok x=true):WideAt.IsKeyLit (lit x):=K.keyed.key (K.key x hx)
structure EltOk (P:Program) (e:TypeId) {ε:Type} (enc:ε->Value) (elit:ε->Lit) (eok:ε->Bool) (z:ε):Prop where
 plain: ∀i,eok i=true->plainElem (H:=Unit) P e (enc i)=some (.lit (elit i),[])
 inv: ∀v y ps,plainElem (H:=Unit) P e v=some (.lit (elit y),ps)->v=enc y
 zero: ∀w,(zeroValue e).run P w= .ok (enc z) w
 zok:eok z=true
def Ch.mp (P:Program) (k e:TypeId) {κ ε:Type} [DecidableEq κ] (lit:κ->Lit) (ok:κ->Bool) (elit:ε->Lit) (z:ε) (v:Value) (M:List (κ×ε)):Ch where
 holds I w F:= ∃b,v= .map (some b)/\F= [b] /\ ∃n D,w.ownsMap P k (plainElem P e) b n D/\n<=M.length/\Reads lit ok elit z D M
 mono h _:=h
 stay:=by
  rintro I w w' F ⟨b,rfl,rfl,n,D,⟨es,clock,hb,h⟩,h2⟩ hw
  exact ⟨b,rfl,rfl,n,D,⟨es,clock,by rw[hw b (by simp)];exact hb,h⟩,h2⟩
 live:=by
  rintro I w F ⟨b,rfl,rfl,n,D,h,h2⟩ b' hb
  simp at hb;subst hb;exact h.lt
def WC (n:Int):Lit:=.int .i64 n
def iOk (n:Int):Bool:=(Lit.int .i64 n).wf
def acZ (b:Bool):Lit:=.bool b
def bOk (b:Bool):Bool:=true
theorem Y8 {P:Program} {k:TypeId} (h:P.underlying k=some (.int .i64)):KeyOk P k (fun n:Int=>Value.int .i64 n) WC iOk:=⟨Maps.int_keyed h,fun x y h=>by simpa using h,fun x hx=>Maps.keyOf_int_mk h hx⟩
theorem Y9 {P:Program} {e:TypeId} (h:P.underlying e=some (.int .i64)) (hz: ∀w,(zeroValue e).run P w= .ok (.int .i64 0) w):EltOk P e (fun n:Int=>Value.int .i64 n) WC iOk 0:=
 ⟨fun i hi=>plainElem_int h hi,fun v y ps hp=>by
  obtain ⟨a,rfl,e,-⟩:=plainElem_int_inv h hp
  have:y=a:=by simpa [WC] using congrArg Prod.fst e
  rw[this],hz,by decide⟩
def abc (x:Int×Int):Lit:=.string (keyBytes [.int .i64 x.1,.int .i64 x.2])
def ac0 (x:Int×Int):Bool:=(Lit.int .i64 x.1).wf&&(Lit.int .i64 x.2).wf
section
variable {P:Program} {I J:Hp} {w0 w w':World} {cs C:List Ch} {n:Nat} {a:Act} {L L':List (Nat×Value)} {o:Oper} {ev:Operand->Value}
variable {κ ε:Type} [DecidableEq κ] {lit:κ->Lit} {val:κ->Value} {ok:κ->Bool} {enc:ε->Value} {elit:ε->Lit} {eok:ε->Bool} {z:ε}
theorem NM:Reads lit ok elit z (.map []) ([] :List (κ×ε)):=⟨Maps.isMap_empty,fun x _=>⟨rfl,rfl⟩⟩
theorem Reads.put {k:TypeId} (K:KeyOk P k val lit ok) {D:DataW Unit} {M:List (κ×ε)} (h:Reads lit ok elit z D M) (x:κ) (hx:ok x=true) (i:ε):Reads lit ok elit z (D.put (lit x) (.lit (elit i))) ((x,i)::M):=by
 refine ⟨h.1.put _ _,fun y hy=>?_⟩
 by_cases e:y=x
 ·subst e
  rw[List.lookup_cons_self]
  exact ⟨Maps.has_put_same h.1 (K.isKey hy) _,Maps.atKey_put_same h.1 (K.isKey hy) _ _⟩
 ·have hne:lit y≠lit x:=fun h=>e (K.linj hy hx h)
  rw[List.lookup_cons,show (y==x)=false from by simp[e]]
  exact ⟨by rw[Maps.has_put_other hne];exact (h.2 y hy).1,by rw[Maps.atKey_put_other hne];exact (h.2 y hy).2⟩
theorem Iv {t k e:TypeId} (ho:o.op= .makeMap t none):OpT P I w0 o ev [] (fun _=>True) (fun v=>[Ch.mp P k e lit ok elit z v []]):=by
 intro w C hs
 have hr:(execOp ev o).run P w= .ok (.value (.map (some w.heap.size))) (w.alloc (.map #[] 0)):=by
  simp only[execOp,ho];rfl
 rw[hr]
 refine ⟨trivial,?_⟩
 refine St.step (w:=w) (c:=[]) (c':=[Ch.mp P k e lit ok elit z (.map (some w.heap.size)) []]) (w':=w.alloc (.map #[] 0)) hs rfl rfl rfl (by simp) ?_
 rintro F rfl - -
 refine ⟨fun b hb _=>?_,[w.heap.size],⟨[w.heap.size],[],rfl,⟨_,rfl,rfl,0,.map [],World.ownsMap_made _ _ _ _,aF _,NM⟩,rfl⟩,by simp,by simp⟩
 show (w.heap.push _)[b]? =_
 rw[Array.getElem?_push_lt hb,Array.getElem?_eq_getElem hb]
def RB (M:List (κ×ε)) (ok:κ->Bool) (eok:ε->Bool) (x:κ) (i:ε):Option (List (κ×ε)):=if M.length<9223372036854775807/\ok x=true/\eok i=true then some ((x,i)::M) else none
theorem LY {t k e:TypeId} {m x y:Operand} {v:Value} {q:κ} {i:ε} {M M':List (κ×ε)} (K:KeyOk P k val lit ok) (E:EltOk P e enc elit eok z) (ht:P.underlying t=some (.map k e))
  (ho:o.op= .mapUpdate t m x y\/o.op= .insert t m x y) (hm:ev m=v) (hx:ev x=val q) (hy:ev y=enc i) (h:RB M ok eok q i=some M') :
  OpT P I w0 o ev [Ch.mp P k e lit ok elit z v M] (fun _=>True) (fun _=>[Ch.mp P k e lit ok elit z v M']):=by
 unfold RB at h
 split at h
 case isFalse=>cases h
 rename_i hh
 obtain rfl:=ad h
 intro w C hs
 obtain ⟨h1,h2,F,⟨G,G',rfl,⟨b,rfl,rfl,n,D,hown,hn,hR⟩,e2⟩,h4,h5⟩:=hs
 obtain ⟨w',hrun,g1,g2⟩:=hown.update K.keyed ht (by unfold maxLen;omega) (K.key q hh.2.1) (E.plain i hh.2.2)
 have hb:b∉G':=by simpa using (List.nodup_cons.1 h4).1
 have hr:(execOp ev o).run P w= .ok .skip w':=by
  rcases ho with ho | ho
  ·simp only[execOp,ho,hm,hx,hy,Sem.run_bind,hrun,Result.andThen_ok];rfl
  ·simp only[execOp,ho,hm,hx,hy,Sem.run_bind,hrun,Result.andThen_ok];rfl
 rw[hr]
 refine ⟨trivial,⟨g2.os.trans h1.1,g2.tape.trans h1.2.1,g2.output.trans h1.2.2.1,Nat.le_trans h1.2.2.2 g2.size⟩,fun c o hc=>?_,[b] ++G',⟨[b],G',rfl,⟨b,rfl,rfl,n+1,_,g1,by simpa using hn,hR.put K q hh.2.1 i⟩,e2.stay fun c hc=>?_⟩,h4,h5⟩
 ·have hne:c≠b:=fun e=>by rw[e,h5 b (by simp)] at hc;cases hc
  have:=h2 c o hc
  have hlt:c<w.heap.size:=(Array.getElem?_eq_some_iff.1 this).1
  show w'.heap[c]? =some o
  rw[g2.block c hlt (fun e=>hne (ad e))];exact this
 ·exact g2.block c (e2.live c hc) (fun e=>hb (ad e ▸ hc))
theorem RR {t k e:TypeId} {b n:Nat} {D:DataW Unit} {q:κ} {M:List (κ×ε)} (K:KeyOk P k val lit ok) (E:EltOk P e enc elit eok z) (ht:P.underlying t=some (.map k e)) (hq:ok q=true) (hown:w.ownsMap P k (plainElem P e) b n D) (hR:Reads lit ok elit z D M) :
  (Instr.lookup t (.map (some b)) (val q) true).run P w= .ok (.tuple #[enc ((M.lookup q).getD z),.bool (M.lookup q).isSome]) w:=by
 obtain ⟨u,ps,hrun,hu⟩:=hown.look_ok K.keyed ht (E.zero w) (E.plain z E.zok) (K.key q hq)
 obtain ⟨r1,r2⟩:=hR.2 q hq
 rw[r2] at hu
 obtain rfl:=E.inv _ _ _ hu
 rw[hrun,r1]
theorem Iw {t k e:TypeId} {m x:Operand} {v:Value} {q:κ} {M:List (κ×ε)} (K:KeyOk P k val lit ok) (E:EltOk P e enc elit eok z) (hq:ok q=true) (ht:P.underlying t=some (.map k e))
  (ho:o.op= .lookup t m x true) (hm:ev m=v) (hx:ev x=val q) :
  OpT P I w0 o ev [Ch.mp P k e lit ok elit z v M] (· = .tuple #[enc ((M.lookup q).getD z),.bool (M.lookup q).isSome]) (fun _=>[Ch.mp P k e lit ok elit z v M]):=by
 intro w C hs
 have hs':=hs
 obtain ⟨h1,h2,F,⟨G,G',rfl,⟨b,rfl,rfl,n,D,hown,hn,hR⟩,e2⟩,h4,h5⟩:=hs
 have hrun:=RR K E ht hq hown hR
 have hr:(execOp ev o).run P w= .ok (.value (.tuple #[enc ((M.lookup q).getD z),.bool (M.lookup q).isSome])) w:=by
  simp only[execOp,ho,hm,hx,Sem.run_bind,hrun,Result.andThen_ok];rfl
 rw[hr]
 exact ⟨rfl,hs'⟩
theorem Gg {t k e:TypeId} {m x:Operand} {v:Value} {q:κ} {M:List (κ×ε)} (K:KeyOk P k val lit ok) (E:EltOk P e enc elit eok z) (hq:ok q=true) (ht:P.underlying t=some (.map k e))
  (ho:o.op= .lookup t m x false) (hm:ev m=v) (hx:ev x=val q) :
  OpT P I w0 o ev [Ch.mp P k e lit ok elit z v M] (· =enc ((M.lookup q).getD z)) (fun _=>[Ch.mp P k e lit ok elit z v M]):=by
 intro w C hs
 have hs':=hs
 obtain ⟨h1,h2,F,⟨G,G',rfl,⟨b,rfl,rfl,n,D,hown,hn,hR⟩,e2⟩,h4,h5⟩:=hs
 obtain ⟨u,ps,hrun,hu⟩:=hown.lookup K.keyed ht (E.zero w) (E.plain z E.zok) (K.key q hq)
 obtain ⟨r1,r2⟩:=hR.2 q hq
 rw[r2] at hu
 obtain rfl:=E.inv _ _ _ hu
 have hr:(execOp ev o).run P w= .ok (.value (enc ((M.lookup q).getD z))) w:=by
  simp only[execOp,ho,hm,hx,Sem.run_bind,hrun,Result.andThen_ok];rfl
 rw[hr]
 exact ⟨rfl,hs'⟩
end
section
variable {P:Program} {I J:Hp} {w0 w w':World} {o:Oper} {ev:Operand->Value}
theorem WD {x y:Operand} {t u:TypeId} {m n:Int} (ho:o.op= .binOp .add t x y u) (hx:ev x= .int .u64 m) (hy:ev y= .int .u64 n):OpT P I w0 o ev [] (· = .int .u64 (IntKind.u64.wrap (m+n))) (fun _=>[]):=
 bd fun w=>by simp only[execOp,ho,hx,hy];rfl
theorem WE {x y:Operand} {t u:TypeId} {m n:Int} (ho:o.op= .binOp .sub t x y u) (hx:ev x= .int .u64 m) (hy:ev y= .int .u64 n):OpT P I w0 o ev [] (· = .int .u64 (IntKind.u64.wrap (m - n))) (fun _=>[]):=
 bd fun w=>by simp only[execOp,ho,hx,hy];rfl
theorem WG {x y:Operand} {t u:TypeId} {m n:Int} (ho:o.op= .binOp .mul t x y u) (hx:ev x= .int .u64 m) (hy:ev y= .int .u64 n):OpT P I w0 o ev [] (· = .int .u64 (IntKind.u64.wrap (m*n))) (fun _=>[]):=
 bd fun w=>by simp only[execOp,ho,hx,hy];rfl
def RC (m n:Int):Int:=bits .and .u64 m n
theorem WH {x y:Operand} {t u:TypeId} {m n:Int} (ho:o.op= .binOp .and t x y u) (hx:ev x= .int .u64 m) (hy:ev y= .int .u64 n):OpT P I w0 o ev [] (· = .int .u64 (RC m n)) (fun _=>[]):=
 bd fun w=>by simp only[execOp,ho,hx,hy];rfl
theorem WI {x y:Operand} {t u:TypeId} {m n:Int} (ho:o.op= .binOp .shr t x y u) (hx:ev x= .int .u64 m) (hy:ev y= .int .u64 n) (h0:0<=n):OpT P I w0 o ev [] (· = .int .u64 (oK m n)) (fun _=>[]):=
 bd fun w=>by simp[execOp,ho,hx,hy,eqGuard,binOp,Op.shift,show¬n<0 from by omega,Result.andThen,oK,IntKind.bits]
theorem Gh {x:Operand} {s d:TypeId} {k k':IntKind} {m:Int} (hs:P.underlying s=some (.int k)) (hd:P.underlying d=some (.int k')) (ho:o.op= .convert s d x) (hx:ev x= .int k m):OpT P I w0 o ev [] (· = .int k' (k'.wrap m)) (fun _=>[]):=
 bd fun w=>by simp[execOp,ho,hx,convert,Conv.intToInt,run_underlying hs,run_underlying hd,Result.andThen]
end
end D
namespace D
open Go.RowKit
def rf (v:Value) (l h s:Nat):Value:=match v with
 | .slice a _ c=>sliced a l h c s
 | _=>v
section
variable {P:Program} {I J:Hp} {w0 w w':World} {o:Oper} {ev:Operand->Value}
theorem TI.size {T:TypeId} {agg:Bool} {n:Nat} (h:TI P T agg n) (w:World):(sizeOf T).run P w= .ok n w:=by
 obtain ⟨-,h3⟩:=h
 cases hq:P.info? T with
 | none=>grind
 | some i=>simp_all[Program.cellsOf,sizeOf,typeInfo]
theorem uQ {t e:TypeId} {x y:Operand} {v:Value} {len n:Nat} {l:Int} {agg:Bool} (hT:P.underlying t=some (.slice e)) (hE:TI P e agg n) (hv:Hd v len) (ho:o.op= .slice t x (some y) none none) (hx:ev x=v) (hy:ev y= .int .i64 l) (h:0<=l/\l<=len) :
  OpT P I w0 o ev [] (· =rf v l.toNat len n) (fun _=>[]):=by
 obtain ⟨ao,cap,rfl,-⟩:=hv
 have he:P.elem t=e:=by simp[Program.elem,hT]
 have hT':P.underlying t=some (.slice (P.elem t)):=by rw[he];exact hT
 refine bd fun w=>?_
 have hs:=TI.size hE w
 rw[<-he] at hs
 simp[execOp,ho,hx,Option.map_some,Option.map_none,hy,Sem.run_bind,run_sliceAt_slice w t _ _ _ _ hT',run_slice_l w t ao len cap hT' .i64 l h.1 h.2,hs,Result.andThen_ok]
 rfl
theorem uR {t e:TypeId} {x y:Operand} {v:Value} {len n:Nat} {l:Int} {agg:Bool} (hT:P.underlying t=some (.slice e)) (hE:TI P e agg n) (hv:Hd v len) (ho:o.op= .slice t x none (some y) none) (hx:ev x=v) (hy:ev y= .int .i64 l) (h:0<=l/\l<=len) :
  OpT P I w0 o ev [] (· =rf v 0 l.toNat n) (fun _=>[]):=by
 obtain ⟨ao,cap,rfl,-,hc⟩:=hv
 have he:P.elem t=e:=by simp[Program.elem,hT]
 have hT':P.underlying t=some (.slice (P.elem t)):=by rw[he];exact hT
 refine bd fun w=>?_
 have hs:=TI.size hE w
 rw[<-he] at hs
 simp[execOp,ho,hx,Option.map_some,Option.map_none,hy,Sem.run_bind,run_sliceAt_slice w t _ _ _ _ hT',run_slice_h w t ao len cap hT' .i64 l h.1 (by omega),hs,Result.andThen_ok]
 rfl
theorem Gi {t e:TypeId} {x y z:Operand} {v:Value} {len n:Nat} {l h:Int} {agg:Bool} (hT:P.underlying t=some (.slice e)) (hE:TI P e agg n) (hv:Hd v len) (ho:o.op= .slice t x (some y) (some z) none) (hx:ev x=v) (hy:ev y= .int .i64 l) (hz:ev z= .int .i64 h) (hh:0<=l/\l<=h/\h<=len) :
  OpT P I w0 o ev [] (· =rf v l.toNat h.toNat n) (fun _=>[]):=by
 obtain ⟨ao,cap,rfl,-,hc⟩:=hv
 have he:P.elem t=e:=by simp[Program.elem,hT]
 have hT':P.underlying t=some (.slice (P.elem t)):=by rw[he];exact hT
 refine bd fun w=>?_
 have hs:=TI.size hE w
 rw[<-he] at hs
 simp[execOp,ho,hx,Option.map_some,Option.map_none,hy,hz,Sem.run_bind,run_sliceAt_slice w t _ _ _ _ hT',run_slice_lh w t ao len cap hT' .i64 .i64 l h hh.1 hh.2.1 (by omega),hs,Result.andThen_ok]
 rfl
theorem Kn {α:Type} {E:TypeId} {R:Rep α} {v:Value} {xs:List α} {l h n:Nat} (hr:(af E R).rd I [v] xs) (h1:l<=h) (h2:h<=xs.length) (hn:R.size=n):(af E R).rd I [rf v l h n] ((xs.take h).drop l):=by
 have ⟨ao,cap,hv,⟨hl1,hl2⟩,hx⟩:=hr
 obtain rfl:v= .slice ao xs.length cap:=by grind
 have hlen:((xs.take h).drop l).length=h - l:=by rw[bJ,aI];omega
 by_cases hz:h=l
 ·subst hz
  have hz:(xs.take h).drop h= []:=List.eq_nil_of_length_eq_zero (by omega)
  rw[hz]
  exact ⟨_,_,by simp only[rf,sliced];rw[Nat.sub_self];rfl,⟨Nat.zero_le _,Nat.zero_le _⟩,.inl rfl⟩
 ·rcases hx with rfl | ⟨b,off,ccs,t,fr,rfl,hI,hel⟩
  ·grind
  ·refine ⟨some ⟨b,off+l*n,none⟩,cap - l,?_,⟨by omega,by omega⟩,.inr ⟨b,off+l*n,ccs,t,fr,rfl,hI,fun i x hx=>?_⟩⟩
   ·grind[rf,sliced,Addr.add_mid]
   grind
theorem Ko {α:Type} {E:TypeId} {R:Rep α} {v:Value} {xs:List α} {l n:Nat} (hr:(af E R).rd I [v] xs) (h1:l<=xs.length) (hn:R.size=n):(af E R).rd I [rf v l xs.length n] (xs.drop l):=by
 have:=Kn hr h1 (aF _) hn
 grind
theorem RS {α:Type} {E:TypeId} {R:Rep α} {v:Value} {xs:List α} {h n:Nat} (hr:(af E R).rd I [v] xs) (h1:h<=xs.length) (hn:R.size=n):(af E R).rd I [rf v 0 h n] (xs.take h):=by
 have:=Kn hr (Nat.zero_le h) h1 hn
 grind
theorem jZ {α:Type} {enc:α->Value} {h1: ∀a,(enc a).oneCell'=true} : ∀ {xs:List α} {cur:List Value} {K:List Nat},OwnEls (lr α enc h1) I w cur xs K↔K= [] /\ ∃rest,cur=xs.map enc++rest
 | [],cur,K=>⟨fun h=>⟨h,cur,rfl⟩,fun h=>h.1⟩
 | x::xs,cur,K=>by
  constructor
  ·rintro ⟨c,rest,G,K',rfl,-,rfl,⟨rfl,rfl⟩,h5⟩
   obtain ⟨rfl,r,rfl⟩:=jZ.1 h5
   simp_all
  ·rintro ⟨rfl,r,rfl⟩
   exact ⟨[enc x],xs.map enc++r,[],[],rfl,rfl,rfl,⟨rfl,rfl⟩,jZ.2 ⟨rfl,r,rfl⟩⟩
def FZ {α:Type} (xs:List α) (lo:Nat) (ys:List α):List α:=xs.take lo++(ys.take (xs.length - lo)++xs.drop (lo+min ys.length (xs.length - lo)))
def Src (w:World) (u:Value) (cs:List Value):Prop:= ∃ao cap,u= .slice ao cs.length cap/\(cs= [] \/ ∃a,ao=some a/\ ∀j v,cs[j]? =some v->w.cell? (a.add j)=some v)
theorem Src.take {u:Value} {cs:List Value} (h:Src w u cs) (n:Nat):n<=cs.length-> ∃ao cap,u= .slice ao cs.length cap/\(cs.take n= [] \/ ∃a,ao=some a/\ ∀j v,(cs.take n)[j]? =some v->w.cell? (a.add j)=some v):=by
 have ⟨ao,cap,h1,h2⟩:=h
 grind
theorem Src.of_rd {α:Type} {E:TypeId} {enc:α->Value} {h1: ∀a,(enc a).oneCell'=true} {u:Value} {ys:List α} {cs0:List Ch} (hs:St I w0 w cs0) (h:(af E (lr α enc h1)).rd I [u] ys):Src w u (ys.map enc):=by
 obtain ⟨ao,cap,hu,-,h⟩:=h
 obtain rfl:u= .slice ao ys.length cap:=by grind
 refine ⟨ao,cap,by simp,?_⟩
 rcases h with rfl | ⟨b,off,ccs,t,fr,rfl,hI,hel⟩
 ·grind
 ·refine .inr ⟨_,rfl,fun j v hj=>?_⟩
  cases hy:ys[j]? with
  | none=>grind
  | some y =>
   have ⟨c,c1,c2,c3⟩:=hel j y hy
   obtain rfl:c= [enc y]:=c3
   have hg:w.heap[b]? =some (.cells ccs t fr):=hs.2.1 b _ hI
   simp_all[lr,Nat.mul_one,Nat.add_zero,List.getElem?_cons_zero,Option.map_some,Option.some.injEq,Addr.add_mid,World.cell?]
theorem Gj {dT sT ty elem:TypeId} {g o dLen dCap sLen sCap:Nat} {ao:Option Addr} {cur:Array Value} {t:TypeId} {cs:List Value}
  (hu:P.underlying dT=some (.slice elem)) (hs:(P.info? elem).map (·.size)=some 1)
  (hg:w.heap[g]? =some (.cells cur t (0,0))) (hn:cs.length=Nat.min sLen dLen)
  (hsrc:cs= [] \/ ∃a,ao=some a/\ ∀j v,cs[j]? =some v->w.cell? (a.add j)=some v) (hfit:o+cs.length<=cur.size) (h1: ∀v∈cs,v.oneCell'=true) :
  (Builtin.copy_ #[dT,sT] ty #[.slice (some ⟨g,o,none⟩) dLen dCap,.slice ao sLen sCap]).run P w =
   .ok (goInt cs.length) (w.setRow g (cur.toList.take o++cs++cur.toList.drop (o+cs.length)).toArray):=by
 rcases hsrc with rfl | ⟨a,rfl,h⟩
 ·have hz:=hn.symm
  have e:(w.setRow g (cur.toList.take o++ [] ++cur.toList.drop (o+([] :List Value).length)).toArray)=w:=by
   have:(cur.toList.take o++ [] ++cur.toList.drop (o+([] :List Value).length)).toArray=cur:=by simp
   rw[this];exact setRow_self w g cur t (0,0) hg
  rw[e]
  cases hq:P.info? elem with
  | none=>grind
  | some i =>
   have hi:i.size=1:=by simpa [hq] using hs
   cases ao with
   | none=>simp[Builtin.copy_,run_underlying hu,Builtin.lenOf,Builtin.firstCells,sizeOf,typeInfo,hq,hi,hz,storeCells]
   | some a =>
    have h0:(loadCells a 0).run P w= .ok #[] w:=run_loadCells_list (P:=P) w a [] (by simp)
    simp[Builtin.copy_,run_underlying hu,Builtin.lenOf,Builtin.firstCells,sizeOf,typeInfo,hq,hi,hz,storeCells,h0]
 grind[run_copy_row]
theorem yr {α:Type} {E dT sT:TypeId} {enc:α->Value} {h1: ∀a,(enc a).oneCell'=true} {x y:Operand} {v dv u:Value} {xs ys:List α} {lo:Nat} (hT:P.underlying dT=some (.slice E)) (hE:(P.info? E).map (·.size)=some 1)
  (ho:o.op= .call { callee:=.builtin .copy,args:= #[x,y],argTypes:= #[dT,sT] }) (hx:ev x=dv) (hy:ev y=u) (hlo:lo<=xs.length) (hd:(dv=v/\lo=0)\/dv=rf v lo xs.length 1)
  (hsrc: ∀w C,St I w0 w (Ch.own (af E (lr α enc h1)) [v] xs::C)->Src w u (ys.map enc)) :
  OpT P I w0 o ev [Ch.own (af E (lr α enc h1)) [v] xs] (· = .int .i64 (min ys.length (xs.length - lo):Nat)) (fun _=>[Ch.own (af E (lr α enc h1)) [v] (FZ xs lo ys)]):=by
 intro w C hs
 obtain ⟨ao,scap,rfl,hc⟩:=hsrc w C hs
 have hk:min ys.length (xs.length - lo)<=(ys.map enc).length:=by simp;omega
 have hcs:=Src.take ⟨ao,scap,rfl,hc⟩ _ hk
 have ⟨ao',scap',e0,hcs⟩:=hcs
 obtain ⟨rfl,rfl⟩:ao=ao'/\scap=scap':=by grind
 simp only[execOp,ho,hx,hy,resolve,Sem.run_bind,Sem.run_pure,Result.andThen_ok,invoke,builtin]
 have hargs:(#[x,y] :Array Operand).map ev= #[dv,.slice ao (ys.map enc).length scap]:=by simp[hx,hy]
 rw[hargs]
 obtain ⟨hb,hi,F,⟨G,K,rfl,⟨hl,e2⟩,e3⟩,h4,h5⟩:=hs
 have hl2:(FZ xs lo ys).length=xs.length:=by
  simp[FZ,aC,aI,bJ];omega
 rcases e2 with ⟨hv,rfl,rfl⟩ | ⟨g,ofs,cap,cur,K1,hv,k1,k2,k3,k4,rfl,k5⟩
 ·
  obtain rfl:v= .slice none 0 0:=by grind
  obtain rfl:lo=0:=by grind
  have hdv:dv= .slice none 0 0:=by
   rcases hd with ⟨rfl,-⟩ | rfl
   ·rfl
   ·rfl
  subst hdv
  have hr:(Builtin.copy_ #[dT,sT] o.type #[.slice none 0 0,.slice ao (ys.map enc).length scap]).run P w= .ok (goInt 0) w:=by
   cases hq:P.info? E with
   | none=>grind
   | some i =>
    have hi:i.size=1:=by simpa [hq] using hE
    cases ao with
    | none=>simp_all[Builtin.copy_,run_underlying,Builtin.lenOf,Builtin.firstCells,sizeOf,typeInfo,storeCells]
    | some a =>
     have h0:=run_loadCells_list (P:=P) w a [] (by simp)
     simp_all[Builtin.copy_,run_underlying,Builtin.lenOf,Builtin.firstCells,sizeOf,typeInfo,storeCells]
  rw[hr]
  refine ⟨by simp[goInt],hb,hi,[] ++K,⟨[],K,rfl,⟨?_,.inl ⟨rfl,?_,rfl⟩⟩,e3⟩,h4,h5⟩
  ·omega
  grind
 ·obtain rfl:v= .slice (some ⟨g,ofs,none⟩) xs.length cap:=by grind
  have k4':ofs+cap<=cur.size:=by have:ofs+cap*1<=cur.size:=k4;omega
  obtain ⟨rfl,rest,hcur⟩:=jZ.1 k5
  have hcurl:(cur.toList.drop ofs).length=cur.size - ofs:=by grind
  have hto:(cur.toList.take ofs).length=ofs:=by rw[aI,Array.length_toList];omega
  have hdv: ∃o' dCap,dv= .slice (some ⟨g,ofs+o',none⟩) (xs.length - lo) dCap/\(o'=lo\/(xs.length - lo=0/\o'<=cap)):=by
   rcases hd with ⟨rfl,rfl⟩ | rfl
   ·grind
   ·by_cases hcl:cap=lo
    ·simp_all[rf,sliced]
    grind[rf,sliced,Addr.add_mid]
  obtain ⟨o',dCap,rfl,ho'⟩:=hdv
  have hm:((ys.map enc).take (min ys.length (xs.length - lo))).length=min ys.length (xs.length - lo):=by
   rw[aI,List.length_map];omega
  have hr:=Gj (P:=P) (w:=w) (dT:=dT) (sT:=sT) (ty:=o.type) (elem:=E) (g:=g) (o:=ofs+o') (dLen:=xs.length - lo) (dCap:=dCap) (sLen:=(ys.map enc).length) (sCap:=scap) (ao:=ao) (cur:=cur) (t:=E) (cs:=(ys.map enc).take (min ys.length (xs.length - lo))) hT hE k1
   (by grind) hcs (by omega) (fun v hv=>by
    grind)
  rw[hr,hm]
  have hcells0:(cur.toList.drop ofs).take o'++(ys.map enc).take (min ys.length (xs.length - lo))++(cur.toList.drop ofs).drop (o'+min ys.length (xs.length - lo))=(FZ xs lo ys).map enc++rest:=by
   by_cases hz:min ys.length (xs.length - lo)=0
   ·rw[hz]
    have e:FZ xs lo ys=xs:=by
     unfold FZ
     have:ys.take (xs.length - lo)= []:=List.eq_nil_of_length_eq_zero (by grind)
     rw[this,hz,List.nil_append,Nat.add_zero,List.take_append_drop]
    simp_all
   ·have ho:o'=lo:=by omega
    subst ho
    rw[hcur,List.take_append_of_le_length (by grind),List.drop_append_of_le_length (by grind)]
    grind[FZ,List.map_take,List.map_drop,aA,List.take_eq_take_iff,List.length_map]
  have hcells:cur.toList.take (ofs+o')++(ys.map enc).take (min ys.length (xs.length - lo))++cur.toList.drop (ofs+o'+min ys.length (xs.length - lo))=cur.toList.take ofs++((FZ xs lo ys).map enc++rest):=by
   rw[<-hcells0,List.take_add,Nat.add_assoc,show cur.toList.drop (ofs+(o'+min ys.length (xs.length - lo)))=(cur.toList.drop ofs).drop (o'+min ys.length (xs.length - lo)) from by rw[List.drop_drop]]
   simp[aA]
  rw[hcells]
  have hsz:(cur.toList.take ofs++((FZ xs lo ys).map enc++rest)).length=cur.size:=by
   have:=congrArg List.length hcur
   rw[aC,List.length_map] at this
   rw[aC,hto,aC,List.length_map,hl2];omega
  have hst:St I w0 w (Ch.own (af E (lr α enc h1)) [.slice (some ⟨g,ofs,none⟩) xs.length cap] xs::C):=⟨hb,hi,[g] ++K,⟨[g],K,rfl,⟨hl,.inr ⟨g,ofs,cap,cur,[],rfl,k1,k2,k3,k4,rfl,k5⟩⟩,e3⟩,h4,h5⟩
  have:=St.step (w:=w) (c:=[Ch.own (af E (lr α enc h1)) [.slice (some ⟨g,ofs,none⟩) xs.length cap] xs]) (c':=[Ch.own (af E (lr α enc h1)) [.slice (some ⟨g,ofs,none⟩) xs.length cap] (FZ xs lo ys)]) (w':=w.setRow g (cur.toList.take ofs++((FZ xs lo ys).map enc++rest)).toArray) hst rfl rfl rfl (by simp_all) (by
   rintro F ⟨G2,K2,rfl,⟨hl',e2'⟩,rfl⟩ - -
   rcases e2' with ⟨hv',-,-⟩ | ⟨g',ofs',cap',cur',K1',hv',k1',k2',k3',k4',rfl,k5'⟩
   ·grind
   obtain ⟨⟨rfl,rfl⟩,rfl⟩:(g=g'/\ofs=ofs')/\cap=cap':=by grind
   obtain ⟨rfl,-⟩:=jZ.1 k5'
   refine ⟨fun b hb hn=>?_,[g],⟨[g],[],rfl,⟨by omega,.inr ⟨g,ofs,cap,(cur.toList.take ofs++((FZ xs lo ys).map enc++rest)).toArray,[],by rw[hl2],setRow_heap w g cur _ E _ k1,by omega,k3,?_,rfl,jZ.2 ⟨rfl,rest,List.drop_left' hto⟩⟩⟩,rfl⟩,by simp,by simp⟩
   ·grind[World.setRow]
   grind)
  exact ⟨rfl,this⟩
theorem Ix {α:Type} {E E' dT sT:TypeId} {enc:α->Value} {h1: ∀a,(enc a).oneCell'=true} {x y:Operand} {v dv u:Value} {xs ys:List α} {lo:Nat} (hr:(af E' (lr α enc h1)).rd I [u] ys) (hT:P.underlying dT=some (.slice E)) (hE:(P.info? E).map (·.size)=some 1)
  (ho:o.op= .call { callee:=.builtin .copy,args:= #[x,y],argTypes:= #[dT,sT] }) (hx:ev x=dv) (hy:ev y=u) (hlo:lo<=xs.length) (hd:(dv=v/\lo=0)\/dv=rf v lo xs.length 1) :
  OpT P I w0 o ev [Ch.own (af E (lr α enc h1)) [v] xs] (· = .int .i64 (min ys.length (xs.length - lo):Nat)) (fun _=>[Ch.own (af E (lr α enc h1)) [v] (FZ xs lo ys)]):=
 yr hT hE ho hx hy hlo hd fun w C hs=>Src.of_rd hs hr
theorem D8 {α:Type} {E dT sT:TypeId} {enc:α->Value} {h1: ∀a,(enc a).oneCell'=true} {x y:Operand} {v dv:Value} {xs:List α} {lo hi:Nat} (hT:P.underlying dT=some (.slice E)) (hE:(P.info? E).map (·.size)=some 1)
  (ho:o.op= .call { callee:=.builtin .copy,args:= #[x,y],argTypes:= #[dT,sT] }) (hx:ev x=dv) (hy:ev y=rf v 0 hi 1) (hlo:lo<=xs.length) (hhi:hi<=xs.length) (hd:(dv=v/\lo=0)\/dv=rf v lo xs.length 1) :
  OpT P I w0 o ev [Ch.own (af E (lr α enc h1)) [v] xs] (· = .int .i64 (min (xs.take hi).length (xs.length - lo):Nat)) (fun _=>[Ch.own (af E (lr α enc h1)) [v] (FZ xs lo (xs.take hi))]):=by
 refine yr hT hE ho hx hy hlo hd fun w C hs=>?_
 obtain ⟨hb,hi',F,⟨G,K,rfl,⟨hl,e2⟩,e3⟩,h4,h5⟩:=hs
 rcases e2 with ⟨hv,rfl,rfl⟩ | ⟨g,ofs,cap,cur,K1,hv,k1,k2,k3,k4,rfl,k5⟩
 ·obtain rfl:v= .slice none 0 0:=by grind
  obtain rfl:hi=0:=by grind
  exact ⟨none,0,rfl,.inl (by simp)⟩
 ·obtain ⟨rfl,rest,hcur⟩:=jZ.1 k5
  refine ⟨some ⟨g,ofs,none⟩,cap,by grind[rf,sliced,Addr.add_mid],.inr ⟨_,rfl,fun j u hj=>?_⟩⟩
  simp[Addr.add_mid,World.cell?,k1]
  rw[<-Array.getElem?_toList,<-List.getElem?_drop,hcur]
  grind
section
variable {n:Nat} {a:Act} {L:List (Nat×Value)} {Q:Exit->Act->World->Prop} {ops:Array Oper} {rest:List Oper} {C C0 rn_:List Ch} {v:Value} {g d:Nat} {want b:Bool} {fact:Value->Prop} {gv:Value->List Ch}
theorem rn {l:List Oper} (ha:Agr n a L) (hs:St I w0 w C) (k: ∀a w,Agr n a L->St I w0 w C->wpList P ops Q l a w):wpList P ops Q l a w:=k a w ha hs
end
theorem Za {T:TypeId} {agg:Bool} (h:TI P T agg 1):(P.info? T).map (·.size)=some 1:=h.2
end
end D
namespace D
open Go.RowKit
def gx:Nat:=(cast (congrArg (fun p:Prop=> {n:Nat // p}) (propext ⟨fun _=>rfl,fun _=>trivial⟩:True=((0:Nat)=0))) (⟨aP,trivial⟩: {n:Nat // True}): {n:Nat // (0:Nat)=0}).1
theorem RT:gx=aP:=by
 have key: ∀(p q:Prop) (h:p=q) (x: {n:Nat // p}),(cast (congrArg (fun p:Prop=> {n:Nat // p}) h) x).1=x.1:=by
  intro p q h x
  subst h
  rfl
 exact key True ((0:Nat)=0) (propext ⟨fun _=>rfl,fun _=>trivial⟩) ⟨aP,trivial⟩
inductive Tr (α:Type)
 | nil
 | node (a:α) (kids:List (Tr α))
def Tr.get {α:Type} :Tr α->Option (α×List (Tr α))
 | .nil=>none
 | .node a ks=>some (a,ks)
def Tr.isNil {α:Type} :Tr α->Bool
 | .nil=>true
 | .node _ _=>false
def Kids (I:Hp) (v:Value) (n:Nat) (cc:Nat->Value):Prop:= ∃ao cap,v= .slice ao n cap/\(n<=lim/\n<=cap)/\(n=0\/ ∃g off ccs t fr,ao=some ⟨g,off,none⟩/\I g=some (.cells ccs t fr)/\ ∀i,i<n->ccs.toList[off+i]? =some (cc i))
theorem Kids.mono {I J:Hp} {v:Value} {n:Nat} {cc:Nat->Value} (h:Kids I v n cc) (hJ:I.le J):Kids J v n cc:=by
 have ⟨ao,cap,h1,h2,h3⟩:=h
 refine ⟨ao,cap,h1,h2,?_⟩
 rcases h3 with h3 | ⟨g,off,ccs,t,fr,h4,h5,h6⟩
 ·omega
 ·exact .inr ⟨g,off,ccs,t,fr,h4,hJ _ _ h5,h6⟩
inductive TreeRd {α:Type} (T:TypeId) (R:Rep α) (I:Hp):Value->Tr α->Prop
 | nil:TreeRd T R I (.pointer none) .nil
 | node {b:Nat} {c:List Value} {v:Value} {a:α} {ks:List (Tr α)} {cc:Nat->Value} (hb:I b=some (.cells (c++ [v]).toArray T (0,0))) (ha:R.rd I c a) (hv:Kids I v ks.length cc)
   (hk: ∀i x,ks[i]? =some x->TreeRd T R I (cc i) x):TreeRd T R I (.pointer (some ⟨b,0,none⟩)) (.node a ks)
section
variable {α:Type} {T E:TypeId} {R:Rep α} {I J:Hp} {w w':World} {v:Value} {x:Tr α} {F:List Nat}
theorem TreeRd.mono (h:TreeRd T R I v x) (hJ:I.le J):TreeRd T R J v x:=by
 induction h with
 | nil=>exact .nil
 | node hb ha hv hk ih=>exact .node (hJ _ _ hb) (R.rd_mono ha hJ) (hv.mono hJ) ih
theorem TreeRd.one (h:TreeRd T R I v x):v.oneCell'=true:=by cases h <;> rfl
def ov (I:Hp) (w:World) (F:List Nat):Hp:=fun b=>if b∈F then w.heap[b]? else I b
theorem WJ (h:I.le J):(ov I w F).le (ov J w F):=fun b o hb=>by
 unfold ov at hb⊢
 split at hb
 ·grind
 ·rw[if_neg ‹_›];exact h b o hb
theorem WK (h: ∀b,b∈F->w'.heap[b]? =w.heap[b]?):ov I w' F=ov I w F:=funext fun b=>by
 grind[ov]
def vM (T:TypeId) (R:Rep α):Rep (Tr α) where
 size:=1
 rd I cs x:= ∃v,cs= [v] /\TreeRd T R I v x
 own I w cs x F:=(∀b,b∈F->b<w.heap.size)/\ ∃v,cs= [v] /\TreeRd T R (ov I w F) v x
 rd_len:=by rintro I cs x ⟨v,rfl,_⟩;rfl
 rd_one:=by rintro I cs x ⟨v,rfl,h⟩ u hu;obtain rfl:=au hu;exact h.one
 rd_mono:=by rintro I J cs x ⟨v,rfl,h⟩ hJ;exact ⟨v,rfl,h.mono hJ⟩
 own_len:=by rintro I w cs x F ⟨_,v,rfl,_⟩;rfl
 own_one:=by rintro I w cs x F ⟨_,v,rfl,h⟩ u hu;obtain rfl:=au hu;exact h.one
 own_mono:=by rintro I J w cs x F ⟨h0,v,rfl,h⟩ hJ;exact ⟨h0,v,rfl,h.mono (WJ hJ)⟩
 own_stay:=by
  rintro I w w' cs x F ⟨h0,v,rfl,h⟩ hw
  refine ⟨fun b hb=>?_,v,rfl,by rw[WK hw];exact h⟩
  have hlt:=h0 b hb
  have:w.heap[b]? =some w.heap[b]:=Array.getElem?_eq_getElem hlt
  rw[<-hw b hb] at this
  exact (Array.getElem?_eq_some_iff.1 this).1
 own_live h:=h.1
 own_rd:=by
  rintro I J w cs x F ⟨h0,v,rfl,h⟩ hJ hB
  refine ⟨v,rfl,h.mono fun b o hb=>?_⟩
  unfold ov at hb
  split at hb
  ·rw[hB b ‹_›];exact hb
  ·exact hJ b o hb
def D9 (R:Rep α):Rep α where
 size:=R.size
 rd:=R.rd
 own I w cs x F:=(cs.length=R.size/\ ∀u∈cs,u.oneCell'=true)/\(∀b,b∈F->b<w.heap.size)/\ ∀J:Hp,I.le J->(∀b,b∈F->J b=w.heap[b]?)->R.rd J cs x
 rd_len:=R.rd_len
 rd_one:=R.rd_one
 rd_mono:=R.rd_mono
 own_len h:=h.1.1
 own_one h:=h.1.2
 own_mono h hJ:=⟨h.1,h.2.1,fun K hK hB=>h.2.2 K (hJ.trans hK) hB⟩
 own_stay:=by
  rintro I w w' cs x F ⟨h0,h1,h⟩ hw
  refine ⟨h0,fun b hb=>?_,fun J hJ hB=>h J hJ fun b hb=>by rw[hB b hb,hw b hb]⟩
  have hlt:=h1 b hb
  have:w.heap[b]? =some w.heap[b]:=Array.getElem?_eq_getElem hlt
  rw[<-hw b hb] at this
  exact (Array.getElem?_eq_some_iff.1 this).1
 own_live h:=h.2.1
 own_rd h hJ hB:=h.2.2 _ hJ hB
theorem NN {R:Rep α} {cs:List Value} {x:α} {F:List Nat} (h:R.own I w cs x F):(D9 R).own I w cs x F:=
 ⟨⟨R.own_len h,R.own_one h⟩,R.own_live h,fun J hJ hB=>R.own_rd h hJ hB⟩
theorem Kp {R:Rep α} {cs:List Value} {x:α} (h:R.rd I cs x):(D9 R).own I w cs x []:=
 ⟨⟨R.rd_len h,R.rd_one h⟩,fun b hb=>(by cases hb),fun J hJ _=>R.rd_mono h hJ⟩
theorem WL {R:Rep α} {ls:List Ch} {cs:List Value} {x:α} (h:Bun I ls R cs x):Bun I ls (D9 R) cs x:=fun w F hs=>NN (h w F hs)
theorem WM {R:Rep α} {c:List Value} {x:α} (h: ∀I,R.rd I c x):Zro (D9 R) c x:=fun I w=>Kp (h I)
theorem OwnEls.turn {R S:Rep α} (hs:R.size=S.size) (h: ∀c x G,R.own I w c x G->S.own I w c x G): ∀ {xs:List α} {cur:List Value} {F:List Nat},OwnEls R I w cur xs F->OwnEls S I w cur xs F
 | [],cur,F,h0=>h0
 | y::xs,cur,F,⟨c,rest,G,K,h1,h2,h3,h4,h5⟩=>⟨c,rest,G,K,h1,by omega,h3,h _ _ _ h4,OwnEls.turn hs h h5⟩
theorem NO {R:Rep α} {J:Hp} (hJ:I.le J): ∀ {xs:List α} {cur:List Value} {F:List Nat},(∀b,b∈F->J b=w.heap[b]?)->OwnEls (D9 R) I w cur xs F->OwnEls (tm R) J w cur xs []
 | [],cur,F,_,h0=>rfl
 | y::xs,cur,F,hB,⟨c,rest,G,K,h1,h2,h3,h4,h5⟩=>by
  subst h3
  exact ⟨c,rest,[],[],h1,h2,rfl,⟨rfl,h4.2.2 J hJ fun b hb=>hB b (aZ _ hb)⟩,NO hJ (fun b hb=>hB b (bc _ hb)) h5⟩
theorem St.freeze_els {R:Rep α} {v:List Value} {xs:List α} {cs:List Ch} {w0:World} (h:St I w0 w (Ch.own (af E (D9 R)) v xs::cs)): ∃J,I.le J/\St J w0 w (Ch.own (af E (tm R)) v xs::cs):=by
 obtain ⟨hb,hi,F,⟨G,K,rfl,⟨hl,e2⟩,e3⟩,h2,h3⟩:=h
 rcases e2 with ⟨rfl,rfl,rfl⟩ | ⟨g,ofs,cap,cur,K1,hv,k1,k2,k3,k4,rfl,k5⟩
 ·exact ⟨I,Hp.le.rfl,hb,hi,[] ++K,⟨[],K,rfl,⟨hl,.inl ⟨rfl,rfl,rfl⟩⟩,e3⟩,h2,h3⟩
 ·let J:=fun b=>if b∈K1 then w.heap[b]? else I b
  have hIJ:I.le J:=fun b o hb'=>by
   grind
  have h2':=h2
  have hgK:=fun hg=>(List.nodup_cons.1 h2').1 (bc _ hg)
  have ⟨n1,n2,n3⟩:=List.nodup_append.1 (List.nodup_cons.1 h2').2
  refine ⟨J,hIJ,hb,fun b o hb'=>?_,[g] ++K,⟨[g],K,rfl,⟨hl,.inr ⟨g,ofs,cap,cur,[],hv,k1,k2,k3,k4,rfl,?_⟩⟩,e3.mono hIJ⟩,List.nodup_cons.2 ⟨hgK,n2⟩,fun b hb'=>?_⟩
  ·have hb':(if b∈K1 then w.heap[b]? else I b)=some o:=hb'
   split at hb'
   ·exact hb'
   ·exact hi b o hb'
  ·exact NO hIJ (fun b hb=>if_pos hb) k5
  grind
theorem RU:Cpy (vM T R) (vM T R):=by
 rintro I w c x ⟨v,rfl,h⟩
 exact ⟨fun b hb=>(by cases hb),v,rfl,by exact h⟩
theorem RV:Zro (vM T R) [.pointer none] .nil:=fun I w=>⟨fun b hb=>(by cases hb),_,rfl,.nil⟩
theorem NP {ks:List (Tr α)} :(af E (vM T R)).rd I [v] ks↔ ∃cc,Kids I v ks.length cc/\ ∀i x,ks[i]? =some x->TreeRd T R I (cc i) x:=by
 constructor
 ·rintro ⟨ao,cap,e,hl,h⟩
  obtain rfl:v= .slice ao ks.length cap:=by grind
  rcases h with rfl | ⟨b,off,ccs,t,fr,rfl,h2,h3⟩
  ·exact ⟨fun _=>undef,⟨ao,cap,rfl,hl,.inl rfl⟩,fun i x hx=>by grind⟩
  ·refine ⟨fun i=>(ccs.toList[off+i]?).getD undef,⟨_,cap,rfl,hl,.inr ⟨b,off,ccs,t,fr,rfl,h2,fun i hi=>?_⟩⟩,fun i x hx=>?_⟩
   ·have ⟨c,e1,e2,e3⟩:=h3 i ks[i] (List.getElem?_eq_getElem hi)
    simp_all[vM]
   ·have ⟨c,e1,e2,e3⟩:=h3 i x hx
    obtain ⟨u,rfl,e3⟩:=e3
    simp_all[vM,undef]
 ·rintro ⟨cc,⟨ao,cap,rfl,hl,h⟩,hk⟩
  refine ⟨ao,cap,rfl,hl,?_⟩
  rcases h with h | ⟨g,off,ccs,t,fr,h4,h5,h6⟩
  ·grind
  ·refine .inr ⟨g,off,ccs,t,fr,h4,h5,fun i x hx=>⟨[cc i],rfl,fun j hj=>?_,cc i,rfl,hk i x hx⟩⟩
   grind[List.getElem?_eq_some_iff,vM]
theorem Kq {p:α×List (Tr α)} (h:(vM T R).rd I [v] x) (hx:x.get=some p): ∃b,v= .pointer (some ⟨b,0,none⟩)/\ ∃cells:List Value,I b=some (.cells cells.toArray T (0,0))/\(aD R (af E (vM T R))).rd I cells p:=by
 have ⟨u,e,h⟩:=h
 obtain rfl:v=u:=by grind
 cases h with
 | nil=>cases hx
 | node hb ha hv hk =>
  cases ad hx
  exact ⟨_,rfl,_,hb,_,_,rfl,ha,NP.2 ⟨_,hv,hk⟩⟩
theorem RW (h:(vM T R).rd I [v] x): ∃a:Option Addr,v= .pointer a/\a.isNone=x.isNil:=by
 have ⟨u,e,h⟩:=h
 obtain rfl:v=u:=by grind
 cases h <;> exact ⟨_,rfl,rfl⟩
theorem NQ {b:Nat} {c:List Value} {u:Value} {a:α} {ks:List (Tr α)} (hb:I b=some (.cells (c++ [u]).toArray T (0,0))) (ha:R.rd I c a) (hk:(af E (vM T R)).rd I [u] ks):(vM T R).rd I [.pointer (some ⟨b,0,none⟩)] (.node a ks):=by
 have ⟨cc,h1,h2⟩:=NP.1 hk
 exact ⟨_,rfl,.node hb ha h1 h2⟩
def only (I:Hp) (L:List Nat):Hp:=fun b=>if b∈L then I b else none
theorem jk {L M:List Nat} (h: ∀b,b∈L->b∈M):(only I L).le (only I M):=fun b o hb=>by
 simp_all[only,if_pos]
def Rep.Fin {α:Type} (R:Rep α):Prop:= ∀ {I:Hp} {cs:List Value} {x:α},R.rd I cs x-> ∃L,R.rd (only I L) cs x
theorem Kids.fin {n:Nat} {cc:Nat->Value} (h:Kids I v n cc): ∃L,Kids (only I L) v n cc:=by
 have ⟨ao,cap,h1,h2,h3⟩:=h
 rcases h3 with h3 | ⟨g,off,ccs,t,fr,h4,h5,h6⟩
 ·exact ⟨[],ao,cap,h1,h2,.inl h3⟩
 ·exact ⟨[g],ao,cap,h1,h2,.inr ⟨g,off,ccs,t,fr,h4,by simp_all[only,if_pos],h6⟩⟩
theorem TreeRd.fin (hR:R.Fin) (h:TreeRd T R I v x): ∃L,TreeRd T R (only I L) v x:=by
 induction h with
 | nil=>exact ⟨[],.nil⟩
 | @node b c v a ks cc hb ha hv hk ih =>
  have ⟨L1,k1⟩:=hR ha
  have ⟨L2,k2⟩:=hv.fin
  have key: ∀n,∃L,∀i x,i<n->ks[i]? =some x->TreeRd T R (only I L) (cc i) x:=by
   intro n
   induction n with
   | zero=>simp_all
   | succ n ihn =>
    have ⟨L,hL⟩:=ihn
    cases hx:ks[n]? with
    | none=>exact ⟨L,fun i x hi hx'=>by
      grind⟩
    | some y =>
     have ⟨M,hM⟩:=ih n y hx
     refine ⟨L++M,fun i x hi hx'=>?_⟩
     by_cases e:i=n
     ·subst e;rw[hx] at hx';cases ad hx'
      exact hM.mono (jk fun b hb=>by grind)
     ·exact (hL i x (by omega) hx').mono (jk fun b hb=>by grind)
  have ⟨L3,k3⟩:=key ks.length
  refine ⟨b::(L1++(L2++L3)),.node (cc:=cc) (by simp_all[only,if_pos]) (R.rd_mono k1 (jk fun b hb=>by grind)) (k2.mono (jk fun b hb=>by grind)) fun i x hx=>?_⟩
  grind[List.getElem?_eq_some_iff,mono,jk]
theorem Ea {enc:α->Value} {h1: ∀a,(enc a).oneCell'=true} :(lr α enc h1).Fin:=fun h=>⟨[],h⟩
theorem RX {α β:Type} {A:Rep α} {B:Rep β} (h:A.Fin) (k:B.Fin):(aD A B).Fin:=by
 rintro I cs x ⟨c,d,rfl,h1,h2⟩
 have ⟨L,k1⟩:=h h1
 have ⟨M,k2⟩:=k h2
 exact ⟨L++M,c,d,rfl,A.rd_mono k1 (jk fun b hb=>by grind),B.rd_mono k2 (jk fun b hb=>by grind)⟩
def RY:List Nat->List Nat
 | [] =>[]
 | a::l=>if a∈RY l then RY l else a::RY l
theorem vN {b:Nat} : ∀ {l:List Nat},b∈RY l↔b∈l
 | [] =>Iff.rfl
 | a::l=>by
  unfold RY
  split
  ·rename_i h
   rw[vN,List.mem_cons]
   exact ⟨.inr,fun k=>k.elim (fun e=>by rw[e];exact vN.1 h) id⟩
  ·rw[List.mem_cons,List.mem_cons,vN]
theorem tu: ∀ {l:List Nat},(RY l).Nodup
 | [] =>List.nodup_nil
 | a::l=>by
  unfold RY
  split
  ·exact tu
  ·exact List.nodup_cons.2 ⟨‹_›,tu⟩
def Ch.recl (c:Ch):Prop:= ∀ {I J:Hp} {w:World} {F:List Nat},I.le J->J.le (hp w)->c.holds J w F->(∀b,b∈F->J b=none)-> ∃L,(∀b,b∈L->I b=none/\J b≠none)/\L.Nodup/\c.holds I w (F++L)
theorem NR (hR:R.Fin) {cs:List Value} :(Ch.own (vM T R) cs x).recl:=by
 rintro I J w F hJ hw ⟨h0,v,rfl,h⟩ hF
 have ⟨L,k⟩:=h.fin hR
 let M:=RY (L.filter fun b=>(I b).isNone&&(J b).isSome)
 have hM: ∀b,b∈M↔b∈L/\I b=none/\J b≠none:=fun b=>by
  simp[M,vN,List.mem_filter,ai,Option.isNone_iff_eq_none,Option.isSome_iff_ne_none]
 refine ⟨M,fun b hb=>((hM b).1 hb).2,tu,fun b hb=>?_,v,rfl,k.mono fun b o hb=>?_⟩
 ·rcases aH hb with hb | hb
  ·grind
  ·have ⟨o,ho⟩:=Option.ne_none_iff_exists'.1 ((hM b).1 hb).2.2
   exact (Array.getElem?_eq_some_iff.1 (hw b o ho)).1
 ·unfold only at hb
  split at hb
  ·unfold ov at hb⊢
   split at hb
   ·grind
   ·cases hI:I b with
    | none =>
     rw[if_pos (by grind)]
     exact hw b o hb
    | some o' =>
     rw[if_neg (by grind)]
     rw[<-hJ b o' hI,hb] at *
  grind
end
def Ch.back:List Ch->Prop
 | [] =>True
 | c::cs=>(c.deep/\Ch.back cs)\/(c.recl/\Ch.deeps cs)
theorem Ch.back_deeps: ∀ {cs:List Ch},Ch.deeps cs->Ch.back cs
 | [],_=>trivial
 | c::cs,h=>.inl ⟨h.1,back_deeps h.2⟩
theorem St.back {I J:Hp} {w0 w:World} {cs:List Ch} (hIJ:I.le J): ∀ {ds:List Ch},Ch.back ds->St J w0 w (ds++ [Ch.fr I cs])->St I w0 w (ds++cs):=by
 intro ds hd ⟨hb,hi,F,h1,h2,h3⟩
 obtain ⟨G,K,rfl,e1,K',L0,rfl,e2,rfl⟩:=h1.split
 rw[List.append_nil] at h2 h3
 have hn: ∀b,J b=none->I b=none:=fun b hb=>by
  cases hI:I b with
  | none=>rfl
  | some o=>rw[hIJ b o hI] at hb;cases hb
 have key: ∀ {ds:List Ch} {G:List Nat},Ch.back ds->Sep J ds w G->(∀b,b∈G->J b=none)-> ∃L,(∀b,b∈L->I b=none/\J b≠none)/\L.Nodup/\ ∃G',G'.Perm (G++L)/\Sep I ds w G':=by
  intro ds
  induction ds with
  | nil=>intro G _ h _;exact ⟨[],fun b hb=>(by cases hb),List.nodup_nil,G,by simp,h⟩
  | cons c ds ih =>
   rintro G hd ⟨G1,G2,rfl,k1,k2⟩ hG
   rcases hd with ⟨hd1,hd2⟩ | ⟨hd1,hd2⟩
   ·have ⟨L,l1,l2,G',l3,l4⟩:=ih hd2 k2 fun b hb=>hG b (bc _ hb)
    exact ⟨L,l1,l2,G1++G',by grind,G1,G',rfl,hd1 k1,l4⟩
   ·have ⟨L,l1,l2,l3⟩:=hd1 hIJ hi k1 fun b hb=>hG b (aZ _ hb)
    refine ⟨L,l1,l2,(G1++L)++G2,?_,G1++L,G2,rfl,l3,k2.deeps hd2⟩
    grind
 have ⟨L,l1,l2,G',l3,l4⟩:=key hd e1 fun b hb=>h3 b (aZ _ hb)
 have hp:(G'++K').Perm ((G++K')++L):=(l3.append_right K').trans (by
  grind)
 refine ⟨hb,hIJ.trans hi,G'++K',l4.append e2,hp.nodup_iff.2 (List.nodup_append.2 ⟨h2,l2,fun b hb1 c hb2 hbc=>?_⟩),fun b hb'=>?_⟩
 ·grind
 grind
end D
namespace D
open Go.RowKit
structure LayW (P:Program) (w:World):Prop where
 len: ∃g m,P.globalNamed "internal/bytealg.MaxLen" =some g/\w.cell? ⟨g,0,none⟩=some (.int .i64 m)
 tab:Lib.TabIs P w "internal/strconv.uint64pow10" .u64 Lib.pow10Tab
 syn: ∃tp p,w.var? P "strconv.ErrSyntax" =some #[.iface tp p]
 rng: ∃tp p,w.var? P "strconv.ErrRange" =some #[.iface tp p]
def Lay (P:Program) (J:Hp):Prop:= ∀w:World,J.le (hp w)->LayW P w
theorem Lay.mono {P:Program} {J J':Hp} (h:Lay P J) (hJ:J.le J'):Lay P J':=fun w hw=>h w (hJ.trans hw)
theorem NS {P:Program} {W w:World} {n:String} {cs:Array Value} (hw:(hp W).le (hp w)) (h:W.var? P n=some cs):w.var? P n=some cs:=by
 unfold World.var? at h⊢
 obtain ⟨g,hg,h⟩:=Option.bind_eq_some_iff.1 h
 rw[hg]
 show (match w.heap[g]? with | some (.cells cs _ _)=>some cs | _=>none)=some cs
 split at h
 ·rename_i c t f hc
  have:w.heap[g]? =some (.cells c t f):=hw g _ hc
  rw[this];exact h
 ·cases h
theorem WN {W w:World} {a:Addr} {v:Value} (hw:(hp W).le (hp w)) (h:W.cell? a=some v):w.cell? a=some v:=by
 cases hb:W.heap[a.block]? with
 | none=>simp[World.cell?,hb] at h
 | some o =>
  have e:w.heap[a.block]? =some o:=hw a.block o hb
  unfold World.cell? at h⊢
  rw[hb] at h
  rw[e]
  exact h
theorem Lay.of {P:Program} {W:World} (h:LayW P W):Lay P (hp W):=fun w hw =>
 ⟨h.len.imp fun g hg=>hg.imp fun m hm=>⟨hm.1,WN hw hm.2⟩,NS hw h.tab,h.syn.imp fun t ht=>ht.imp fun p hp=>NS hw hp,h.rng.imp fun t ht=>ht.imp fun p hp=>NS hw hp⟩
end D
namespace R
open Go.RowKit
open D
inductive Ty
 | int (k:IntKind) | bool | str | raw
 | prod (a b:Ty)
 | sl (E:TypeId) (t:Ty)
 | fro (t:Ty)
 | wr (t:Ty)
 | tree (T E:TypeId) (t:Ty)
 | bag (t:Ty)
 deriving DecidableEq
abbrev Raw:= {v:Value // v.oneCell'=true}
def Ij:Rep Raw:=lr Raw (·.1) (·.2)
def Ty.den:Ty->Type
 | .int _=>Int
 | .bool=>Bool
 | .str=>ByteArray
 | .raw=>Raw
 | .prod a b=>a.den×b.den
 | .sl _ t=>List t.den
 | .fro t=>t.den
 | .wr t=>t.den
 | .tree _ _ t=>Tr t.den
 | .bag t=>t.den
def Ty.size:Ty->Nat
 | .prod a b=>a.size+b.size
 | .fro t=>t.size
 | .wr t=>t.size
 | .bag t=>t.size
 | _=>1
def Ty.isProd:Ty->Bool
 | .prod _ _=>true
 | .fro t=>t.isProd
 | .wr _=>true
 | .bag t=>t.isProd
 | _=>false
def Ty.rep:(t:Ty)->Rep t.den
 | .int k=>lr Int (.int k) fun _=>rfl
 | .bool=>oJ
 | .str=>D0
 | .raw=>Ij
 | .prod a b=>aD a.rep b.rep
 | .sl E t=>af E t.rep
 | .fro t=>tm t.rep
 | .wr t=>t.rep
 | .tree T _ t=>vM T t.rep
 | .bag t=>D9 t.rep
def Ty.erase:Ty->Ty
 | .prod a b=>.prod a.erase b.erase
 | .sl _ t=>.sl 0 t.erase
 | .fro t=>t.erase
 | .bag t=>t.erase
 | .wr t=>.wr t.erase
 | t=>t
theorem Ty.rep_size: ∀t:Ty,t.rep.size=t.size
 | .int _=>rfl
 | .bool=>rfl
 | .str=>rfl
 | .raw=>rfl
 | .prod a b=>by show a.rep.size+b.rep.size=_;rw[rep_size a,rep_size b];rfl
 | .sl _ _=>rfl
 | .fro t=>rep_size t
 | .wr t=>rep_size t
 | .tree _ _ _=>rfl
 | .bag t=>rep_size t
theorem Ty.size_pos: ∀t:Ty,0<t.size
 | .int _=>Nat.one_pos
 | .bool=>Nat.one_pos
 | .str=>Nat.one_pos
 | .raw=>Nat.one_pos
 | .prod a b=>Nat.add_pos_left (size_pos a) _
 | .sl _ _=>Nat.one_pos
 | .fro t=>size_pos t
 | .wr t=>size_pos t
 | .tree _ _ _=>Nat.one_pos
 | .bag t=>size_pos t
abbrev Pk:=(α:Type)×(Nat×(Hp->List Value->α->Prop))
def Ty.pk (t:Ty):Pk:=⟨t.den,t.rep.size,t.rep.rd⟩
def UY (p q:Pk):Pk:=⟨p.1×q.1,p.2.1+q.2.1,fun I cs x=> ∃c d,cs=c++d/\p.2.2 I c x.1/\q.2.2 I d x.2⟩
def acn (p : Pk) : Pk := ⟨List p.1, 1, fun I cs xs => ∃ ao cap, cs = [.slice ao xs.length cap] /\ (xs.length <= lim /\ xs.length <= cap) /\ (xs = [] \/ ∃ b off ccs t fr, ao = some ⟨b, off, none⟩ /\ I b = some (.cells ccs t fr) /\
    ∀ i x, xs[i]? = some x -> ∃ c : List Value, c.length = p.2.1 /\ (∀ j, j < p.2.1 -> ccs.toList[off + i * p.2.1 + j]? = c[j]?) /\ p.2.2 I c x)⟩
theorem Ty.pk_erase: ∀t:Ty,t.erase.pk=t.pk
 | .int _=>rfl
 | .bool=>rfl
 | .str=>rfl
 | .raw=>rfl
 | .prod a b=>by
  show UY a.erase.pk b.erase.pk=UY a.pk b.pk
  rw[pk_erase a,pk_erase b]
 | .sl _ t=>by
  show acn t.erase.pk=acn t.pk
  rw[pk_erase t]
 | .fro t=>pk_erase t
 | .wr t=>pk_erase t
 | .tree _ _ _=>rfl
 | .bag t=>pk_erase t
theorem Ty.pk_eq {t u:Ty} (h:t.erase=u.erase):t.pk=u.pk:=by grind[pk_erase]
def my (t u:Ty) (d:t.den):Option u.den:=if h:t.erase=u.erase then some (cast (congrArg Sigma.fst (Ty.pk_eq h)) d) else none
theorem WO {p q:Pk} (h:p=q) {I:Hp} {cs:List Value} {d:p.1} (hd:p.2.2 I cs d):q.2.2 I cs (cast (congrArg Sigma.fst h) d):=by subst h;exact hd
theorem gy {t u:Ty} {d:t.den} {d':u.den} (h:my t u d=some d') {J:Hp} {cs:List Value} (hd:t.rep.rd J cs d):u.rep.rd J cs d':=by
 unfold my at h
 split at h
 ·rename_i he
  cases ad h
  exact WO (Ty.pk_eq he) hd
 grind
def oM (t u:Ty) (d:t.den):Option u.den:=if h:t=u then some (h ▸ d) else none
theorem pL {t u:Ty} {d:t.den} {d':u.den} (h:oM t u d=some d'): ∃e:t=u,d'=e ▸ d:=by
 grind[oM,ad]
def Ty.sh:Ty->Bool
 | .prod a b=>a.sh&&b.sh
 | .sl _ _=>false
 | .fro _=>true
 | .wr t=>t.sh
 | .tree _ _ _=>false
 | .bag _=>false
 | _=>true
theorem Ty.sh_ok: ∀ {t:Ty},t.sh=true->t.rep.Sh
 | .int _,_=>D5
 | .bool,_=>Wn
 | .str,_=>YZ
 | .raw,_=>D5 (α:=Raw) (enc:=(·.1)) (h1:=(·.2))
 | .prod a b,h=>by
  have h:(a.sh&&b.sh)=true:=h
  rw[ai] at h
  exact Wm (sh_ok h.1) (sh_ok h.2)
 | .sl _ _,h=>by cases h
 | .fro _,_=>YY
 | .wr t,h=>sh_ok (t:=t) h
 | .tree _ _ _,h=>by cases h
 | .bag _,h=>by cases h
theorem Ty.cpy: ∀ {t:Ty},t.sh=true->Cpy t.rep t.rep
 | .int _,_=>tq
 | .bool,_=>Kl
 | .str,_=>NG
 | .raw,_=>tq (α:=Raw) (enc:=(·.1)) (h1:=(·.2))
 | .prod a b,h=>by
  have h:(a.sh&&b.sh)=true:=h
  rw[ai] at h
  exact RJ (cpy h.1) (cpy h.2)
 | .sl _ _,h=>by cases h
 | .fro _,_=>RI
 | .wr t,h=>cpy (t:=t) h
 | .tree _ _ _,h=>by cases h
 | .bag _,h=>by cases h
def dens:List Ty->Type
 | [] =>Unit
 | [t] =>t.den
 | t::u::ts=>t.den×dens (u::ts)
def jj:List Ty->Type
 | [] =>Unit
 | t::ts=>t.den×jj ts
def toH:(ts:List Ty)->dens ts->jj ts
 | [],_=>()
 | [_],d=>(d,())
 | _::u::ts,d=>(d.1,toH (u::ts) d.2)
def cur:List Ty->Type->Type
 | [],R=>R
 | t::ts,R=>t.den->cur ts R
def app {R:Type} :(ts:List Ty)->cur ts R->jj ts->R
 | [],f,_=>f
 | _::ts,f,d=>app ts (f d.1) d.2
def NT (J:Hp):(ts:List Ty)->List Value->jj ts->Prop
 | [],vs,_=>vs= []
 | t::ts,vs,d=> ∃v cs r,vs=v::r/\Lds t.isProd cs v/\t.rep.rd J cs d.1/\NT J ts r d.2
def ka (agg:Bool) (v:Value):List Value:=match agg with
 | true=>v.cells.toList
 | false=>[v]
def xh:(i:Nat)->(ts:List Ty)->jj ts->Value->List Ch
 | _,[],_,_=>[]
 | i,t::ts,d,v=>Ch.own t.rep (ka t.isProd (vg v [i])) d.1::xh (i+1) ts d.2 v
def resGv:(ts:List Ty)->jj ts->Value->List Ch
 | [t],d,v=>[Ch.own t.rep (ka t.isProd v) d.1]
 | ts,d,v=>xh 0 ts d v
def oN:Value->Bool
 | .agg _=>true
 | _=>false
def resFa:(ts:List Ty)->Value->Prop
 | [t],v=>oN v=t.isProd
 | ts,v=> ∃vs,v= .tuple vs/\vs.size=ts.length/\ ∀i t,ts[i]? =some t->oN (vs.getD i undef)=t.isProd
def FnOk (P:Program) (w0:World) (J:Hp) (v:Value) (ps rs:List Ty) (e:cur ps (Option (dens rs))):Prop:=
 ∃k first capt,v= .func (.func k) first capt/\Enters P k/\ ∀J',J.le J'-> ∀args d,NT J' ps args d-> ∀r,app ps e d=some r->Con P k (first.toList++args++capt.toList).toArray J' w0 [] (resFa rs) (resGv rs (toH rs r))
theorem FnOk.mono {P:Program} {w0:World} {J J':Hp} {v:Value} {ps rs:List Ty} {e:cur ps (Option (dens rs))} (h:FnOk P w0 J v ps rs e) (hJ:J.le J'):FnOk P w0 J' v ps rs e:=by
 have ⟨k,first,capt,h1,h2,h3⟩:=h
 exact ⟨k,first,capt,h1,h2,fun J2 h=>h3 J2 (hJ.trans h)⟩
theorem FnOk.one {P:Program} {w0:World} {J:Hp} {v:Value} {ps rs:List Ty} {e:cur ps (Option (dens rs))} (h:FnOk P w0 J v ps rs e):v.oneCell'=true:=by
 obtain ⟨k,first,capt,rfl,_⟩:=h;rfl
structure Hdr where
 id:Nat
 path:List Nat
def YK:List Nat->List Nat->Bool
 | [],[] =>true
 | a::l,b::m=>Nat.beq a b&&YK l m
 | _,_=>false
def Hdr.beq (a b:Hdr):Bool:=Nat.beq a.id b.id&&YK a.path b.path
theorem NU: ∀ {l m:List Nat},YK l m=true->l=m
 | [],[],_=>rfl
 | a::l,b::m,h=>by
  have h:(Nat.beq a b&&YK l m)=true:=h
  rw[ai] at h
  rw[al h.1,NU h.2]
 | [],_::_,h=>by cases h
 | _::_,[],h=>by cases h
theorem Hdr.beq_eq {a b:Hdr} (h:a.beq b=true):a=b:=by
 unfold Hdr.beq at h
 have ⟨i,p⟩:=a
 have ⟨j,q⟩:=b
 grind[al,NU]
inductive LV
 | val (v:Value)
 | nb (b:Bool)
 | rd (h:Hdr) (t:Ty) (d:t.den)
 | own (h:Hdr)
 | ptr (h:Hdr) (off:Nat)
 | fn (h:Hdr) (ps rs:List Ty) (e:cur ps (Option (dens rs)))
 | fz (h:Hdr) (T:TypeId) (t:Ty) (d:t.den) (off:Nat)
 | fzf (h:Hdr) (T:TypeId) (ps rs:List Ty) (e:cur ps (Option (dens rs)))
 | rdn (h:Hdr) (b:Bool) (t:Ty) (d:t.den)
inductive MK
 | int | ii
def MK.den:MK->Type
 | .int=>Int
 | .ii=>Int×Int
def MK.dec:(k:MK)->DecidableEq k.den
 | .int=>(inferInstance:DecidableEq Int)
 | .ii=>(inferInstance:DecidableEq (Int×Int))
def MK.lit:(k:MK)->k.den->Lit
 | .int=>WC
 | .ii=>abc
def MK.ok:(k:MK)->k.den->Bool
 | .int=>iOk
 | .ii=>ac0
def MK.val:(k:MK)->k.den->Value
 | .int=>fun n:Int=>.int .i64 n
 | .ii=>fun x:Int×Int=>.agg #[.int .i64 x.1,.int .i64 x.2]
inductive ME
 | int | bool
def ME.den:ME->Type
 | .int=>Int
 | .bool=>Bool
def ME.lit:(e:ME)->e.den->Lit
 | .int=>WC
 | .bool=>acZ
def ME.ok:(e:ME)->e.den->Bool
 | .int=>iOk
 | .bool=>bOk
def ME.z:(e:ME)->e.den
 | .int=>(0:Int)
 | .bool=>false
def ME.val:(e:ME)->e.den->Value
 | .int=>fun n:Int=>.int .i64 n
 | .bool=>fun b:Bool=>.bool b
inductive AV
 | one (x:LV)
 | agg (xs:List LV)
 | tup (ys:List (Bool×List LV))
 | elr (h:Hdr) (E:TypeId) (t:Ty) (xs:List t.den) (x:t.den) (i:Int) (off:Nat)
 | elo (h:Hdr) (ver:Nat) (E:TypeId) (t:Ty) (xs:List t.den) (x:t.den) (i:Int) (off:Nat)
 | sub (h:Hdr) (ver:Nat) (E:TypeId) (t:Ty) (xs:List t.den) (l:Int)
 | pre (h:Hdr) (ver:Nat) (E:TypeId) (t:Ty) (xs:List t.den) (l:Int)
 | vw (u h:Hdr) (k n:Nat) (l m:Int)
 | xv (top:Bool) (u h:Hdr) (k n:Nat) (l m:Int)
 | capv (h:Hdr) (c:Nat)
 | any (h:Hdr)
 | und
inductive Chk
 | own (t:Ty) (d:t.den)
 | blk (T:TypeId) (cells:List LV)
 | hole (over:Nat) (t:Ty) (d:t.den) (u:Ty) (y:u.den) (f:u.den->t.den) (i:Int) (k off:Nat) (lv:LV)
 | box (T:TypeId) (t:Ty) (d:t.den)
 | map (K E:TypeId) (k:MK) (e:ME) (m:List (k.den×e.den))
 | clo (k:FuncId) (first:List (Bool×List LV)) (capt:List LV)
abbrev Ent:=Hdr×Nat×Chk
structure Sg where
 env:List (Nat×Nat×AV)
 chs:List Ent
 nxt:Nat
def Ch.gap {α β:Type} (R:Rep α) (cs:List Value) (S:Rep β) (f:β->α) (b off:Nat) (v:Value):Ch where
 holds I w K:=b∈K/\(∃cur E,w.heap[b]? =some (.cells cur E (0,0))/\cur[off]? =some v)/\(∀x,x∈K->x<w.heap.size) /\
  ∀J w' v' y G,I.le J->(∀x,x∈K->x≠b->w'.heap[x]? =w.heap[x]?)->(∀cur E,w.heap[b]? =some (.cells cur E (0,0))->w'.heap[b]? =some (.cells (cur.setIfInBounds off v') E (0,0)))->S.own J w' [v'] y G-> ∃F,F.Perm (G++K)/\R.own J w' cs (f y) F
 mono:=by
  rintro I J w K ⟨h1,h2,h3,h4⟩ hJ
  exact ⟨h1,h2,h3,fun J' w' v' y G hJ'=>h4 J' w' v' y G (hJ.trans hJ')⟩
 stay:=by
  rintro I w w' K ⟨h1,⟨cur,E,h2,h2'⟩,h3,h4⟩ hw
  have hb:w'.heap[b]? =some (.cells cur E (0,0)):=by rw[hw b h1];exact h2
  refine ⟨h1,⟨cur,E,hb,h2'⟩,fun x hx=>?_,fun J w'' v' y G hJ k1 k2=>h4 J w'' v' y G hJ (fun x hx hne=>by rw[k1 x hx hne,hw x hx]) fun cur' E' hc=>k2 cur' E' (by rw[hw b h1];exact hc)⟩
  have hlt:=h3 x hx
  have:w.heap[x]? =some w.heap[x]:=Array.getElem?_eq_getElem hlt
  rw[<-hw x hx] at this
  exact (Array.getElem?_eq_some_iff.1 this).1
 live:=fun h=>h.2.2.1
def Ch.box {α:Type} (b:Nat) (T:TypeId) (R:Rep α) (d:α):Ch where
 holds I w F:= ∃(cells:List Value) (G:List Nat),F=b::G/\w.heap[b]? =some (.cells cells.toArray T (0,0))/\R.own I w cells d G
 mono:=by
  rintro I J w F ⟨cells,G,rfl,h1,h2⟩ hJ
  exact ⟨cells,G,rfl,h1,R.own_mono h2 hJ⟩
 stay:=by
  rintro I w w' F ⟨cells,G,rfl,h1,h2⟩ hw
  exact ⟨cells,G,rfl,by rw[hw b (by simp)];exact h1,R.own_stay h2 fun c hc=>hw c (by simp[hc])⟩
 live:=by
  rintro I w F ⟨cells,G,rfl,h1,h2⟩ c hc
  rcases ax hc with rfl | hc
  ·exact (Array.getElem?_eq_some_iff.1 h1).1
  ·exact R.own_live h2 c hc
def Ch.emp:Ch where
 holds I w F:=F= []
 mono h _:=h
 stay h _:=h
 live:=by rintro I w F rfl b hb;cases hb
theorem St.emp {I:Hp} {w0 w:World} {C:List Ch} :St I w0 w (Ch.emp::C)↔St I w0 w C:=by
 constructor
 ·rintro ⟨h1,h2,F,⟨G,K,rfl,rfl,e⟩,h4,h5⟩
  exact ⟨h1,h2,K,e,h4,h5⟩
 ·rintro ⟨h1,h2,F,e,h4,h5⟩
  exact ⟨h1,h2,F,⟨[],F,rfl,rfl,e⟩,h4,h5⟩
theorem St.box {I:Hp} {w0 w:World} {C:List Ch} {α:Type} {b:Nat} {T:TypeId} {R:Rep α} {d:α} :St I w0 w (Ch.box b T R d::C)↔ ∃cells,St I w0 w (Ch.blk b cells T::Ch.own R cells d::C):=by
 constructor
 ·rintro ⟨h1,h2,F,⟨G,K,rfl,⟨cells,G',rfl,k1,k2⟩,e⟩,h4,h5⟩
  exact ⟨cells,h1,h2,b::(G'++K),⟨[b],G'++K,rfl,⟨rfl,k1⟩,G',K,rfl,k2,e⟩,h4,h5⟩
 ·rintro ⟨cells,h1,h2,F,⟨G,K,rfl,⟨rfl,k1⟩,G',K',rfl,k2,e⟩,h4,h5⟩
  exact ⟨h1,h2,b::(G'++K'),⟨b::G',K',rfl,⟨cells,G',rfl,k1,k2⟩,e⟩,h4,h5⟩
abbrev Th:=Nat->Value
def hv (θ:Th) (h:Hdr):Value:=vg (θ h.id) h.path
def LV.v (θ:Th):LV->Value
 | .val v=>v
 | .nb b=>.bool (!b)
 | .rd h _ _=>hv θ h
 | .own h=>hv θ h
 | .ptr h off=>.pointer (some ⟨bk (hv θ h),off,none⟩)
 | .fn h _ _ _=>hv θ h
 | .fz h _ _ _ off=>.pointer (some ⟨bk (hv θ h),off,none⟩)
 | .fzf h _ _ _ _=>.pointer (some ⟨bk (hv θ h),0,none⟩)
 | .rdn h _ _ _=>hv θ h
def kt (θ:Th) (y:Bool×List LV):Value:=if y.1 then .agg (y.2.map (·.v θ)).toArray else match y.2 with
 | x::_=>x.v θ
 | [] =>undef
def AV.v (θ:Th):AV->Value
 | .one x=>x.v θ
 | .agg xs=>.agg (xs.map (·.v θ)).toArray
 | .tup ys=>.tuple (ys.map (kt θ)).toArray
 | .elr h _ t _ _ i off=>pt (hv θ h) (i.toNat*t.size+off)
 | .elo h _ _ t _ _ i off=>pt (hv θ h) (i.toNat*t.size+off)
 | .sub h _ _ t xs l=>rf (hv θ h) l.toNat xs.length t.size
 | .pre h _ _ t xs l=>rf (hv θ h) 0 l.toNat t.size
 | .vw u _ _ _ _ _=>hv θ u
 | .xv _ u _ _ _ _ _=>hv θ u
 | .capv _ c=>.int .i64 c
 | .any h=>hv θ h
 | .und=>undef
def Vw (u v:Value) (k n:Nat) (l m:Int):Prop:=(v= .slice none 0 0/\u= .slice none 0 0/\n=0/\l=0/\m=0) \/
 ∃g ofs cap x,v= .slice (some ⟨g,ofs,none⟩) n cap/\u= .slice (some ⟨g,ofs+x,none⟩) (m.toNat - l.toNat) (cap - l.toNat)/\0<=l/\l<=m/\n<=cap/\m<=(cap:Int)/\x<=l.toNat*k/\(cap=l.toNat\/x=l.toNat*k)
def ac1:Value->Nat
 | .slice _ _ c=>c
 | _=>0
def Gk:Value->Bool
 | .slice none _ _=>true
 | _=>false
def LV.ok (P:Program) (w0:World) (J:Hp) (θ:Th) (n:Nat):LV->Prop
 | .val v=>v.oneCell'=true
 | .nb _=>True
 | .rd h t d=>h.id<n/\t.rep.rd J [hv θ h] d
 | .own h=>h.id<n/\(hv θ h).oneCell'=true
 | .ptr h _=>h.id<n
 | .fn h ps rs e=>h.id<n/\FnOk P w0 J (hv θ h) ps rs e
 | .fz h T t d _=>h.id<n/\ ∃cells:List Value,J (bk (hv θ h))=some (.cells cells.toArray T (0,0))/\t.rep.rd J cells d
 | .fzf h T ps rs e=>h.id<n/\ ∃u:Value,J (bk (hv θ h))=some (.cells [u].toArray T (0,0))/\FnOk P w0 J u ps rs e
 | .rdn h b t d=>h.id<n/\t.rep.rd J [hv θ h] d/\Gk (hv θ h)=b
def SaysH (x:Chk) (ver:Nat) (c:Chk):Prop:=match x with
 | .hole over t d _ _ _ _ _ _ _=>over=ver/\c= .own t d
 | _=>False
def Says (e:Ent) (h:Hdr) (ver:Nat) (c:Chk):Prop:=e.1=h/\((e.2.1=ver/\c=e.2.2)\/SaysH e.2.2 ver c)
def Mem (chs:List Ent) (n:Nat) (h:Hdr) (ver:Nat) (c:Chk):Prop:=ver<n/\ ∀e,e∈chs-> ∀c',Says e h ver c'->c'=c
def AV.ok (P:Program) (w0:World) (J:Hp) (θ:Th) (n:Nat) (chs:List Ent):AV->Prop
 | .one x=>x.ok P w0 J θ n
 | .agg xs=> ∀x∈xs,x.ok P w0 J θ n
 | .tup ys=> ∀y∈ys,∀x∈y.2,x.ok P w0 J θ n
 | .elr h E t xs x i _=>h.id<n/\aG xs i=some x/\(Ty.sl E t).rep.rd J [hv θ h] xs
 | .elo h ver E t xs x i _=>h.id<n/\aG xs i=some x/\Mem chs n h ver (.own (.sl E t) xs)
 | .sub h ver E t xs l=>h.id<n/\(0<=l/\l<=(xs.length:Int))/\Mem chs n h ver (.own (.sl E t) xs)
 | .pre h ver E t xs l=>h.id<n/\(0<=l/\l<=(xs.length:Int))/\Mem chs n h ver (.own (.sl E t) xs)
 | .vw u h k N l m=>u.id<n/\h.id<n/\Vw (hv θ u) (hv θ h) k N l m/\m<=(N:Int)
 | .xv top u h k N l m=>u.id<n/\h.id<n/\Vw (hv θ u) (hv θ h) k N l m/\(top=true->l=0)
 | .capv h c=>h.id<n/\ac1 (hv θ h)=c
 | .any h=>h.id<n
 | .und=>True
def toCh (P:Program) (θ:Th) (e:Ent):Ch:=match e.2.2 with
 | .own t d=>Ch.own t.rep [hv θ e.1] d
 | .blk T cells=>Ch.blk (bk (hv θ e.1)) (cells.map (·.v θ)) T
 | .hole _ t _ u _ f i k off lv=>Ch.gap t.rep [hv θ e.1] u.rep f (ptB (hv θ e.1)) (ptO (hv θ e.1)+(i.toNat*k+off)) (lv.v θ)
 | .box T t d=>Ch.box (bk (hv θ e.1)) T t.rep d
 | .map K E k m md=> @Ch.mp P K E k.den m.den k.dec k.lit k.ok m.lit m.z (hv θ e.1) md
 | .clo _ _ _=>Ch.emp
def okE (P:Program) (w0:World) (J:Hp) (θ:Th) (n:Nat) (chs:List Ent) (e:Ent):Prop:=e.1.id<n/\e.2.1<n/\match e.2.2 with
 | .own _ _=>True
 | .blk _ cells=> ∀x∈cells,x.ok P w0 J θ n
 | .hole over t d u y f _ _ _ lv=>lv.ok P w0 J θ n/\over<e.2.1/\f y=d/\ ∀l,lv= .own l->Mem chs n l e.2.1 (.own u y)
 | .box _ _ _=>True
 | .map _ _ _ _ _=>True
 | .clo k first capt=>(∀y∈first,∀x∈y.2,x.ok P w0 J θ n)/\(∀x∈capt,x.ok P w0 J θ n)/\hv θ e.1= .func (.func k) (first.map (kt θ)).toArray (capt.map (·.v θ)).toArray
def envL (θ:Th) (s:Sg):List (Nat×Value):=s.env.map fun e=>(e.1,e.2.2.v θ)
structure Fine (P:Program) (w0:World) (J:Hp) (θ:Th) (s:Sg):Prop where
 env: ∀e∈s.env,e.2.2.ok P w0 J θ s.nxt s.chs
 ver: ∀e∈s.env,e.2.1<s.nxt
 nd:s.env.Pairwise fun a b=>a.2.1≠b.2.1
 chs: ∀e∈s.chs,okE P w0 J θ s.nxt s.chs e
 lay:Lay P J
structure Sim (P:Program) (I:Hp) (w0:World) (F:Ch) (n:Nat) (J:Hp) (θ:Th) (s:Sg) (a:Act) (w:World):Prop where
 le:I.le J
 agr:Agr n a (envL θ s)
 st:St J w0 w (s.chs.map (toCh P θ)++ [F])
 fine:Fine P w0 J θ s
section
variable {P:Program} {w0:World} {J J':Hp} {θ θ':Th} {n m:Nat} {v:Value} {chs chs':List Ent}
theorem LV.one {x:LV} (h:x.ok P w0 J θ n):(x.v θ).oneCell'=true:=by
 cases x with
 | val v=>exact h
 | nb b=>rfl
 | rd h' t d=>exact Rep.rd_one _ h.2 _ (by simp[LV.v])
 | own h'=>exact h.2
 | ptr h' off=>rfl
 | fn h' ps rs e=>exact h.2.one
 | fz _ _ _ _ _=>rfl
 | fzf _ _ _ _ _=>rfl
 | rdn h' b t d=>exact Rep.rd_one _ h.2.1 _ (by simp[LV.v])
theorem Ao {v:Value} (h:v.oneCell'=true):v.cells= [v].toArray:=by cases v <;> first | rfl | cases h
def Same (n:Nat) (θ θ':Th):Prop:= ∀i,i<n->θ' i=θ i
theorem Same.upd:Same n θ (upd θ n v):=fun i hi=>Kf (by omega)
theorem Same.rfl:Same n θ θ:=fun i hi=>Eq.refl _
theorem Same.trans {θ'':Th} (h:Same n θ θ') (k:Same m θ' θ'') (hm:n<=m):Same n θ θ'':=fun i hi=>(k i (by omega)).trans (h i hi)
theorem aX (hs:Same n θ θ') {h:Hdr} (hn:h.id<n):hv θ' h=hv θ h:=by unfold hv;rw[hs _ hn]
theorem LV.v_same (hs:Same n θ θ') {x:LV} (h:x.ok P w0 J θ n):x.v θ'=x.v θ:=by
 cases x with
 | val _=>rfl
 | nb _=>rfl
 | rd h' t d=>exact aX hs h.1
 | own h'=>exact aX hs h.1
 | ptr h' off=>show Value.pointer (some ⟨bk (hv θ' h'),off,none⟩)=_;rw[aX hs h];rfl
 | fn h' ps rs e=>exact aX hs h.1
 | fz h' T t d off=>show Value.pointer (some ⟨bk (hv θ' h'),off,none⟩)=_;rw[aX hs h.1];rfl
 | fzf h' T ps rs e=>show Value.pointer (some ⟨bk (hv θ' h'),0,none⟩)=_;rw[aX hs h.1];rfl
 | rdn h' b t d=>exact aX hs h.1
theorem LV.ok_same (hs:Same n θ θ') (hm:n<=m) {x:LV} (h:x.ok P w0 J θ n) (hJ:J.le J'):x.ok P w0 J' θ' m:=by
 cases x with
 | val _=>exact h
 | nb _=>trivial
 | rd h' t d=>exact ⟨ay h.1 hm,by rw[aX hs h.1];exact Rep.rd_mono _ h.2 hJ⟩
 | own h'=>exact ⟨ay h.1 hm,by rw[aX hs h.1];exact h.2⟩
 | ptr h' off=>exact ay h hm
 | fn h' ps rs e=>exact ⟨ay h.1 hm,by rw[aX hs h.1];exact h.2.mono hJ⟩
 | fz h' T t d off =>
  have ⟨h1,cells,h2,h3⟩:=h
  exact ⟨ay h1 hm,cells,by rw[aX hs h1];exact hJ _ _ h2,Rep.rd_mono _ h3 hJ⟩
 | fzf h' T ps rs e =>
  have ⟨h1,u,h2,h3⟩:=h
  exact ⟨ay h1 hm,u,by rw[aX hs h1];exact hJ _ _ h2,h3.mono hJ⟩
 | rdn h' b t d=>exact ⟨ay h.1 hm,by rw[aX hs h.1];exact ⟨Rep.rd_mono _ h.2.1 hJ,h.2.2⟩⟩
theorem kc (hs:Same n θ θ') {xs:List LV} (h: ∀x∈xs,x.ok P w0 J θ n):xs.map (·.v θ')=xs.map (·.v θ):=List.map_congr_left fun x hx=>LV.v_same hs (h x hx)
theorem xi (hs:Same n θ θ') {y:Bool×List LV} (hy: ∀x∈y.2,x.ok P w0 J θ n):kt θ' y=kt θ y:=by
 unfold kt
 rw[kc hs hy]
 split
 ·rfl
 ·cases hl:y.2 with
  | nil=>rfl
  | cons x l=>exact LV.v_same hs (hy x (by grind))
theorem AV.v_same (hs:Same n θ θ') {x:AV} (h:x.ok P w0 J θ n chs):x.v θ'=x.v θ:=by
 cases x with
 | one x=>exact LV.v_same hs h
 | agg xs=>show Value.agg _=Value.agg _;rw[kc hs h]
 | tup ys =>
  show Value.tuple _=Value.tuple _
  congr 2
  refine List.map_congr_left fun y hy=>?_
  exact xi hs (h y hy)
 | elr h' E t xs x i off=>show pt (hv θ' h') _=_;rw[aX hs h.1];rfl
 | elo h' ver E t xs x i off=>show pt (hv θ' h') _=_;rw[aX hs h.1];rfl
 | sub h' ver E t xs l=>show rf (hv θ' h') _ _ _=_;rw[aX hs h.1];rfl
 | pre h' ver E t xs l=>show rf (hv θ' h') _ _ _=_;rw[aX hs h.1];rfl
 | vw u h' k N l m=>exact aX hs h.1
 | xv top u h' k N l m=>exact aX hs h.1
 | capv h' c=>rfl
 | any h'=>exact aX hs h
 | und=>rfl
def Newer (n:Nat) (chs chs':List Ent):Prop:= ∀e,e∈chs'-> ∀h ver c,Says e h ver c->n<=ver\/ ∃e0,e0∈chs/\Says e0 h ver c
theorem Newer.rfl:Newer n chs chs:=fun e he h ver c hs=>.inr ⟨e,he,hs⟩
theorem Mem.newer (hc:Newer n chs chs') (hm:n<=m) {h:Hdr} {ver:Nat} {c:Chk} (k:Mem chs n h ver c):Mem chs' m h ver c:=
 ⟨ay k.1 hm,fun e he c' hs=>by
  rcases hc e he h ver c' hs with h1 | ⟨e0,h0,h1⟩
  ·have:=k.1;omega
  ·exact k.2 e0 h0 c' h1⟩
theorem AV.ok_same (hs:Same n θ θ') (hm:n<=m) (hc:Newer n chs chs') {x:AV} (h:x.ok P w0 J θ n chs) (hJ:J.le J'):x.ok P w0 J' θ' m chs':=by
 cases x with
 | one x=>exact LV.ok_same hs hm h hJ
 | agg xs=>exact fun x hx=>LV.ok_same hs hm (h x hx) hJ
 | tup ys=>exact fun y hy x hx=>LV.ok_same hs hm (h y hy x hx) hJ
 | elr h' E t xs x i off=>exact ⟨ay h.1 hm,h.2.1,by rw[aX hs h.1];exact Rep.rd_mono _ h.2.2 hJ⟩
 | elo h' ver E t xs x i off=>exact ⟨ay h.1 hm,h.2.1,h.2.2.newer hc hm⟩
 | sub h' ver E t xs l=>exact ⟨ay h.1 hm,h.2.1,h.2.2.newer hc hm⟩
 | pre h' ver E t xs l=>exact ⟨ay h.1 hm,h.2.1,h.2.2.newer hc hm⟩
 | vw u h' k N l m=>exact ⟨ay h.1 hm,ay h.2.1 hm,by rw[aX hs h.1,aX hs h.2.1];exact h.2.2⟩
 | xv top u h' k N l m=>exact ⟨ay h.1 hm,ay h.2.1 hm,by rw[aX hs h.1,aX hs h.2.1];exact h.2.2⟩
 | capv h' c=>exact ⟨ay h.1 hm,by rw[aX hs h.1];exact h.2⟩
 | any h'=>exact ay h hm
 | und=>trivial
theorem nT (hs:Same n θ θ') {e:Ent} (h:okE P w0 J θ n chs e):toCh P θ' e=toCh P θ e:=by
 have ⟨k,ver,c⟩:=e
 cases c with
 | own t d=>show Ch.own _ [hv θ' k] d=_;rw[aX hs h.1];rfl
 | blk T cells=>show Ch.blk (bk (hv θ' k)) (cells.map (·.v θ')) T=_;rw[aX hs h.1,kc hs h.2.2];rfl
 | hole over t d u y f i kk off lv=>show Ch.gap _ [hv θ' k] _ f (ptB (hv θ' k)) (ptO (hv θ' k)+(i.toNat*kk+off)) (lv.v θ')=_;rw[aX hs h.1,LV.v_same hs h.2.2.1];rfl
 | box T t d=>show Ch.box (bk (hv θ' k)) T _ d=_;rw[aX hs h.1];rfl
 | map K E kk e m=>show @Ch.mp P K E kk.den e.den kk.dec kk.lit kk.ok e.lit e.z (hv θ' k) m=_;rw[aX hs h.1];rfl
 | clo _ _ _=>rfl
theorem eL (hs:Same n θ θ') (hm:n<=m) (hc:Newer n chs chs') {e:Ent} (h:okE P w0 J θ n chs e) (hJ:J.le J'):okE P w0 J' θ' m chs' e:=by
 have ⟨k,ver,c⟩:=e
 cases c with
 | own t d=>exact ⟨ay h.1 hm,ay h.2.1 hm,trivial⟩
 | blk T cells=>exact ⟨ay h.1 hm,ay h.2.1 hm,fun x hx=>LV.ok_same hs hm (h.2.2 x hx) hJ⟩
 | hole over t d u y f i kk off lv=>exact ⟨ay h.1 hm,ay h.2.1 hm,LV.ok_same hs hm h.2.2.1 hJ,h.2.2.2.1,h.2.2.2.2.1,fun l hl=>(h.2.2.2.2.2 l hl).newer hc hm⟩
 | box T t d=>exact ⟨ay h.1 hm,ay h.2.1 hm,trivial⟩
 | map K E kk e m=>exact ⟨ay h.1 hm,ay h.2.1 hm,trivial⟩
 | clo f first capt =>
  have ⟨h1,h2,h3,h4,h5⟩:=h
  refine ⟨ay h1 hm,ay h2 hm,fun y hy x hx=>LV.ok_same hs hm (h3 y hy x hx) hJ,fun x hx=>LV.ok_same hs hm (h4 x hx) hJ,?_⟩
  rw[aX hs h1,kc hs h4,List.map_congr_left fun y hy=>xi hs (h3 y hy)]
  exact h5
theorem fW (hs:Same n θ θ') {l:List Ent} (h: ∀e∈l,okE P w0 J θ n chs e):l.map (toCh P θ')=l.map (toCh P θ):=List.map_congr_left fun e he=>nT hs (h e he)
theorem vO (hs:Same n θ θ') {s:Sg} (h: ∀e∈s.env,e.2.2.ok P w0 J θ n chs):envL θ' s=envL θ s:=List.map_congr_left fun e he=>by grind[AV.v_same]
end
def look (l:List (Nat×Nat×AV)) (t:Nat):Option AV:=match l with
 | [] =>none
 | (u,_,v)::l=>if Nat.beq u t then some v else look l t
def Iy (v:Value):Option AV:=match v.oneCell' with
 | true=>some (.one (.val v))
 | false=>none
def opd (s:Sg):Operand->Option AV
 | .tmp t=>look s.env t
 | .const v=>Iy v
 | .func f=>some (.one (.val (.func (.func f) #[] #[])))
 | .global _=>none
theorem tv {t:Nat} {v:AV} : ∀ {l:List (Nat×Nat×AV)},look l t=some v-> ∃e∈l,e.2.2=v
 | (u,k,x)::l,h=>by
  unfold look at h
  split at h
  ·simp_all
  ·have ⟨e,he,e'⟩:=tv h
   grind
theorem gz {θ:Th} {t:Nat} {v:AV} : ∀ {l:List (Nat×Nat×AV)},look l t=some v->(l.map fun e=>(e.1,e.2.2.v θ)).lookup t=some (v.v θ)
 | (u,k,x)::l,h=>by
  unfold look at h
  rw[List.map_cons,List.lookup_cons]
  split at h
  ·simp_all
  ·rename_i hu
   have hne:(t==u)=false:=by
    simp[beq_eq_false_iff_ne];intro e;subst e;exact hu (Nat.beq_refl t)
   rw[show (t==(u,x.v θ).1)=false from hne]
   exact gz h
section
variable {P:Program} {w0:World} {J:Hp} {θ:Th} {s:Sg} {x:Operand} {v:AV}
theorem C4 {c:Value} (h:Iy c=some v):c.oneCell'=true/\v= .one (.val c):=by
 grind[Iy,ad]
theorem bA (hf:Fine P w0 J θ s) (h:opd s x=some v):v.ok P w0 J θ s.nxt s.chs:=by
 cases x with
 | tmp t=>obtain ⟨e,he,rfl⟩:=tv h;exact hf.env e he
 | const c=>obtain ⟨h1,rfl⟩:=C4 h;exact h1
 | func f=>rw[<-ad h];rfl
 | global g=>cases h
theorem aB (h:opd s x=some v):evL (envL θ s) x=v.v θ:=by
 cases x with
 | tmp t =>
  have:=gz (θ:=θ) h
  show ((envL θ s).lookup t).getD undef=_
  grind[envL]
 | const c=>obtain ⟨h1,rfl⟩:=C4 h;rfl
 | func f=>rw[<-ad h];rfl
 | global g=>cases h
def okO (n:Nat) (s:Sg) (o:Oper):Bool:=o.op.operands.toList.all (fun x=>(opd s x).isSome || match x with | .global _=>true | _=>false)&&dstOk n o.dst&&noSelect o
theorem UZ {n:Nat} {o:Oper} (h:okO n s o=true):(D1 (envL θ s) o&&dstOk n o.dst&&noSelect o)=true:=by
 unfold okO at h
 rw[ai,ai] at h
 rw[ai,ai]
 refine ⟨⟨List.all_eq_true.2 fun x hx=>?_,h.1.2⟩,h.2⟩
 have hx:=List.all_eq_true.1 h.1.1 x hx
 cases x with
 | tmp t =>
  simp[Bool.or_false] at hx
  have ⟨v,hv⟩:=Option.isSome_iff_exists.1 hx
  have:=gz (θ:=θ) (show look s.env t=some v from hv)
  show ((envL θ s).lookup t).isSome=true
  grind[envL]
 | const c=>rfl
 | func f=>rfl
 | global g=>rfl
end
end R
end Go.Proofs.YtfkokkokjgjkgaaGreatDoor
