/- FnCompaction: for every input the law returns true and changes nothing that was there. Part 2 of 9. -/
import Derived.Test.YtphjdcoponilmaaGreatDoorRows
import Derived.WalkKit
import Derived.WalkSpells
import Derived.WalkLawsBesides
import Derived.ProofKit
import Derived.Orders
import Derived.Deep.MidRow
import Derived.Maps.AppendAt
import Derived.OwnWalk
import Derived.Great.BuildSlice
import Derived.Shelf.Abstract
import Derived.Laws.StructEq
import Derived.Lib.SliceRun
import Derived.Maps.OwnSet
import Derived.DeepKeys4
import Derived.Laws.CopyRow
import Derived.Lib.LaidTab
import Derived.Lib.ItoaNum
import Derived.Lib.AppendZeros
import Derived.Lib.Overlaps
import Derived.Laws.AppendOwn
import Derived.Shelf.SlSortCmp.NoneTotal
import Derived.Lib.SortBridge
import Derived.Test.YtphjdcoponilmaaGreatDoorProg
import Derived.Shelf.Sort.Plain
import Derived.Shelf.Slices.In.SortNone
import Derived.Shelf.Strings.OnBuilder
import Derived.Shelf.Strconv.Itoa3
import Derived.Sort.Grow
import Derived.Shelf.Strings.Split
import Derived.Shelf.Strings.Cut
import Derived.Shelf.Small.Strs
import Derived.Shelf.Strconv.Atoi
import Derived.Shelf.Strconv.ErrVar
import Derived.Lib.AtoiBound
import Derived.Shelf.LaysM
import Derived.Shelf.LaysC
import Derived.Deep.Slices
import Derived.Lib.ItoaLen
import Derived.Lib.Join
import Derived.Lib.Atoi
import Derived.Lib.Split
import Derived.Test.YtphjdcoponilmaaGreatDoorCards
import Derived.Test.YtphjdcoponilmaaGreatDoorTie
import Derived.LaidMore
import Derived.OpenShut
import Derived.Stop.Joined
import Derived.SevenTiedAt
import Derived.Stop.LaidErr
import Derived.SizedLaws
import Derived.Lay
set_option synthInstance.maxSize 20000
set_option synthInstance.maxHeartbeats 2000000
set_option linter.unusedVariables false
set_option linter.unusedSimpArgs false
set_option linter.unnecessarySimpa false
set_option linter.unusedSectionVars false
set_option maxRecDepth 1000000
namespace Go.Proofs.YtphjdcoponilmaaGreatDoor
open Go.IntKind (i64)
theorem aa: ∀ {α:Type _} {β:Type _} (a:α) (f:α->Option β),(some a).bind f=f a:= @Option.bind_some
theorem ad: ∀ {α:Type _} {a b:α},some a=some b->a=b:= @Option.some.inj
theorem bB: ∀ {n m:Nat},n.ble m=true->n<=m:= @Nat.le_of_ble_eq_true
theorem ax: ∀ {n m:Nat},n.beq m=true->n=m:= @Nat.eq_of_beq_eq_true
theorem aH: ∀ {α:Type _} (x y z:List α),x++y++z=x++(y++z):= @List.append_assoc
theorem au: ∀ {α:Type _} {x y:List α},(x++y).length=x.length+y.length:= @List.length_append
theorem aw: ∀ {α:Type _} {a:α} {x:List α},(a::x).length=x.length+1:= @List.length_cons
theorem aq: ∀ {α:Type _} {a b:α},a ∈ [b] ->a=b:=fun h=>List.mem_singleton.1 h
theorem aB: ∀ {α:Type _} {b:α} {l:List α} {a:α},a∈b::l->a=b\/a∈l:=fun h=>List.mem_cons.1 h
theorem aI: ∀ {α:Type _} {a:α} {s t:List α},a∈s++t->a∈s\/a∈t:=fun h=>List.mem_append.1 h
theorem aj: ∀(a b:Bool),((a&&b)=true)=(a=true/\b=true):= @Bool.and_eq_true
theorem aJ: ∀(n:Nat),n<n.succ:= @Nat.lt_succ_self
theorem az: ∀ {α:Type _} {i:Nat} {l:List α},(List.take i l).length=min i l.length:= @List.length_take
theorem bq: ∀ {α:Type _} {i:Nat} {l:List α},(List.drop i l).length=l.length - i:= @List.length_drop
theorem aG: ∀ {n m k:Nat},n<m->m<=k->n<k:= @Nat.lt_of_lt_of_le
theorem ay: ∀(n:Nat),n<=n:= @Nat.le_refl
theorem br: ∀ {α:Type _} (y:α) {a:α} {l:List α},a∈l->a∈y::l:= @List.mem_cons_of_mem
theorem bj: ∀ {α:Type _} {a:α} {x:List α} (y:List α),a∈x->a∈x++y:= @List.mem_append_left
theorem bt: ∀ {α:Type _} {b:α} (x:List α) {y:List α},b∈y->b∈x++y:= @List.mem_append_right
theorem aD: ∀ {α:Type _},([] :List α).length=0:= @List.length_nil
theorem aX: ∀ {α:Type _} {β:Type _} {f:α->β} {l₁ l₂:List α},List.map f (l₁++l₂)=List.map f l₁++List.map f l₂:= @List.map_append
theorem be: ∀ {n m:Nat},n<m->n<m.succ:= @Nat.lt_succ_of_lt
namespace D
open Go.RowKit
def lim:Nat:=9223372036854775807
def Hp:=Nat->Option Obj
def Hp.le (I J:Hp):Prop:= ∀b o,I b=some o->J b=some o
def hp (w:World):Hp:=fun b=>w.heap[b]?
theorem Hp.le.rfl {I:Hp} :I.le I:=fun _ _ h=>h
theorem Hp.le.trans {I J K:Hp} (h:I.le J) (k:J.le K):I.le K:=fun b o e=>k b o (h b o e)
structure Rep (α:Type) where
 size:Nat
 rd:Hp->List Value->α->Prop
 own:Hp->World->List Value->α->List Nat->Prop
 rd_len: ∀ {I cs a},rd I cs a->cs.length=size
 rd_one: ∀ {I cs a},rd I cs a-> ∀u∈cs,u.oneCell'=true
 rd_mono: ∀ {I J cs a},rd I cs a->I.le J->rd J cs a
 own_len: ∀ {I w cs a F},own I w cs a F->cs.length=size
 own_one: ∀ {I w cs a F},own I w cs a F-> ∀u∈cs,u.oneCell'=true
 own_mono: ∀ {I J w cs a F},own I w cs a F->I.le J->own J w cs a F
 own_stay: ∀ {I w w' cs a F},own I w cs a F->(∀b,b∈F->w'.heap[b]? =w.heap[b]?)->own I w' cs a F
 own_live: ∀ {I w cs a F},own I w cs a F-> ∀b,b∈F->b<w.heap.size
 own_rd: ∀ {I J w cs a F},own I w cs a F->I.le J->(∀b,b∈F->J b=w.heap[b]?)->rd J cs a
def mT (α:Type) (enc:α->Value) (h1: ∀a,(enc a).oneCell'=true):Rep α where
 size:=1
 rd _ cs a:=cs= [enc a]
 own _ _ cs a F:=F= [] /\cs= [enc a]
 rd_len h:=by rw[h];rfl
 rd_one h:=by rw[h];intro u hu;simp at hu;subst hu;exact h1 _
 rd_mono h _:=h
 own_len h:=by rw[h.2];rfl
 own_one h:=by rw[h.2];intro u hu;simp at hu;subst hu;exact h1 _
 own_mono h _:=h
 own_stay h _:=h
 own_live h:=by rw[h.1];intro b hb;cases hb
 own_rd h _ _:=h.2
def aeO:Rep Int:=mT Int (.int .i64) fun _=>rfl
def rU8:Rep Int:=mT Int (.int .u8) fun _=>rfl
def JX:Rep Bool:=mT Bool .bool fun _=>rfl
def Pb:Rep ByteArray:=mT ByteArray .string fun _=>rfl
def uq {α β:Type} (R:Rep α) (S:Rep β):Rep (α×β) where
 size:=R.size+S.size
 rd I cs x:= ∃c d,cs=c++d/\R.rd I c x.1/\S.rd I d x.2
 own I w cs x F:= ∃c d G K,cs=c++d/\F=G++K/\R.own I w c x.1 G/\S.own I w d x.2 K
 rd_len:=by
  rintro I cs x ⟨c,d,rfl,h1,h2⟩
  rw[au,R.rd_len h1,S.rd_len h2]
 rd_one:=by
  rintro I cs x ⟨c,d,rfl,h1,h2⟩ u hu
  rcases aI hu with h | h
  ·exact R.rd_one h1 u h
  ·exact S.rd_one h2 u h
 rd_mono:=by
  rintro I J cs x ⟨c,d,rfl,h1,h2⟩ h
  exact ⟨c,d,rfl,R.rd_mono h1 h,S.rd_mono h2 h⟩
 own_len:=by
  rintro I w cs x F ⟨c,d,G,K,rfl,rfl,h1,h2⟩
  rw[au,R.own_len h1,S.own_len h2]
 own_one:=by
  rintro I w cs x F ⟨c,d,G,K,rfl,rfl,h1,h2⟩ u hu
  rcases aI hu with h | h
  ·exact R.own_one h1 u h
  ·exact S.own_one h2 u h
 own_mono:=by
  rintro I J w cs x F ⟨c,d,G,K,rfl,rfl,h1,h2⟩ h
  exact ⟨c,d,G,K,rfl,rfl,R.own_mono h1 h,S.own_mono h2 h⟩
 own_stay:=by
  rintro I w w' cs x F ⟨c,d,G,K,rfl,rfl,h1,h2⟩ h
  exact ⟨c,d,G,K,rfl,rfl,R.own_stay h1 fun b hb=>h b (bj _ hb),S.own_stay h2 fun b hb=>h b (bt _ hb)⟩
 own_live:=by
  rintro I w cs x F ⟨c,d,G,K,rfl,rfl,h1,h2⟩ b hb
  rcases aI hb with h | h
  ·exact R.own_live h1 b h
  ·exact S.own_live h2 b h
 own_rd:=by
  rintro I J w cs x F ⟨c,d,G,K,rfl,rfl,h1,h2⟩ hJ h
  exact ⟨c,d,rfl,R.own_rd h1 hJ fun b hb=>h b (bj _ hb),S.own_rd h2 hJ fun b hb=>h b (bt _ hb)⟩
def Bx {α:Type} (R:Rep α):Rep α where
 size:=R.size
 rd:=R.rd
 own I _ cs a F:=F= [] /\R.rd I cs a
 rd_len:=R.rd_len
 rd_one:=R.rd_one
 rd_mono:=R.rd_mono
 own_len h:=R.rd_len h.2
 own_one h:=R.rd_one h.2
 own_mono h k:=⟨h.1,R.rd_mono h.2 k⟩
 own_stay h _:=h
 own_live h:=by rw[h.1];intro b hb;cases hb
 own_rd h k _:=R.rd_mono h.2 k
def OwnEls {α:Type} (R:Rep α) (I:Hp) (w:World):List Value->List α->List Nat->Prop
 | _,[],F=>F= []
 | cur,x::xs,F=> ∃c rest G K,cur=c++rest/\c.length=R.size/\F=G++K/\R.own I w c x G/\OwnEls R I w rest xs K
section
variable {α:Type} {R:Rep α} {I J:Hp}
theorem OwnEls.stay {w w':World} : ∀ {xs:List α} {cur F},OwnEls R I w cur xs F->(∀b,b∈F->w'.heap[b]? =w.heap[b]?)->OwnEls R I w' cur xs F
 | [],_,_,h,_=>h
 | x::xs,cur,F,⟨c,rest,G,K,h1,h2,h3,h4,h5⟩,h=>by
  subst h3;exact ⟨c,rest,G,K,h1,h2,rfl,R.own_stay h4 fun b a=>h b (bj _ a),h5.stay fun b a=>h b (bt _ a)⟩
theorem OwnEls.mono {w:World} : ∀ {xs:List α} {cur F},OwnEls R I w cur xs F->I.le J->OwnEls R J w cur xs F
 | [],_,_,h,_=>h
 | x::xs,cur,F,⟨c,rest,G,K,h1,h2,h3,h4,h5⟩,h=>⟨c,rest,G,K,h1,h2,h3,R.own_mono h4 h,h5.mono h⟩
theorem OwnEls.live {w:World} : ∀ {xs:List α} {cur F},OwnEls R I w cur xs F-> ∀b,b∈F->b<w.heap.size
 | [],_,_,h,b,hb=>by rw[show _= [] from h] at hb;cases hb
 | x::xs,cur,F,⟨c,rest,G,K,_,_,h3,h4,h5⟩,b,hb=>by
  subst h3;rcases aI hb with h | h
  ·exact R.own_live h4 b h
  ·exact h5.live b h
theorem OwnEls.at {w:World} : ∀ {xs:List α} {cur F},OwnEls R I w cur xs F->I.le J->(∀b,b∈F->J b=w.heap[b]?)-> ∀(i:Nat) x,xs[i]? =some x-> ∃c:List Value,c.length=R.size/\(∀j,j<R.size->cur[i*R.size+j]? =c[j]?)/\R.rd J c x
 | [],_,_,_,_,_,i,x,a=>by grind
 | y::xs,cur,F,⟨c,rest,G,K,h1,h2,h3,h4,h5⟩,hJ,hB,i,x,a=>by
  subst h3;match i,a with
  | 0,a =>
   simp at a;subst a;exact ⟨c,h2,fun j k=>by grind,R.own_rd h4 hJ fun b e=>hB b (bj _ e)⟩
  | i+1,a =>
   have ⟨d,f,g,h⟩:=h5.at hJ (fun b e=>hB b (bt _ e)) i x (by grind);grind
theorem OwnEls.rest {w:World} : ∀ {xs:List α} {cur cur' F},OwnEls R I w cur xs F->cur'.take (xs.length*R.size)=cur.take (xs.length*R.size)->OwnEls R I w cur' xs F
 | [],_,_,_,h,_=>h
 | y::xs,cur,cur',F,⟨c,rest,G,K,h1,h2,h3,h4,h5⟩,h=>by
  subst h1;rw[aw,Nat.add_mul,Nat.one_mul,Nat.add_comm] at h;rw[List.take_append,List.take_of_length_le (l:=c) (by omega),h2,Nat.add_sub_cancel_left] at h;have a:cur'.take R.size=c:=by
   have:=congrArg (List.take R.size) h
   rw[List.take_take,Nat.min_eq_left (by omega),<-h2,List.take_left,h2] at this;exact this
  refine ⟨c,cur'.drop R.size,G,K,?_,h2,h3,h4,h5.rest ?_⟩
  ·rw[<-a,List.take_append_drop]
  ·have:=congrArg (List.drop R.size) h
   grind
theorem OwnEls.join {w:World} : ∀ {xs ys:List α} {cur rest F G},OwnEls R I w cur xs F->cur.length=xs.length*R.size->OwnEls R I w rest ys G->OwnEls R I w (cur++rest) (xs++ys) (F++G)
 | [],ys,cur,rest,F,G,h,hl,k=>by
  have:cur= []:=List.eq_nil_of_length_eq_zero (by grind)
  subst this;rw[show F= [] from h];exact k
 | x::xs,ys,cur,rest,F,G,⟨c,r,G1,K,h1,h2,h3,h4,h5⟩,hl,k=>by
  subst h1;subst h3;refine ⟨c,r++rest,G1,K++G,by simp,h2,by simp,h4,h5.join ?_ k⟩;grind
theorem OwnEls.parts {w:World} : ∀ {xs ys:List α} {cur F},OwnEls R I w cur (xs++ys) F-> ∃G K,F=G++K/\OwnEls R I w cur xs G/\OwnEls R I w (cur.drop (xs.length*R.size)) ys K
 | [],ys,cur,F,h=>⟨[],F,rfl,rfl,by simp_all⟩
 | x::xs,ys,cur,F,⟨c,r,G1,K,h1,h2,h3,h4,h5⟩=>by
  have ⟨G,d,a,b,e⟩:=h5.parts;subst h1;subst h3;subst a;refine ⟨G1++G,d,by simp,⟨c,r,G1,G,rfl,h2,rfl,h4,b⟩,?_⟩;simp_all[aw,Nat.add_mul,Nat.one_mul,Nat.add_comm,List.drop_append,List.drop_of_length_le,Nat.add_sub_cancel_left]
end
def aA {α:Type} (E:TypeId) (R:Rep α):Rep (List α) where
 size:=1
 rd I cs xs:= ∃ao cap,cs= [.slice ao xs.length cap] /\(xs.length<=lim/\xs.length<=cap)/\(xs= [] \/ ∃b off ccs t fr,ao=some ⟨b,off,none⟩/\I b=some (.cells ccs t fr) /\
  ∀i x,xs[i]? =some x-> ∃c:List Value,c.length=R.size/\(∀j,j<R.size->ccs.toList[off+i*R.size+j]? =c[j]?)/\R.rd I c x)
 own I w cs xs F:=xs.length<=lim/\((cs= [.slice none 0 0] /\xs= [] /\F= []) \/
  ∃g ofs cap cur K,cs= [.slice (some ⟨g,ofs,none⟩) xs.length cap] /\w.heap[g]? =some (.cells cur E (0,0))/\xs.length<=cap/\cap<=maxLen/\ofs+cap*R.size<=cur.size/\F=g::K/\OwnEls R I w (cur.toList.drop ofs) xs K)
 rd_len:=by rintro I cs xs ⟨ao,cap,rfl,_⟩;rfl
 rd_one:=by rintro I cs xs ⟨ao,cap,rfl,_⟩ u hu;simp at hu;subst hu;rfl
 rd_mono:=by
  rintro I J cs xs ⟨ao,cap,rfl,hl,h⟩ hJ
  refine ⟨ao,cap,rfl,hl,?_⟩
  rcases h with h | ⟨b,off,ccs,t,fr,h1,h2,h4⟩
  ·exact .inl h
  ·exact .inr ⟨b,off,ccs,t,fr,h1,hJ _ _ h2,fun i x hx=>let ⟨c,e1,e2,e3⟩:=h4 i x hx; ⟨c,e1,e2,R.rd_mono e3 hJ⟩⟩
 own_len:=by
  rintro I w cs xs F ⟨hl,h⟩
  rcases h with ⟨rfl,_⟩ | ⟨g,ofs,cap,cur,K,rfl,_⟩ <;> rfl
 own_one:=by
  rintro I w cs xs F ⟨hl,h⟩ u hu
  rcases h with ⟨rfl,_⟩ | ⟨g,ofs,cap,cur,K,rfl,_⟩ <;> (simp at hu;subst hu;rfl)
 own_mono:=by
  rintro I J w cs xs F ⟨hl,h⟩ hJ
  refine ⟨hl,?_⟩
  rcases h with h | ⟨g,ofs,cap,cur,K,h1,h2,h3,h4,h5,h6,h7⟩
  ·exact .inl h
  ·exact .inr ⟨g,ofs,cap,cur,K,h1,h2,h3,h4,h5,h6,h7.mono hJ⟩
 own_stay:=by
  rintro I w w' cs xs F ⟨hl,h⟩ hw
  refine ⟨hl,?_⟩
  rcases h with h | ⟨g,ofs,cap,cur,K,h1,h2,h3,h4,h5,rfl,h6⟩
  ·exact .inl h
  ·exact .inr ⟨g,ofs,cap,cur,K,h1,by rw[hw g (by simp)];exact h2,h3,h4,h5,rfl,h6.stay fun b hb=>hw b (by simp[hb])⟩
 own_live:=by
  rintro I w cs xs F ⟨hl,h⟩ b hb
  rcases h with ⟨_,_,rfl⟩ | ⟨g,ofs,cap,cur,K,h1,h2,h3,h4,h5,rfl,h6⟩
  ·cases hb
  ·rcases aB hb with rfl | hb
   ·exact (Array.getElem?_eq_some_iff.1 h2).1
   ·exact h6.live b hb
 own_rd:=by
  rintro I J w cs xs F ⟨hl,h⟩ hJ hB
  rcases h with ⟨rfl,rfl,rfl⟩ | ⟨g,ofs,cap,cur,K,rfl,h2,h3,h4,h5,rfl,h6⟩
  ·exact ⟨none,0,rfl,by simp,.inl rfl⟩
  ·refine ⟨some ⟨g,ofs,none⟩,cap,rfl,⟨hl,h3⟩,.inr ⟨g,ofs,cur,E,(0,0),rfl,by rw[hB g (by simp)];exact h2,fun i x hx=>?_⟩⟩
   obtain ⟨c,e1,e2,e3⟩:=h6.at hJ (fun b hb=>hB b (by simp[hb])) i x hx
   exact ⟨c,e1,fun j hj=>by rw[Nat.add_assoc,<-List.getElem?_drop];exact e2 j hj,e3⟩
structure Ch where
 holds:Hp->World->List Nat->Prop
 mono: ∀ {I J w F},holds I w F->I.le J->holds J w F
 stay: ∀ {I w w' F},holds I w F->(∀b,b∈F->w'.heap[b]? =w.heap[b]?)->holds I w' F
 live: ∀ {I w F},holds I w F-> ∀b,b∈F->b<w.heap.size
def Ch.own {α:Type} (R:Rep α) (cs:List Value) (a:α):Ch:=⟨fun I w F=>R.own I w cs a F,fun h=>R.own_mono h,fun h=>R.own_stay h,fun h=>R.own_live h⟩
def Ch.blk (g:Nat) (cs:List Value) (E:TypeId):Ch:=
 ⟨fun _ w F=>F= [g] /\w.heap[g]? =some (.cells cs.toArray E (0,0)),fun h _=>h,fun h hw=>⟨h.1,by rw[hw g (by rw[h.1];simp)];exact h.2⟩,fun h b hb=>by rw[h.1] at hb;simp at hb;subst hb;exact (Array.getElem?_eq_some_iff.1 h.2).1⟩
def Sep (I:Hp):List Ch->World->List Nat->Prop
 | [],_,F=>F= []
 | c::cs,w,F=> ∃G K,F=G++K/\c.holds I w G/\Sep I cs w K
section
variable {I J:Hp}
theorem Sep.stay {w w':World} : ∀ {a F},Sep I a w F->(∀b,b∈F->w'.heap[b]? =w.heap[b]?)->Sep I a w' F
 | [],_,h,_=>h
 | c::a,F,⟨G,K,h1,h2,h3⟩,h=>by
  subst h1;exact ⟨G,K,rfl,c.stay h2 fun b d=>h b (bj _ d),h3.stay fun b d=>h b (bt _ d)⟩
theorem Sep.mono {w:World} : ∀ {a F},Sep I a w F->I.le J->Sep J a w F
 | [],_,h,_=>h
 | c::a,F,⟨G,K,h1,h2,h3⟩,h=>⟨G,K,h1,c.mono h2 h,h3.mono h⟩
theorem Sep.live {w:World} : ∀ {a F},Sep I a w F-> ∀b,b∈F->b<w.heap.size
 | [],_,h,b,hb=>by rw[show _= [] from h] at hb;cases hb
 | c::a,F,⟨G,K,h1,h2,h3⟩,b,hb=>by
  subst h1;rcases aI hb with h | h
  ·exact c.live h2 b h
  ·exact h3.live b h
theorem Sep.append {w:World} : ∀ {b a F G},Sep I b w F->Sep I a w G->Sep I (b++a) w (F++G)
 | [],a,F,G,h,k=>by rw[show F= [] from h];exact k
 | c::b,a,F,G,⟨G1,K,h1,h2,h3⟩,k=>by
  subst h1;exact ⟨G1,K++G,by simp,h2,h3.append k⟩
theorem Sep.split {w:World} : ∀ {b a F},Sep I (b++a) w F-> ∃G K,F=G++K/\Sep I b w G/\Sep I a w K
 | [],a,F,h=>⟨[],F,rfl,rfl,h⟩
 | c::b,a,F,⟨G,K,h1,h2,h3⟩=>by
  have ⟨d,i,e,f,g⟩:=Sep.split h3;subst e;subst h1;exact ⟨G++d,i,by simp,⟨G,d,rfl,h2,f⟩,g⟩
theorem Sep.perm {w:World} {cs ds:List Ch} (h:cs.Perm ds): ∀ {F},Sep I cs w F-> ∃G,G.Perm F/\Sep I ds w G:=by
 induction h with
 | nil=>grind
 | cons c _ ih =>
  rintro F ⟨G,K,rfl,e,i⟩;have ⟨d,j,m⟩:=ih i;exact ⟨G++d,j.append_left G,G,d,rfl,e,m⟩
 | swap a b l =>
  rintro F ⟨G,K,rfl,e,⟨f,d,rfl,k,g⟩⟩;exact ⟨f++(G++d),List.perm_append_comm_assoc _ _ _,f,G++d,rfl,k,G,d,rfl,e,g⟩
 | trans _ _ ih1 ih2 =>
  grind
end
def St (I:Hp) (w0 w:World) (cs:List Ch):Prop:=
 (w.os=w0.os/\w.tape=w0.tape/\w.output=w0.output/\w0.heap.size<=w.heap.size)/\I.le (hp w)/\ ∃F,Sep I cs w F/\F.Nodup/\ ∀b,b∈F->I b=none
section
variable {I J:Hp} {w0 w w':World} {cs ds:List Ch}
theorem St.init (w:World):St (hp w) w w []:=⟨⟨rfl,rfl,rfl,ay _⟩,.rfl,[],rfl,List.nodup_nil,by simp⟩
theorem St.perm (h:St I w0 w cs) (hp:cs.Perm ds):St I w0 w ds:=by
 have ⟨i,j,F,d,f,e⟩:=h;have ⟨G,c,g⟩:=d.perm hp;exact ⟨i,j,G,g,c.nodup_iff.2 f,fun b a=>e b (c.mem_iff.1 a)⟩
theorem NF {α:Type} {l:List α} {c:α} : ∀ {i:Nat},l[i]? =some c->l.Perm (c::l.eraseIdx i):=by
 induction l with
 | nil=>grind
 | cons x l ih =>
  intro i h;cases i with
  | zero=>simp_all
  | succ i=>exact ((ih (by grind)).cons x).trans (.swap _ _ _)
theorem St.front (h:St I w0 w cs) {c:Ch} (i:Nat) (hi:cs[i]? =some c):St I w0 w (c::cs.eraseIdx i):=h.perm (NF hi)
theorem St.tail {c:Ch} (h:St I w0 w (c::cs)):St I w0 w cs:=by
 obtain ⟨g,i,F,⟨G,K,rfl,j,f⟩,e,d⟩:=h;exact ⟨g,i,K,f,(List.nodup_append.1 e).2.1,fun b a=>d b (bt _ a)⟩
theorem St.left (h:St I w0 w (cs++ds)):St I w0 w cs:=by
 have ⟨g,i,F,c,e,d⟩:=h;obtain ⟨G,K,rfl,f,j⟩:=c.split;exact ⟨g,i,G,f,(List.nodup_append.1 e).1,fun b a=>d b (bj _ a)⟩
theorem St.step {c:List Ch} {c':List Ch} (h:St I w0 w (c++cs)) (s:w'.os=w.os) (A:w'.tape=w.tape) (q:w'.output=w.output) (u:w.heap.size<=w'.heap.size)
  (hs: ∀F,Sep I c w F->F.Nodup->(∀b,b∈F->I b=none)->(∀b,b<w.heap.size->b∉F->w'.heap[b]? =w.heap[b]?)/\ ∃F',Sep I c' w' F'/\F'.Nodup/\ ∀b,b∈F'->b∈F\/w.heap.size<=b):St I w0 w' (c'++cs):=by
 have ⟨⟨x,D,v,n⟩,m,F,C,p,E⟩:=h;obtain ⟨G,K,rfl,M,g⟩:=C.split;have ⟨t,L,y⟩:=List.nodup_append.1 p;have ⟨j,H,r,B,l⟩:=hs G M t fun b d=>E b (bj _ d);have z:=fun b a=>j b (g.live b a) fun k=>y b k b a rfl;have f:=fun b o d=>(Array.getElem?_eq_some_iff.1 (m b o d)).1;refine ⟨⟨s.trans x,A.trans D,q.trans v,Nat.le_trans n u⟩,fun b o d=>?_,H++K,r.append (g.stay z),List.nodup_append.2 ⟨B,L,?_⟩,?_⟩
 ·show w'.heap[b]? =some o;rw[j b (f b o d) fun k=>by grind];exact m b o d
 ·rintro b i c e rfl;rcases l b i with h | h
  ·grind
  ·have:=g.live b e;omega
 ·intro b a;rcases aI a with h | h
  ·rcases l b h with h | h
   ·grind
   ·cases N:I b with
    | none=>rfl
    | some o=>grind
  grind
theorem St.drawn (h:St I w0 w cs) (a:w'.os=w.os) (f:w'.tape=w.tape) (e:w'.output=w.output) (d:w'.heap=w.heap):St I w0 w' cs:=by
 refine St.step (w:=w) (c:=[]) (c':=[]) h a f e (by grind) ?_;rintro F rfl - -;exact ⟨fun b g _=>by rw[d],[],rfl,List.nodup_nil,by simp⟩
def Ch.fr (I:Hp) (cs:List Ch):Ch:=⟨fun _ w F=>Sep I cs w F,fun h _=>h,fun h=>h.stay,fun h=>h.live⟩
def Ch.deep (c:Ch):Prop:= ∀ {I J w F},c.holds J w F->c.holds I w F
def Ch.deeps:List Ch->Prop
 | [] =>True
 | c::cs=>c.deep/\Ch.deeps cs
theorem Sep.deeps {w:World} : ∀ {cs F},Ch.deeps cs->Sep J cs w F->Sep I cs w F
 | [],_,_,h=>h
 | c::cs,F,hd,⟨G,K,h1,h2,h3⟩=>⟨G,K,h1,hd.1 h2,h3.deeps hd.2⟩
theorem St.lend {ls:List Ch} (h:St I w0 w (ls++cs)): ∃J,I.le J/\(∀ {α:Type} (R:Rep α) (v:List Value) (a:α),Ch.own R v a∈ls->R.rd J v a)/\(∀g l E,Ch.blk g l E∈ls->J g=some (.cells l.toArray E (0,0)))/\St J w0 w [Ch.fr I cs] /\
  ∀w' ds,Ch.deeps ds->St J w0 w' (ds++ [Ch.fr I cs])->St I w0 w' (ds++(ls++cs)):=by
 have ⟨r,Q,F,L,A,h3⟩:=h;obtain ⟨G,K,rfl,p,O⟩:=L.split;have ⟨V,M,n3⟩:=List.nodup_append.1 A;let J:=fun b=>if b∈G then w.heap[b]? else I b;have j:I.le J:=fun b o f=>by
  grind
 have k: ∀b,b∈G->J b=w.heap[b]? :=fun b f=>if_pos f;have s: ∀b,b∉G->J b=I b:=fun b f=>if_neg f;have i: ∀ {ls:List Ch} {G:List Nat} {c:Ch},Sep I ls w G->c∈ls-> ∃n,(∀b,b∈n->b∈G)/\c.holds I w n:=by
  intro ls;induction ls with
  | nil=>grind
  | cons d ls ih =>
   rintro G c ⟨Z,K1,rfl,e,e'⟩ hc;grind
 refine ⟨J,j,fun R v a q=>?_,fun g l E q=>?_,⟨r,fun b o f=>?_,K,⟨K,[],by simp,O,rfl⟩,M,fun b f=>?_⟩,?_⟩
 ·have ⟨n,x,z⟩:=i p q;exact R.own_rd z j fun b r=>k b (x b r)
 ·have ⟨n,x,z,X⟩:=i p q;grind
 ·by_cases m:b∈G
  ·rw[k b m] at f;exact f
  ·rw[s b m] at f;exact Q b o f
 ·grind
 ·rintro w' ds N ⟨D,y,Y,B,U,k3⟩;obtain ⟨S,W,rfl,T,H,F4,rfl,P,rfl⟩:=B.split;have t:=p.live;have u: ∀b,b∈G->w'.heap[b]? =w.heap[b]? :=fun b m=>by
   have ⟨o,C⟩: ∃o,w.heap[b]? =some o:=⟨_,Array.getElem?_eq_getElem (t b m)⟩;rw[C];exact y b o (by grind)
  refine ⟨D,j.trans y,S++(G++H),(T.deeps N).append ((p.stay u).append P),?_,fun b f=>?_⟩
  ·grind
  grind
theorem St.freeze {α:Type} {R:Rep α} {v:List Value} {a:α} (h:St I w0 w (Ch.own R v a::cs)): ∃J,I.le J/\R.rd J v a/\St J w0 w cs:=by
 obtain ⟨f,k,F,⟨G,K,rfl,i,j⟩,e,n⟩:=h;have ⟨l,g,m⟩:=List.nodup_append.1 e;refine ⟨fun b=>if b∈G then w.heap[b]? else I b,fun b o c=>?_,R.own_rd i (fun b o c=>?_) fun b c=>if_pos c,f,fun b o c=>?_,K,j.mono fun b o c=>?_,g,fun b c=>?_⟩
 ·grind
 ·grind
 ·have d:(if b∈G then w.heap[b]? else I b)=some o:=c;split at d
  ·exact d
  ·exact k b o d
 ·grind
 grind
theorem St.freeze_blk {g:Nat} {l:List Value} {E:TypeId} (h:St I w0 w (Ch.blk g l E::cs)): ∃J,I.le J/\J g=some (.cells l.toArray E (0,0))/\St J w0 w cs:=by
 obtain ⟨e,k,F,⟨G,K,rfl,⟨rfl,i⟩,j⟩,d,p⟩:=h;have ⟨m,f,n⟩:=List.nodup_append.1 d;refine ⟨fun b=>if b ∈ [g] then w.heap[b]? else I b,fun b o c=>?_,(if_pos (by simp)).trans i,e,fun b o c=>?_,K,j.mono fun b o c=>?_,f,fun b c=>?_⟩
 ·grind
 ·have a:(if b ∈ [g] then w.heap[b]? else I b)=some o:=c;split at a
  ·exact a
  ·exact k b o a
 ·grind
 grind
theorem St.heap (h:St I w0 w cs) {g:Nat} {l:List Value} {E:TypeId} (i:Nat) (hi:cs[i]? =some (Ch.blk g l E)):w.heap[g]? =some (.cells l.toArray E (0,0)):=by
 have ⟨f,_,F,⟨G,K,d,a,e⟩,c,b⟩:=h.front i hi;exact a.2
theorem St.alloc (h:St I w0 w cs) (l:List Value) (E:TypeId):St I w0 (w.alloc (.cells l.toArray E)) (Ch.blk w.heap.size l E::cs):=by
 refine St.step (w:=w) (c:=[]) (c':=[Ch.blk w.heap.size l E]) (w':=w.alloc (.cells l.toArray E)) h rfl rfl rfl (by simp) ?_;rintro F rfl - -;refine ⟨fun b a _=>?_,[w.heap.size],⟨[w.heap.size],[],rfl,⟨rfl,heap_alloc_new w _⟩,rfl⟩,by simp,by simp⟩;show (w.heap.push _)[b]? =_;grind
theorem iC {w:World} {g o:Nat} {v:Value} {cur:Array Value} {E:TypeId} {a:Nat×Nat} (h:w.heap[g]? =some (.cells cur E a)):(w.setCell ⟨g,o,none⟩ v).heap[g]? =some (.cells (cur.setIfInBounds o v) E a):=by
 simp[World.setCell,Array.getElem?_modify,h]
theorem St.set {g:Nat} {l:List Value} {E:TypeId} (h:St I w0 w (Ch.blk g l E::cs)) (j:Nat) (v:Value):St I w0 (w.setCell ⟨g,j,none⟩ v) (Ch.blk g (l.set j v) E::cs):=by
 refine St.step (c:=[Ch.blk g l E]) (c':=[Ch.blk g (l.set j v) E]) (w':=w.setCell ⟨g,j,none⟩ v) h rfl rfl rfl (by simp) ?_;rintro F ⟨G,K,rfl,⟨rfl,a⟩,rfl⟩ - -;refine ⟨fun b e d=>Below.heap_setCell _ _ _ _ (by grind),[g],⟨[g],[],rfl,⟨rfl,?_⟩,rfl⟩,by simp,by simp⟩;rw[iC a];simp
end
def evL (L:List (Nat×Value)):Operand->Value
 | .tmp t=>(L.lookup t).getD undef
 | .const v=>v
 | .global g=>.pointer (some ⟨g,0,none⟩)
 | .func f=>.func (.func f) #[] #[]
def Pg (L:List (Nat×Value)):Operand->Bool
 | .tmp t=>(L.lookup t).isSome
 | _=>true
def F9 (L:List (Nat×Value)) (o:Oper):Bool:=o.op.operands.toList.all (Pg L)
def Agr (n:Nat) (a:Act) (L:List (Nat×Value)):Prop:=a.defers= [] /\a.tmps.size=n/\ ∀t v,L.lookup t=some v->a.tmps.getD t undef=v
def Tz (d:Option Tmp) (v:Value) (L:List (Nat×Value)):List (Nat×Value):=
 match d with
 | some d=>(d,v)::L
 | none=>L
def dstOk (n:Nat):Option Tmp->Bool
 | some d=>decide (d<n)
 | none=>true
section
variable {n:Nat} {a:Act} {L L':List (Nat×Value)}
theorem Agr.eval (h:Agr n a L) {x:Operand} (b:Pg L x=true):a.eval x=evL L x:=by
 cases x with
 | tmp t =>
  have ⟨v,hv⟩:=Option.isSome_iff_exists.1 b;simp only[Act.eval,evL,hv];exact h.2.2 t v hv
 | _=>rfl
theorem yi {l:Array Value} {d:Nat} {v x:Value} (h:d<l.size):(l.setIfInBounds d v).getD d x=v:=by
 simp_all
theorem getD_set_ne {l:Array Value} {d t:Nat} {v x:Value} (h:d≠t):(l.setIfInBounds d v).getD t x=l.getD t x:=by
 simp_all
theorem Agr.put (h:Agr n a L) {d:Option Tmp} (v:Value) (c:dstOk n d=true):Agr n (a.put d v) (Tz d v L):=by
 cases d with
 | none=>exact h
 | some d =>
  have c:d<n:=by simpa [dstOk] using c
  refine ⟨h.1,by simp[Act.put,h.2.1],fun t u b=>?_⟩;simp[Tz,List.lookup_cons] at b;by_cases e:t=d
  ·subst e;simp at b;subst b;exact yi (by rw[h.2.1];exact c)
  ·have:(t==d)=false:=by simpa using e
   rw[this] at b;show (a.tmps.setIfInBounds d v).getD t undef=u;rw[getD_set_ne (fun f=>e f.symm)];exact h.2.2 t u b
theorem Agr.sub (h:Agr n a L) (hs: ∀t v,L'.lookup t=some v->L.lookup t=some v):Agr n a L':=⟨h.1,h.2.1,fun t v hv=>h.2.2 t v (hs t v hv)⟩
theorem Agr.pick (h:Agr n a L) (L':List (Nat×Value)) (hs: ∀p∈L',L.lookup p.1=some p.2):Agr n a L':=by
 refine h.sub fun t v hv=>?_
 have: ∀(M:List (Nat×Value)),(∀p∈M,L.lookup p.1=some p.2)->M.lookup t=some v->L.lookup t=some v:=by
  intro M;induction M with
  | nil=>grind
  | cons p M ih =>
   grind
 grind
theorem Agr.start {args:Array Value} {m:Nat} (L:List (Nat×Value)) (e:args.size+m=n) (hs: ∀p∈L,args[p.1]? =some p.2):Agr n { tmps:=args++Array.replicate m undef,defers:=[] } L:=by
 have d:Agr n { tmps:=args++Array.replicate m undef,defers:=[] } (args.toList.zipIdx.map fun p=>(p.2,p.1)):=by
  refine ⟨rfl,by grind,fun t v hv=>?_⟩;have key: ∀(l:List Value) (k:Nat),((l.zipIdx k).map fun p=>(p.2,p.1)).lookup t=some v->k<=t/\l[t - k]? =some v:=by
   intro l;induction l with
   | nil=>grind
   | cons x l ih =>
    grind[List.zipIdx_cons]
  obtain ⟨-,b⟩:=key _ 0 hv;rw[Nat.sub_zero,Array.getElem?_toList] at b;have c:=(Array.getElem?_eq_some_iff.1 b).1;rw[Array.getD_eq_getD_getElem?,Array.getElem?_append_left c,b];rfl
 refine d.pick L fun p hp=>?_;have key: ∀(l:List Value) (k:Nat),k<=p.1->l[p.1 - k]? =some p.2->((l.zipIdx k).map fun p=>(p.2,p.1)).lookup p.1=some p.2:=by
  intro l;induction l with
  | nil=>grind
  | cons x l ih =>
   grind[List.zipIdx_cons]
 grind
end
def Upon (P:Program) (ok:Value->World->Prop):Result Next->Prop
 | .ok (.value v) w'=>ok v w'
 | .ok .skip w'=>ok undef w'
 | .ok (.enter f args) w'=>Calls P f args w' fun e w''=> ∃v,e= .returned v/\ok v w''
 | _=>False
def OpT (P:Program) (I:Hp) (w0:World) (o:Oper) (ev:Operand->Value) (rn:List Ch) (fact:Value->Prop) (gv:Value->List Ch):Prop:=
 ∀w C,St I w0 w (rn++C)->Upon P (fun v w'=>fact v/\St I w0 w' (gv v++C)) ((execOp ev o).run P w)
theorem Upon.wp {P:Program} {o:Oper} {a:Act} {w:World} {ok:Value->World->Prop} {K:Act->World->Prop} {Q:Exit->Act->World->Prop} (b:Upon P ok ((execOp a.eval o).run P w)) (d: ∀v c,ok v c->K (a.put o.dst v) c):o.wp P a w K Q:=by
 unfold Oper.wp;generalize (execOp a.eval o).run P w=r at b;cases r with
 | halt h c=>exact b.elim
 | ok x c =>
  cases x <;> first | exact b.elim | exact d _ _ b | skip
  refine Calls.mono b ?_;grind
def noSelect (o:Oper):Bool:=match o.op with | .select .. =>false | _=>true
theorem sZ {ρ ρ':Operand->Value} {o:Oper} (hs:noSelect o=true) (h: ∀x∈o.op.operands,ρ x=ρ' x):execOp ρ o=execOp ρ' o:=
 execOp_congr o (fun a b e=>by grind[noSelect]) h
section
variable {P:Program} {I:Hp} {w0 w:World} {n:Nat} {a:Act} {L:List (Nat×Value)} {C0 C rn:List Ch} {ops:Array Oper} {Q:Exit->Act->World->Prop} {o:Oper} {rest:List Oper}
theorem aa4 {fact:Value->Prop} {gv:Value->List Ch} (f:Agr n a L) (hs:St I w0 w C0) (l:o.guard=none) (e:OpT P I w0 o (evL L) rn fact gv) (hp:C0.Perm (rn++C)) (g:(F9 L o&&dstOk n o.dst&&noSelect o)=true)
  (k: ∀v a w,fact v->Agr n a (Tz o.dst v L)->St I w0 w (gv v++C)->wpList P ops Q rest a w):wpList P ops Q (o::rest) a w:=by
 simp[aj] at g;have ⟨⟨b,d⟩,c⟩:=g;refine wpList_plain l fun K m=>?_;have i:=sZ c fun x p=>f.eval ((List.all_eq_true.1 b) x (by grind));have h:=e w C (hs.perm hp);rw[<-i] at h;exact h.wp fun v j hv=>m _ _ (k v _ j hv.1 (f.put v d) hv.2)
end
structure OpRec where
 reads:List Nat
 needs:List Nat
 gives:List Nat
 deps:List Nat
 fact:List Value->Prop
 src:List (Nat×Option Nat)
structure ResRec where
 deps:List Nat
 ch:List Value->Ch
structure Plan where
 ops:List OpRec
 res:List ResRec
 base:List Nat
 pre:List (List Nat)
 fin:List (Nat×Option Nat)
 left:List Nat
def upd (vs:Nat->Value) (i:Nat) (v:Value):Nat->Value:=fun j=>if j=i then v else vs j
theorem kU {vs:Nat->Value} {i:Nat} {v:Value} :upd vs i v i=v:=by simp[upd]
theorem LJ {vs:Nat->Value} {i j:Nat} {v:Value} (h:j≠i):upd vs i v j=vs j:=by simp[upd,h]
namespace Plan
def op (p:Plan) (i:Nat):OpRec:=p.ops.getD i ⟨[],[],[],[],fun _=>True,[]⟩
def chunk (p:Plan) (r:Nat) (vs:Nat->Value):Ch:=
 match p.res[r]? with
 | some x=>x.ch (x.deps.map vs)
 | none=>Ch.fr (fun _=>none) []
def fact (p:Plan) (i:Nat) (vs:Nat->Value):Prop:=(p.op i).fact ((p.op i).deps.map vs)
end Plan
def edgesOf (o:Oper):List Nat:=(o.after.toList.filter (Region.binds .any)).map (·.on)
def slotsOf (ops:Array Oper) (o:Oper):List Nat:=o.looksAt ops
def NG (o:Oper) (vs:Nat->Value):Option Bool:=
 match o.guard with
 | none=>some true
 | some (g,want)=>match vs g with
  | .bool b=>some (b==want)
  | _=>some false
section
variable {p:Plan} {C:List Ch} {P:Program} {I:Hp} {w0:World} {n:Nat} {L:List (Nat×Value)} {ops:List Oper} {S:Nat->Bool} {vs:Nat->Value} {a:Act} {w:World} {i:Nat} {o:Oper}
theorem mem_ready {ops:Array Oper} {listed:Array Bool} {i:Nat} :i∈Region.ready .any ops listed↔i<ops.size/\listed.getD i true=false/\ ∀o,ops[i]? =some o-> ∀j,j∈edgesOf o->listed.getD j false=true:=by
 unfold Region.ready;rw[List.mem_filter,List.mem_range];constructor
 ·grind[Array.all_eq_true',edgesOf]
 ·rintro ⟨b,f,d⟩;refine ⟨b,?_⟩;simp only[aj,Bool.not_eq_true'];refine ⟨f,?_⟩;have c:=Array.getElem?_eq_getElem b;rw[c];simp only[Option.map_some,Option.getD_some,Array.all_eq_true',Bool.or_eq_true,Bool.not_eq_true'];intro e g;cases h:Region.binds .any e with
  | false=>grind
  | true =>
   refine .inr (d _ c _ ?_);grind[edgesOf]
def leftOf (m:Nat) (listed:Array Bool):Nat:=((List.range m).filter fun i=> !listed.getD i false).length
end
end D
namespace D
open Go.RowKit
def aa5:TypeDesc->Bool
 | .struct _ | .array _ _=>true
 | _=>false
def TI (P:Program) (T:TypeId) (agg:Bool) (n:Nat):Prop:=(∃d,P.underlying T=some d/\aa5 d=agg)/\(P.info? T).map (·.size)=some n
def TZ (P:Program) (T:TypeId) (z:Value) (n bytes:Nat):Prop:=(P.info? T).map (fun i=>(i.zero,i.size,i.bytes))=some (some z,n,bytes)
def TF (P:Program) (T:TypeId) (f off n:Nat):Prop:= ∃fs fd,P.underlying T=some (.struct fs)/\fs[f]? =some fd/\fd.offset=off/\(P.info? fd.type).map (·.size)=some (n+1)
section
variable {P:Program}
theorem TI.run_agg {T:TypeId} {agg:Bool} {n:Nat} (h:TI P T agg n) (w:World):(isAgg T).run P w= .ok agg w:=by
 obtain ⟨⟨d,a,rfl⟩,-⟩:=h;unfold isAgg;rw[Sem.run_bind,run_underlying a w];cases d <;> rfl
theorem TI.run_size {T:TypeId} {agg:Bool} {n:Nat} (h:TI P T agg n) (w:World):(sizeOf T).run P w= .ok n w:=by
 obtain ⟨-,h⟩:=h;cases a:P.info? T with
 | none=>grind
 | some i =>
  simp_all[sizeOf,typeInfo]
theorem TZ.run_zero {T:TypeId} {z:Value} {n b:Nat} (h:TZ P T z n b) (w:World):(zeroValue T).run P w= .ok z w:=by
 have ⟨i,c,a,e,d⟩:=info_parts h;simp[zeroValue,typeInfo,c,a]
variable {I:Hp} {w0:World} {o:Oper} {ev:Operand->Value}
theorem bz {v:Value} (h: ∀w,(execOp ev o).run P w= .ok (.value v) w):OpT P I w0 o ev [] (· =v) (fun _=>[]):=by
 intro w C a;rw[h];exact ⟨rfl,a⟩
theorem TM {x:Operand} {v:Value} (a:o.op= .move x) (hv:ev x=v):OpT P I w0 o ev [] (· =v) (fun _=>[]):=
 bz fun w=>by simp_all[execOp]
theorem NH {x:Operand} {v:Value} (a:o.op= .assign x) (hv:ev x=v):OpT P I w0 o ev [] (· =v) (fun _=>[]):=
 bz fun w=>by simp_all[execOp]
theorem LK {c x y:Operand} {b:Bool} {v:Value} (a:o.op= .pick c x y) (d:ev c= .bool b) (hv:(if b then ev x else ev y)=v):OpT P I w0 o ev [] (· =v) (fun _=>[]):=
 bz fun w=>by simp_all[execOp,asBool]
theorem Cm {x:Operand} {vs:Array Value} {i:Nat} {v:Value} (a:o.op= .extract x i) (b:ev x= .tuple vs) (hv:vs[i]? =some v):OpT P I w0 o ev [] (· =v) (fun _=>[]):=
 bz fun w=>by simp_all[execOp,Instr.extract,Result.andThen]
theorem Ph {x:Operand} {t:TypeId} {b:Bool} (a:o.op= .unOp .not t x) (c:ev x= .bool b):OpT P I w0 o ev [] (· = .bool (!b)) (fun _=>[]):=
 bz fun w=>by simp[execOp,a,c];rfl
theorem XZ {x:Operand} {t:TypeId} {n:Int} (a:o.op= .unOp .neg t x) (b:ev x= .int .i64 n):OpT P I w0 o ev [] (· = .int .i64 (i64.wrap (-n))) (fun _=>[]):=
 bz fun w=>by simp[execOp,a,b,Op.unary,Op.intArith,Result.andThen]
def adH:BinOp->Bool
 | .eql | .neq | .lss | .leq | .gtr | .geq=>true
 | _=>false
def cmpI:BinOp->Int->Int->Bool
 | .eql,a,b=>a==b
 | .neq,a,b=>a !=b
 | .lss,a,b=>decide (a<b)
 | .leq,a,b=>decide (a<=b)
 | .gtr,a,b=>decide (a>b)
 | _,a,b=>decide (a≥b)
theorem zU {x y:Operand} {b:BinOp} {t u:TypeId} {k:IntKind} {m n:Int} {c:Bool} (a:o.op= .binOp b t x y u) (d:ev x= .int k m) (e:ev y= .int k n) (f:adH b=true) (g:cmpI b m n=c):OpT P I w0 o ev [] (· = .bool c) (fun _=>[]):=
 bz fun w=>by
  subst g;simp[execOp,a,d,e];cases b <;> first | exact absurd f (by decide) | (cases k <;> rfl)
theorem X0 {x y:Operand} {t u:TypeId} {m n:Int} (a:o.op= .binOp .add t x y u) (b:ev x= .int .i64 m) (c:ev y= .int .i64 n):OpT P I w0 o ev [] (· = .int .i64 (i64.wrap (m+n))) (fun _=>[]):=
 bz fun w=>by simp[execOp,a,b,c];rfl
theorem X1 {x y:Operand} {t u:TypeId} {m n:Int} (a:o.op= .binOp .sub t x y u) (b:ev x= .int .i64 m) (c:ev y= .int .i64 n):OpT P I w0 o ev [] (· = .int .i64 (i64.wrap (m - n))) (fun _=>[]):=
 bz fun w=>by simp[execOp,a,b,c];rfl
theorem X2 {x y:Operand} {t u:TypeId} {m n:Int} (a:o.op= .binOp .mul t x y u) (b:ev x= .int .i64 m) (c:ev y= .int .i64 n):OpT P I w0 o ev [] (· = .int .i64 (i64.wrap (m*n))) (fun _=>[]):=
 bz fun w=>by simp[execOp,a,b,c];rfl
def EZ (m n:Int):Int:=i64.wrap (m.tdiv n)
theorem X3 {x y:Operand} {t u:TypeId} {m n:Int} (a:o.op= .binOp .quo t x y u) (b:ev x= .int .i64 m) (d:ev y= .int .i64 n) (c:n≠0):OpT P I w0 o ev [] (· = .int .i64 (EZ m n)) (fun _=>[]):=
 bz fun w=>by simp_all[execOp,eqGuard,binOp,Op.intDiv,Result.andThen,EZ]
theorem X4 {x y:Operand} {t u:TypeId} {m n:Int} (a:o.op= .binOp .rem t x y u) (b:ev x= .int .i64 m) (d:ev y= .int .i64 n) (c:n≠0):OpT P I w0 o ev [] (· = .int .i64 (m.tmod n)) (fun _=>[]):=
 bz fun w=>by simp_all[execOp,eqGuard,binOp,Op.intDiv,Result.andThen]
def yj (m n:Int):Int:=i64.wrap (m*2 ^ (min n.toNat 64))
def pA (m n:Int):Int:=m.fdiv (2 ^ (min n.toNat 64))
theorem X5 {x y:Operand} {t u:TypeId} {m n:Int} (a:o.op= .binOp .shl t x y u) (b:ev x= .int .i64 m) (c:ev y= .int .i64 n) (d:0<=n):OpT P I w0 o ev [] (· = .int .i64 (yj m n)) (fun _=>[]):=
 bz fun w=>by simp[execOp,a,b,c,eqGuard,binOp,Op.shift,show¬n<0 from by omega,Result.andThen,yj,IntKind.bits]
theorem X6 {x y:Operand} {t u:TypeId} {m n:Int} (a:o.op= .binOp .shr t x y u) (b:ev x= .int .i64 m) (c:ev y= .int .i64 n) (d:0<=n):OpT P I w0 o ev [] (· = .int .i64 (pA m n)) (fun _=>[]):=
 bz fun w=>by simp[execOp,a,b,c,eqGuard,binOp,Op.shift,show¬n<0 from by omega,Result.andThen,pA,IntKind.bits]
def sd (m n:Int):Int:=i64.wrap ((BitVec.ofInt 64 m &&& BitVec.ofInt 64 n).toNat:Nat)
def orI (m n:Int):Int:=i64.wrap ((BitVec.ofInt 64 m ||| BitVec.ofInt 64 n).toNat:Nat)
def adf (m n:Int):Int:=i64.wrap ((BitVec.ofInt 64 m ^^^ BitVec.ofInt 64 n).toNat:Nat)
theorem X7 {x y:Operand} {t u:TypeId} {m n:Int} (a:o.op= .binOp .and t x y u) (b:ev x= .int .i64 m) (c:ev y= .int .i64 n):OpT P I w0 o ev [] (· = .int .i64 (sd m n)) (fun _=>[]):=
 bz fun w=>by simp[execOp,a,b,c];rfl
theorem aa6 {x y:Operand} {t u:TypeId} {m n:Int} (a:o.op= .binOp .or t x y u) (b:ev x= .int .i64 m) (c:ev y= .int .i64 n):OpT P I w0 o ev [] (· = .int .i64 (orI m n)) (fun _=>[]):=
 bz fun w=>by simp[execOp,a,b,c];rfl
theorem X8 {x y:Operand} {t u:TypeId} {m n:Int} (a:o.op= .binOp .xor t x y u) (b:ev x= .int .i64 m) (c:ev y= .int .i64 n):OpT P I w0 o ev [] (· = .int .i64 (adf m n)) (fun _=>[]):=
 bz fun w=>by simp[execOp,a,b,c];rfl
theorem Cn {t:TypeId} {b c:Bool} (a:P.underlying t=some .bool) (w:World):(Op.equal t (.bool b) (.bool c)).run P w= .ok (b==c) w:=by
 unfold Op.equal Op.maxDepth;rw[Op.equalIn,Sem.run_bind,run_underlying a];rfl
theorem X9 {x y:Operand} {t u:TypeId} {b c:Bool} (e:P.underlying t=some .bool) (a:o.op= .binOp .eql t x y u) (d:ev x= .bool b) (g:ev y= .bool c):OpT P I w0 o ev [] (· = .bool (b==c)) (fun _=>[]):=
 bz fun w=>by
  have f:eqGuard .eql t x y (.bool b) (.bool c)=pure ():=rfl;have h:binOp .eql t (.bool b) (.bool c)=(do pure (.bool (<-Op.equal t (.bool b) (.bool c)))):=rfl;simp_all[execOp,Sem.run_bind,Sem.run_pure,Cn,Result.andThen_ok]
theorem Ya {x y:Operand} {t u:TypeId} {b c:Bool} (e:P.underlying t=some .bool) (a:o.op= .binOp .neq t x y u) (d:ev x= .bool b) (g:ev y= .bool c):OpT P I w0 o ev [] (· = .bool (b !=c)) (fun _=>[]):=
 bz fun w=>by
  have f:eqGuard .neq t x y (.bool b) (.bool c)=pure ():=rfl;have h:binOp .neq t (.bool b) (.bool c)=(do pure (.bool (!(<-Op.equal t (.bool b) (.bool c))))):=rfl;simp only[execOp,a,d,g,f,h,Sem.run_bind,Sem.run_pure,Cn e,Result.andThen_ok];rfl
theorem ot {x:Operand} {T:TypeId} {f g off b n:Nat} (e:TF P T f off n) (h:o.op= .fieldAddr T x f) (j:ev x= .pointer (some ⟨g,b,none⟩)):OpT P I w0 o ev [] (· = .pointer (some ⟨g,b+off,none⟩)) (fun _=>[]):=by
 have ⟨fs,l,m,d,p,k⟩:=e;refine bz fun w=>?_;cases a:P.info? l.type with
 | none=>grind
 | some i =>
  have c:i.size=n+1:=by simpa [a] using k
  simp[execOp,h,j,Instr.fieldAt,Instr.sureAddr,run_underlying m,d,fieldPlace,sizeOf,typeInfo,a,c,p,Result.andThen,Addr.add_mid]
theorem yk {x:Operand} {T:TypeId} {E:TypeId} {a:Option Addr} {n c:Nat} (e:P.underlying T=some (.slice E)) (b:o.op= .call { callee:=.builtin .len,args:= #[x],argTypes:= #[T] }) (d:ev x= .slice a n c):OpT P I w0 o ev [] (· = .int .i64 n) (fun _=>[]):=
 bz fun w=>by simp[execOp,b,d,resolve,invoke,builtin,Builtin.len_,run_underlying e,Result.andThen,goInt]
theorem JY {x:Operand} {T:TypeId} {s:ByteArray} (c:P.underlying T=some .string) (a:o.op= .call { callee:=.builtin .len,args:= #[x],argTypes:= #[T] }) (b:ev x= .string s):OpT P I w0 o ev [] (· = .int .i64 s.size) (fun _=>[]):=
 bz fun w=>by simp[execOp,a,b,resolve,invoke,builtin,Builtin.len_,run_underlying c,Result.andThen,goInt]
theorem Gc {f:Fn} {first captured:Array Operand} {v:Value} (b:o.op= .makeFunc f first captured) (hv:Value.func f (first.toList.map ev).toArray (captured.toList.map ev).toArray=v):OpT P I w0 o ev [] (· =v) (fun _=>[]):=
 bz fun w=>by
  have a:first.map ev=(first.toList.map ev).toArray:=by grind
  have c:captured.map ev=(captured.toList.map ev).toArray:=by grind
  simp[execOp,b,<-hv,a,c];rfl
end
section
variable {P:Program} {I:Hp} {w0 w w':World} {cs:List Ch}
theorem Upon.imp {ok a:Value->World->Prop} {r:Result Next} (h:Upon P ok r) (k: ∀v w,ok v w->a v w):Upon P a r:=by
 cases r with
 | halt x w=>exact h
 | ok x w =>
  cases x <;> first | exact h | exact k _ _ h | skip
  exact Calls.mono h fun e w' ⟨v,b,c⟩=>⟨v,b,k _ _ c⟩
def bk:Value->Nat
 | .pointer (some a)=>a.block
 | _=>0
def adI (v:Value):Prop:= ∃g,v= .pointer (some ⟨g,0,none⟩)
variable {o:Oper} {ev:Operand->Value}
theorem H3 {T:TypeId} {z:Value} {n b:Nat} {l:List Value} (c:TZ P T z n b) (d:z.cells=l.toArray) (a:o.op= .alloc T):OpT P I w0 o ev [] adI (fun v=>[Ch.blk (bk v) l T]):=by
 intro w C e;have f:(execOp ev o).run P w= .ok (.value (.pointer (some ⟨w.heap.size,0,none⟩))) (w.alloc (.cells l.toArray T)):=by
  simp[execOp,a,Instr.alloc,Sem.run_bind,c.run_zero,Result.andThen_ok];simp[newVar,newRow,d,Result.andThen]
 rw[f];exact ⟨⟨_,rfl⟩,e.alloc l T⟩
theorem Yb {T:TypeId} {x:Operand} {u:Value} {l:List Value} (e:ev x=u) (b:u.cells=l.toArray) (a:o.op= .box T x):OpT P I w0 o ev [] adI (fun v=>[Ch.blk (bk v) l T]):=by
 intro w C c;have d:(execOp ev o).run P w= .ok (.value (.pointer (some ⟨w.heap.size,0,none⟩))) (w.alloc (.cells l.toArray T)):=by
  simp[execOp,a,Instr.box,e,Sem.run_bind];simp[newVar,newRow,b,Result.andThen]
 rw[d];exact ⟨⟨_,rfl⟩,c.alloc l T⟩
def Lds (agg:Bool) (d:List Value) (u:Value):Prop:=if agg then u= .agg d.toArray else d= [u]
theorem Pi {T:TypeId} {agg:Bool} {n b off:Nat} {d:List Value} (c:TI P T agg n) (h:d.length=n) (i:agg=false->n=1) (e:w.rangeAt b off d): ∃u,(Instr.loadAt T (.pointer (some ⟨b,off,none⟩))).run P w= .ok u w/\Lds agg d u:=by
 cases agg with
 | true =>
  have ⟨⟨t,f,g⟩,j⟩:=c;exact ⟨_,run_loadAt_mid w b off T d t e f (by cases t <;> first | rfl | cases g) (by grind),rfl⟩
 | false =>
  obtain ⟨u,rfl⟩:=List.length_eq_one_iff.1 (h.trans (i rfl));refine ⟨u,?_,rfl⟩;have a:=e 0 u rfl;rw[Nat.add_zero] at a;simp[Instr.loadAt,Instr.sureAddr,loadVar,Sem.run_bind,c.run_agg,load,Sem.run,a,Result.andThen]
theorem Ge {T:TypeId} {x:Operand} {agg:Bool} {n b off:Nat} {d:List Value} {rn:List Ch} (h:TI P T agg n) (f:o.op= .load T x) (g:ev x= .pointer (some ⟨b,off,none⟩)) (j:d.length=n) (c:agg=false->n=1) (i: ∀w C,St I w0 w (rn++C)->w.rangeAt b off d):OpT P I w0 o ev rn (Lds agg d) (fun _=>rn):=by
 intro w C a;have ⟨u,k,e⟩:=Pi h j c (i w C a);simp[execOp,f,g,Sem.run_bind,k,Result.andThen_ok];exact ⟨e,a⟩
theorem Pj {g off:Nat} {l d:List Value} {E:TypeId} {C:List Ch} (h:St I w0 w (Ch.blk g l E::C)) (b:(l.drop off).take d.length=d):w.rangeAt g off d:=by
 intro j v c;have a:=h.heap 0 rfl;grind[World.cell?]
theorem H4 {T:TypeId} {x:Operand} {agg:Bool} {n g off:Nat} {l d:List Value} {E:TypeId} {u:Value} (f:TI P T agg n) (b:o.op= .load T x) (c:ev x= .pointer (some ⟨g,off,none⟩)) (j:(agg || n==1)=true) (m:(l.drop off).take n=d) (a:d.length=n) (k:(if agg then Value.agg d.toArray else d.getD 0 undef)=u) :
  OpT P I w0 o ev [Ch.blk g l E] (· =u) (fun _=>[Ch.blk g l E]):=by
 intro w C i;refine (Ge (rn:=[Ch.blk g l E]) f b c a (fun e=>by grind) (fun w C h=>Pj h (by grind)) w C i).imp fun v w hv=>⟨?_,hv.2⟩
 grind[Lds]
theorem AS {T:TypeId} {x:Operand} {agg:Bool} {n g off:Nat} {l d:List Value} {E:TypeId} {b:Nat×Nat} {u:Value} (m:I g=some (.cells l.toArray E b)) (i:TI P T agg n) (c:o.op= .load T x) (f:ev x= .pointer (some ⟨g,off,none⟩)) (p:(agg || n==1)=true) (s:(l.drop off).take n=d) (a:d.length=n) (q:(if agg then Value.agg d.toArray else d.getD 0 undef)=u) :
  OpT P I w0 o ev [] (· =u) (fun _=>[]):=by
 intro w C k;refine (Ge (rn:=[]) i c f a (fun e=>by grind) (fun w C h j v t=>?_) w C k).imp fun v w hv=>⟨?_,hv.2⟩
 ·have r:w.heap[g]? =some (.cells l.toArray E b):=h.2.1 g _ m;grind[World.cell?]
 grind[Lds]
def Fld {α β:Type} (R:Rep α) (off:Nat) (S:Rep β) (f:α->β):Prop:= ∀I c x,R.rd I c x-> ∃d,(c.drop off).take S.size=d/\S.rd I d (f x)
theorem Fld.self {α:Type} {R:Rep α} :Fld R 0 R (fun x=>x):=fun I c x h=>⟨c,by rw[<-R.rd_len h];simp,h⟩
theorem Fld.fst {α β γ:Type} {A:Rep α} {B:Rep β} {S:Rep γ} {off:Nat} {f:α->γ} (h:Fld A off S f):Fld (uq A B) off S (fun x=>f x.1):=by
 rintro I c x ⟨e,k,rfl,a,g⟩;have ⟨d,i,b⟩:=h I e x.1 a;have j:=S.rd_len b;grind[az,bq,List.drop_append]
theorem Fld.snd {α β γ:Type} {A:Rep α} {B:Rep β} {S:Rep γ} {off:Nat} {f:β->γ} (h:Fld B off S f):Fld (uq A B) (A.size+off) S (fun x=>f x.2):=by
 rintro I c x ⟨j,i,rfl,a,b⟩;have ⟨d,e,g⟩:=h I i x.2 b;refine ⟨d,?_,g⟩;rw[List.drop_append,List.drop_of_length_le (by rw[A.rd_len a];omega),A.rd_len a,Nat.add_sub_cancel_left];exact e
def ptB:Value->Nat
 | .slice (some a) _ _=>a.block
 | _=>0
def ptO:Value->Nat
 | .slice (some a) _ _=>a.off
 | _=>0
def pt (v:Value) (o:Nat):Value:=.pointer (some ⟨ptB v,ptO v+o,none⟩)
def aO {α:Type} (xs:List α) (i:Int):Option α:=if 0<=i then xs[i.toNat]? else none
def inI {α:Type} (xs:List α) (i:Int):Prop:=0<=i/\i.toNat<xs.length
theorem Gf {α:Type} {xs:List α} {i:Int} {x:α} (h:aO xs i=some x):inI xs i:=by
 unfold aO at h;split at h
 ·exact ⟨‹_›,(List.getElem?_eq_some_iff.1 h).1⟩
 grind
theorem xo {α:Type} {xs:List α} {i:Int} {x:α} (h:aO xs i=some x):xs[i.toNat]? =some x:=by
 grind[aO]
def Hd (v:Value) (n:Nat):Prop:= ∃ao cap,v= .slice ao n cap/\(0<n-> ∃b off,ao=some ⟨b,off,none⟩)/\n<=cap
theorem Hd.of_rd {α:Type} {E:TypeId} {R:Rep α} {v:Value} {xs:List α} (h:(aA E R).rd I [v] xs):Hd v xs.length:=by
 have ⟨b,cap,hv,a,h⟩:=h;refine ⟨b,cap,by grind,fun hp=>?_,a.2⟩;grind
theorem Hd.of_own {α:Type} {E:TypeId} {R:Rep α} {v:Value} {xs:List α} {F:List Nat} (h:(aA E R).own I w [v] xs F):Hd v xs.length:=by
 have ⟨c,h⟩:=h;rcases h with ⟨hv,rfl,rfl⟩ | ⟨g,a,cap,cur,K,hv,_,b,_⟩
 ·exact ⟨none,0,by grind,by simp,ay _⟩
 ·exact ⟨_,cap,by grind,fun _=>⟨g,a,rfl⟩,by omega⟩
theorem St.hd {α:Type} {E:TypeId} {R:Rep α} {v:Value} {xs:List α} (h:St I w0 w cs) (i:Nat) (hi:cs[i]? =some (Ch.own (aA E R) [v] xs)):Hd v xs.length/\xs.length<=lim:=by
 have ⟨f,_,F,⟨G,K,d,a,e⟩,c,b⟩:=h.front i hi;exact ⟨Hd.of_own (I:=I) (w:=w) (E:=E) (R:=R) (F:=G) a,a.1⟩
theorem E3 {x:Operand} {T E:TypeId} {v:Value} {n:Nat} (h:Hd v n) (c:P.underlying T=some (.slice E)) (a:o.op= .call { callee:=.builtin .len,args:= #[x],argTypes:= #[T] }) (b:ev x=v):OpT P I w0 o ev [] (· = .int .i64 n) (fun _=>[]):=by
 obtain ⟨d,cap,rfl,_⟩:=h;exact yk c a b
theorem uz {α:Type} {x y:Operand} {T E:TypeId} {v:Value} {xs:List α} {i:Int} {n:Nat} {agg:Bool} (h:Hd v xs.length) (e:P.underlying T=some (.slice E)) (f:TI P E agg n) (c:o.op= .indexAddr T x y) (d:ev x=v) (g:ev y= .int .i64 i) (hi:inI xs i):OpT P I w0 o ev [] (· =pt v (i.toNat*n)) (fun _=>[]):=by
 obtain ⟨j,cap,rfl,hp,-⟩:=h;obtain ⟨b,off,rfl⟩:=hp (by have:=hi.2;omega);refine bz fun w=>?_;have a:i<(xs.length:Int):=by have:=hi.2;omega
 simp[execOp,c,d,g,Instr.indexAt,asIntOf,run_underlying e,f.run_size,hi.1,a,Result.andThen,pt,ptB,ptO,Addr.add_mid]
theorem AT {x:Operand} {T:TypeId} {f off n b:Nat} {v:Value} (d:TF P T f off n) (a:o.op= .fieldAddr T x f) (c:ev x=pt v b):OpT P I w0 o ev [] (· =pt v (b+off)) (fun _=>[]):=by
 have:=ot (I:=I) (w0:=w0) d a c
 rw[Nat.add_assoc] at this;exact this
theorem JZ {α β:Type} {E T:TypeId} {R:Rep α} {S:Rep β} {off n k:Nat} {f:α->β} {x:Operand} {v:Value} {xs:List α} {a:α} {i:Int} {agg:Bool} (J:(aA E R).rd I [v] xs) (r:aO xs i=some a) (q:Fld R off S f) (z:TI P T agg n) (D:S.size=n) (K:(agg || n==1)=true) (s:o.op= .load T x) (y:ev x=pt v (i.toNat*k+off)) (Q:R.size=k) :
  OpT P I w0 o ev [] (fun u=> ∃d,S.rd I d (f a)/\Lds agg d u) (fun _=>[]):=by
 have ⟨O,cap,hv,U,h⟩:=J;have p:=xo r;rcases h with rfl | ⟨b,B,g,t,H,rfl,G,l⟩
 ·grind
 have ⟨c,N,L,F⟩:=l i.toNat a p;have ⟨d,V,m⟩:=q I c a F;intro w C A;refine (Ge (rn:=[]) z s y ((S.rd_len m).trans D) (fun e=>by grind) (fun w C h j u W=>?_) w C A).imp fun u w hv=>⟨⟨d,m,hv.1⟩,hv.2⟩
 have M:w.heap[b]? =some (.cells g t H):=h.2.1 b _ G;grind[List.getElem?_eq_some_iff,ptB,ptO,World.cell?]
def Rep.Sh {α:Type} (R:Rep α):Prop:= ∀ {I w cs a F},R.own I w cs a F->F= [] /\R.rd I cs a
theorem Gg {α:Type} {enc:α->Value} {h1: ∀a,(enc a).oneCell'=true} :(mT α enc h1).Sh:=fun h=>h
theorem Yc {α β:Type} {R:Rep α} {S:Rep β} (h:R.Sh) (k:S.Sh):(uq R S).Sh:=by
 rintro I w cs a F ⟨c,d,G,K,rfl,rfl,g,b⟩;have ⟨i,e⟩:=h g;have ⟨j,f⟩:=k b;exact ⟨by grind,c,d,rfl,e,f⟩
theorem aa7 {α:Type} {R:Rep α} :(Bx R).Sh:=fun h=>h
theorem Yd:JX.Sh:=Gg
theorem aa8:Pb.Sh:=Gg
theorem OwnEls.sh {α:Type} {R:Rep α} (a:R.Sh): ∀ {xs:List α} {cur F},OwnEls R I w cur xs F->F= []
 | [],_,_,h=>h
 | x::xs,cur,F,⟨c,rest,G,K,h1,h2,h3,h4,h5⟩=>by rw[h3,(a h4).1,h5.sh a];rfl
def rA (w:World) (g:Nat):Nat->List Value->World
 | _,[] =>w
 | o,v::vs=>rA (w.setCell ⟨g,o,none⟩ v) g (o+1) vs
theorem uA {g:Nat} : ∀(vs:List Value) (w:World) (o i:Nat),(∀j,j<vs.length->(w.cell? ⟨g,o+i+j,none⟩).isSome=true)->(∀j,w.frozen? ⟨g,o+j,none⟩=false)->(∀v,v∈vs->v.oneCell'=true)->
  (storeCells ⟨g,o,none⟩ vs i).run P w= .ok () (rA w g (o+i) vs)
 | [],w,o,i,_,_,_=>by rfl
 | v::vs,w,o,i,hc,hf,h1=>by
  have d:=uA vs (w.setCell ⟨g,o+i,none⟩ v) o (i+1) (fun j e=>by
   have:=hc (j+1) (by grind)
   rw[Option.isSome_iff_exists] at this⊢;have ⟨u,b⟩:=this;simp[World.cell?,World.setCell,Array.getElem?_modify] at b⊢;cases c:w.heap[g]? with
   | none=>grind
   | some ob=>grind) (fun j=>by
   simp_all) (fun u b=>h1 u (by grind))
  have hv:=h1 v (by simp);simp[storeCells,Sem.run_bind,Addr.add_mid,store];have a:(Sem.store .plain ⟨g,o+i,none⟩ v (.pure ())).run P w= .ok () (w.setCell ⟨g,o+i,none⟩ v):=by
   cases v <;> first | grind[Sem.run] | (simp[Value.oneCell'] at hv)
  grind[Result.andThen_ok,rA]
theorem LL {T:TypeId} {agg:Bool} {n g o:Nat} {u:Value} {l:List Value} (a:TI P T agg n) (c:u.cells=l.toArray) (d:l.length=n) (e: ∀j,j<n->(w.cell? ⟨g,o+j,none⟩).isSome=true) (b: ∀j,w.frozen? ⟨g,o+j,none⟩=false) (h1: ∀v,v∈l->v.oneCell'=true) :
  (Instr.storeAt T (.pointer (some ⟨g,o,none⟩)) u).run P w= .ok () (rA w g o l):=by
 have:=uA (P:=P) (g:=g) l w o 0 (by grind) b h1
 simp[Instr.storeAt,Instr.sureAddr,storeVar,Sem.run_bind,Sem.run_pure,Result.andThen_ok,a.run_size,c];grind
def spl (l:List Value):Nat->List Value->List Value
 | _,[] =>l
 | o,v::vs=>spl (l.set o v) (o+1) vs
theorem zV: ∀(vs l:List Value) (o:Nat),(spl l o vs).length=l.length
 | [],l,o=>rfl
 | v::vs,l,o=>by rw[spl,zV vs,List.length_set]
theorem St.sets {g:Nat} {E:TypeId} : ∀(vs l:List Value) (o:Nat) {w:World},St I w0 w (Ch.blk g l E::cs)->St I w0 (rA w g o vs) (Ch.blk g (spl l o vs) E::cs)
 | [],l,o,w,h=>h
 | v::vs,l,o,w,h=>St.sets vs (l.set o v) (o+1) (h.set o v)
theorem Gh {T:TypeId} {x y:Operand} {agg:Bool} {n g off:Nat} {l d:List Value} {E:TypeId} {u:Value} (h:TI P T agg n) (c:o.op= .store T x y) (f:ev x= .pointer (some ⟨g,off,none⟩)) (k:ev y=u) (b:u.cells=d.toArray) (i:d.length=n) (h1:d.all (·.oneCell')=true) (p:off+n<=l.length) :
  OpT P I w0 o ev [Ch.blk g l E] (fun _=>True) (fun _=>[Ch.blk g (spl l off d) E]):=by
 intro w C a;have e:=a.heap 0 rfl;have m:=LL (P:=P) (w:=w) h (g:=g) (o:=off) b i (fun j q=>by
  grind[World.cell?]) (fun j=>by simp[World.frozen?,e]) (fun v hv=>List.all_eq_true.1 h1 v hv)
 simp only[execOp,c,f,k,Sem.run_bind,m,Result.andThen_ok];exact ⟨trivial,St.sets d l off a⟩
end
section
variable {P:Program} {I:Hp} {w0 w w':World} {cs:List Ch} {o:Oper} {ev:Operand->Value} {α:Type} {R:Rep α} {E:TypeId}
theorem Pm: ∀(l:List Value) (k:Nat) (cells:Array Value),k+l.length<=cells.size->((l.toArray.zipIdx).foldl (fun cs (c,j)=>cs.setIfInBounds (k+j) c) cells).toList=cells.toList.take k++l++cells.toList.drop (k+l.length):=by
 intro l k cells h;have key: ∀(l:List Value) (i:Nat) (cells:Array Value),k+i+l.length<=cells.size->((l.zipIdx i).foldl (fun cs (p:Value×Nat)=>cs.setIfInBounds (k+p.2) p.1) cells).toList=cells.toList.take (k+i)++l++cells.toList.drop (k+i+l.length):=by
  intro l;induction l with
  | nil=>simp_all
  | cons x l ih =>
   intro i cells h;rw[aw] at h;rw[List.zipIdx_cons,List.foldl_cons,ih (i+1) _ (by grind),Array.toList_setIfInBounds];have d:cells.toList.length=cells.size:=Array.length_toList;have a:(cells.toList.set (k+i) x).take (k+i+1)=cells.toList.take (k+i)++ [x]:=by
    rw[List.take_add_one,List.take_set_of_le (ay _),List.getElem?_set_self (by omega)];rfl
   have b:(cells.toList.set (k+i) x).drop (k+(i+1)+l.length)=cells.toList.drop (k+(i+1)+l.length):=List.drop_set_of_lt (by omega);rw[b,show k+(i+1)=k+i+1 from rfl,a,aw,show k+i+(l.length+1)=k+i+1+l.length from by omega];simp
 grind
theorem H5 (size:Nat): ∀(us:List (Value×List Value)) (k:Nat) (cells:Array Value),(∀u∈us,u.1.cells=u.2.toArray/\u.2.length=size)->(k+us.length)*size<=cells.size->
  ∃c,Instr.fill (fun i=>some (i*size,size)) cells ((us.zipIdx k).map fun p=>(p.2,p.1.1))=some c/\c.toList=cells.toList.take (k*size)++us.flatMap (·.2)++cells.toList.drop ((k+us.length)*size)
 | [],k,cells,_,_=>⟨cells,rfl,by simp⟩
 | (u,l)::us,k,cells,h,hs=>by
  have ⟨e,q⟩:=h (u,l) (by simp);simp only at e q;have f:(k+1+us.length)*size<=cells.size:=by rw[show k+1+us.length=k+(us.length+1) from by omega];exact hs
  have b:(k+1)*size<=cells.size:=Nat.le_trans (Nat.mul_le_mul_right _ (by omega)) f;rw[Nat.add_mul,Nat.one_mul] at b;have j:=Pm l (k*size) cells (by omega);have d:((l.toArray.zipIdx).foldl (fun cs (p:Value×Nat)=>cs.setIfInBounds (k*size+p.2) p.1) cells).size=cells.size:=by
   rw[<-Array.length_toList,j];simp[au,az,bq,Array.length_toList];omega
  obtain ⟨c,s,m⟩:=H5 size us (k+1) _ (fun u e=>h u (by grind)) (by rw[d];exact f);refine ⟨c,?_,?_⟩
  ·grind[List.zipIdx_cons,Instr.fill]
  ·rw[m,j];have n:(k+1)*size=k*size+l.length:=by grind
   have g:(k+1+us.length)*size=k*size+l.length+us.length*size:=by grind
   have r:(k+(us.length+1))*size=k*size+l.length+us.length*size:=by rw[<-g];congr 1;omega
   have a:(cells.toList.take (k*size)).length=k*size:=by rw[az,Array.length_toList];omega
   rw[n,g,aw,r,List.flatMap_cons];rw[aH,aH,aH];rw[List.take_append,a,List.take_of_length_le (by omega),Nat.add_sub_cancel_left,List.take_left];rw[List.drop_append,a,List.drop_of_length_le (by omega),List.drop_append,show k*size+l.length+us.length*size - k*size - l.length=us.length*size from by omega,List.drop_of_length_le (by omega),List.drop_drop];simp
theorem TN {T:TypeId} (f:P.underlying T=some (.slice E)) {agg:Bool} {n:Nat} (h:TI P E agg n) (c:o.op= .buildSlice T 0 #[]):OpT P I w0 o ev [] (fun _=>True) (fun v=>[Ch.own (aA E R) [v] []]):=by
 intro w C g;have a:(execOp ev o).run P w= .ok (.value (.slice (some ⟨w.heap.size,0,none⟩) 0 0)) (w.alloc (.cells #[] E)):=by
  simp[execOp,c,Instr.buildSlice,run_underlying f,h.run_size,Instr.fill,newRow,Result.andThen];grind
 rw[a];refine ⟨trivial,?_⟩;obtain ⟨b,j,F,⟨G,K,rfl,⟨rfl,d⟩,a⟩,e,i⟩:=g.alloc [] E;exact ⟨b,j,[w.heap.size] ++K,⟨[w.heap.size],K,rfl,⟨by simp,.inr ⟨w.heap.size,0,0,#[],[],rfl,d,by simp,by simp,by simp,rfl,rfl⟩⟩,a⟩,e,i⟩
def H6 (R:Rep α):List (List Value)->List α->List Ch
 | c::ls,x::xs=>Ch.own R c x::H6 R ls xs
 | _,_=>[]
theorem LM: ∀ {ls:List (List Value)} {xs:List α} {F},ls.length=xs.length->Sep I (H6 R ls xs) w F->OwnEls R I w (ls.flatMap (fun l=>l)) xs F
 | [],[],F,_,h=>h
 | l::ls,x::xs,F,he,⟨G,K,h1,h2,h3⟩=>⟨l,ls.flatMap (fun l=>l),G,K,by simp,R.own_len h2,h1,h2,LM (by grind) h3⟩
 | [],_::_,F,he,h=>by grind
 | _::_,[],F,he,h=>by grind
theorem LN {n:Nat} : ∀us:List (Value×List Value),(∀u∈us,u.2.length=n)->(us.flatMap (·.2)).length=us.length*n
 | [],_=>by simp
 | u::us,h=>by rw[List.flatMap_cons,au,aw,Nat.add_mul,h u (by simp),LN us fun v hv=>h v (by grind)];omega
theorem Pn {T:TypeId} {z:Value} {n b m:Nat} {parts:Array (Nat×Operand)} (us:List (Value×List Value)) (xs:List α) (y:P.underlying T=some (.slice E)) (B:TZ P E z n b) (a:0<n) (S:R.size=n) (i:0<m) (D:m*n<=16777216) (s:o.op= .buildSlice T m parts) (hp:parts.toList.map (fun p=>(p.1,ev p.2))=(us.zipIdx 0).map fun p=>(p.2,p.1.1)) (X:us.length=m) (x:xs.length=m)
  (j: ∀u∈us,u.1.cells=u.2.toArray/\u.2.length=n):OpT P I w0 o ev (H6 R (us.map (·.2)) xs) (fun _=>True) (fun v=>[Ch.own (aA E R) [v] xs]):=by
 intro w C A;have ⟨N,d,r,W,O⟩:=info_parts B;have M:((Array.range (m*n)).map (z.cells[· % z.cells.size]!)).size=m*n:=by simp
 have ⟨c,V,Q⟩:=H5 n us 0 ((Array.range (m*n)).map (z.cells[· % z.cells.size]!)) j (by grind);have t:=Nat.mul_pos i a;have f:(execOp ev o).run P w= .ok (.value (.slice (some ⟨w.heap.size,0,none⟩) m m)) (w.alloc (.cells c E)):=by
  simp[execOp,s,Sem.run_bind];rw[run_buildSlice w T E m _ c N z y d r (by grind) (by grind) (by simp_all)]
  rfl
 rw[f];refine ⟨trivial,?_⟩;have H:c=(us.flatMap (·.2)).toArray:=by grind
 rw[H];obtain ⟨g,L,F,⟨G,K,rfl,⟨rfl,q⟩,f⟩,U,J⟩:=A.alloc (us.flatMap (·.2)) E;obtain ⟨e,h,rfl,k,l⟩:=f.split;refine ⟨g,L,(w.heap.size::e)++h,⟨w.heap.size::e,h,rfl,⟨by unfold lim;have:m<=m*n:=Nat.le_mul_of_pos_right _ a;omega,.inr ⟨w.heap.size,0,m,_,e,by rw[x],q,by omega,?_,?_,rfl,?_⟩⟩,l⟩,by grind,fun b g=>J b (by grind)⟩
 ·unfold maxLen;have:m<=m*n:=Nat.le_mul_of_pos_right _ a;omega
 ·grind[LN]
 ·have:=LM (R:=R) (I:=I) (w:=w.alloc (.cells (us.flatMap (·.2)).toArray E)) (ls:=us.map (·.2)) (xs:=xs) (by grind) k
  grind[List.flatMap_map]
theorem fK {t ty e:TypeId} {i:TypeInfo} (g:P.underlying t=some (.slice e)) (hi:P.info? e=some i) {ao:Option Addr} {n c:Nat} (f:n<=c) {a:Option Addr} {d:Nat} :(Builtin.append_ #[t,t] ty #[.slice ao n c,.slice a 0 d]).run P w= .ok (.slice ao n c) w:=by
 have b:(Builtin.firstCells i.size 0 (.slice a 0 d)).run P w= .ok #[] w:=by
  cases a <;> simp[Builtin.firstCells,loadCells,loadCellsFrom]
 simp[Builtin.append_,run_underlying g,sizeOf,typeInfo,hi,Builtin.lenOf,b,f,Result.andThen];cases ao <;> simp[storeCells]
theorem aa9 {a:Array Value} {off:Nat} : ∀ {xs:List α},(∀i x,xs[i]? =some x-> ∃c:List Value,c.length=R.size/\(∀j,j<R.size->a.toList[off+i*R.size+j]? =c[j]?)/\R.rd I c x)->
  ∃news:List Value,news.length=xs.length*R.size/\(∀j u,news[j]? =some u->a.toList[off+j]? =some u)/\(∀u∈news,u.oneCell'=true)/\OwnEls (Bx R) I w news xs []:=by
 intro xs;induction xs generalizing off with
 | nil=>intro _;exact ⟨[],by simp,by simp,by simp,rfl⟩
 | cons x xs ih =>
  intro h;have ⟨c,d,g,b⟩:=h 0 x rfl;have ⟨news,k,m,l,e⟩:=ih (off:=off+R.size) fun i y n=>by
   have ⟨c,d,g,b⟩:=h (i+1) y (by grind);grind
  refine ⟨c++news,by grind,fun j u p=>?_,fun u f=>?_,⟨c,news,[],[],rfl,d,rfl,⟨rfl,b⟩,e⟩⟩
  ·grind
  ·rcases aI f with h | h
   ·exact R.rd_one b u h
   grind
def OffRow (w:World) (E:TypeId) (n:Nat) (v:Value) (len:Nat) (cells:List Value):Prop:=cells.length=len*n/\((v= .slice none 0 0/\len=0)\/ ∃g ofs cap cur,v= .slice (some ⟨g,ofs,none⟩) len cap/\w.heap[g]? =some (.cells cur E (0,0))/\len<=cap/\cap<=maxLen/\ofs+cap*n<=cur.size/\(cur.toList.drop ofs).take (len*n)=cells)
theorem OffRow.of_owns {b n len:Nat} {v:Value} {cells:List Value} (h:w.ownsRow b E n v len cells):OffRow w E n v len cells:=
 ⟨h.1,h.2.imp (fun h=>h) fun ⟨g,cap,cur,e,_,c,a,d,i,f⟩=>⟨g,0,cap,cur,e,c,a,d,by omega,f⟩⟩
theorem rB (g:Nat): ∀(d:List Value) (o:Nat) (w:World),(w.setCells g o d).os=w.os/\(w.setCells g o d).tape=w.tape/\(w.setCells g o d).output=w.output/\(w.setCells g o d).heap.size=w.heap.size/\ ∀b,b≠g->(w.setCells g o d).heap[b]? =w.heap[b]?
 | [],_,_=>⟨rfl,rfl,rfl,rfl,fun _ _=>rfl⟩
 | v::d,o,w=>by
  have ⟨f,c,e,h,i⟩:=rB g d (o+1) (w.setCell ⟨g,o,none⟩ v);exact ⟨f,c,e,h.trans (by simp_all),fun b a=>(i b a).trans (Below.heap_setCell _ _ _ _ a)⟩
theorem uB {g:Nat} {a:Nat×Nat} : ∀(d:List Value) (o:Nat) (w:World) (cur:Array Value),o+d.length<=cur.size->w.heap[g]? =some (.cells cur E a)->(w.setCells g o d).heap[g]? =some (.cells (cur.toList.take o++d++cur.toList.drop (o+d.length)).toArray E a)
 | [],o,w,cur,_,h=>by simpa [World.setCells] using h
 | v::d,o,w,cur,hs,h=>by
  rw[aw] at hs
  have:=uB d (o+1) (w.setCell ⟨g,o,none⟩ v) (cur.setIfInBounds o v) (by grind) (iC h)
  rw[World.setCells,this,Array.toList_setIfInBounds];have c:cur.toList.length=cur.size:=Array.length_toList;have b:(cur.toList.set o v).take (o+1)=cur.toList.take o++ [v]:=by
   rw[List.take_add_one,List.take_set_of_le (ay _),List.getElem?_set_self (by omega)];rfl
  grind[List.drop_set_of_lt,aw]
theorem Et {t ty:TypeId} {z:Value} {n b:Nat} {i:TypeInfo} (L:P.underlying t=some (.slice E)) (hi:P.info? E=some i) (S:i.zero=some z) (l:i.size=n) (F:i.bytes=b) (A:z.cells.size=n) (O:0<n)
  {v:Value} {len:Nat} {cells:List Value} (y:OffRow w E n v len cells) (a:Addr) (m c:Nat) (news:List Value) (T:news.length=m*n) (f: ∀j u,news[j]? =some u->w.cell? (a.add j)=some u) (r: ∀u∈news,u.oneCell'=true) (B:len+m<=maxLen) (Q:(len+m)*b<=140737488355328) :
  ∃s w',(Builtin.append_ #[t,t] ty #[v,.slice (some a) m c]).run P w= .ok s w'/\OffRow w' E n s (len+m) (cells++news)/\w.grownBy w' v.ownBlock/\(s.ownBlock=v.ownBlock\/ ∃G,s.ownBlock=some G/\w.heap.size<=G):=by
 have ⟨N,h⟩:=y;have D:(cells++news).length=(len+m)*n:=by grind
 rcases h with ⟨rfl,rfl⟩ | ⟨g,q,cap,cur,rfl,J,h3,Y,h5,h6⟩
 ·obtain rfl:cells= []:=List.eq_nil_of_length_eq_zero (by omega);obtain ⟨s,w',d,H,x,-,X⟩:=run_append_own_at (P:=P) (w:=w) 0 t ty E i z n b L hi S l F A O (.slice none 0 0) 0 [] (World.ownsRow_nil w _ E n) a m c news T f r B Q (by omega);exact ⟨s,w',d,.of_owns H,x,X.imp (fun h=>h) fun h=>⟨_,h,ay _⟩⟩
 ·by_cases p:len+m<=cap
  ·have C:q+len*n+news.length<=cur.size:=by
    have:(len+m)*n<=cap*n:=Nat.mul_le_mul_right _ p
    rw[Nat.add_mul] at this;omega
   have d:=run_append_room_cells (P:=P) w t ty E i L hi g q len cap a m c news (by grind) f r p (fun j hj=>by
    simp[World.cell?,J,Option.isSome_none,Bool.false_eq_true,ite_false];grind) (fun j _=>by simp[World.frozen?,J])
   rw[l] at d;have ⟨Z,U,V,o4,W⟩:=rB g news (q+len*n) w;refine ⟨_,_,d,⟨D,.inr ⟨g,q,cap,_,rfl,uB news _ w cur C J,p,Y,?_,?_⟩⟩,⟨Z,U,V,by omega,fun k _ M=>W k fun e=>M (by rw[e];rfl)⟩,.inl rfl⟩
   ·grind
   grind
  ·have ⟨s,w',d,H,x⟩:=run_append_arg_grows (P:=P) w t ty E i z n b L hi S l F A O ⟨g,q,none⟩ len cap cells N (fun j u hj=>by
    grind[Addr.add_mid,World.cell?]) a m c news T f (by omega) B Q
   refine ⟨s,w',d,.of_owns H,⟨x.os,x.tape,x.output,x.size,fun k M _=>x.block k M (by simp)⟩,.inr ?_⟩;rcases H.2 with ⟨_,h0⟩ | ⟨G,cp,cu,rfl,K,-⟩
   ·omega
   ·exact ⟨G,rfl,K⟩
theorem St.append_cells {t ty:TypeId} {z:Value} {n b:Nat} (ht:P.underlying t=some (.slice E)) (hE:TZ P E z n b) (hzs:z.cells.size=n) (hn:0<n) (hR:R.size=n)
  {v:Value} {xs ys:List α} {news:List Value} {K2:List Nat} {a:Addr} {cap:Nat} {C:List Ch} (hs:St I w0 w (Ch.own (aA E R) [v] xs::C))
  (A: ∃G W,(∃F,(aA E R).own I w [v] xs G/\Sep I C w F/\W=K2++F/\(G++W).Nodup/\ ∀b,b∈G++W->I b=none)) (l:OwnEls R I w news ys K2)
  (q: ∀j u,news[j]? =some u->w.cell? (a.add j)=some u) (L: ∀u∈news,u.oneCell'=true) (hl:news.length=ys.length*n) (c:(xs.length+ys.length)*b<=140737488355328) (hb1:1<=b) :
  ∃Y w',(Builtin.append_ #[t,t] ty #[v,.slice (some a) ys.length cap]).run P w= .ok Y w'/\St I w0 w' (Ch.own (aA E R) [Y] (xs++ys)::C):=by
 have ⟨i,hi,hz,p,hby⟩:=info_parts hE;obtain ⟨G,W,F,⟨hlx,M⟩,hC,rfl,hnd,hI⟩:=A;have hlen:=Nat.le_trans (Nat.le_mul_of_pos_right _ hb1) c;have old: ∃h cells,OffRow w E n v xs.length cells/\OwnEls R I w cells xs h/\cells.length=xs.length*n /\
   ((G=h/\v.ownBlock=none)\/ ∃g,G=g::h/\v.ownBlock=some g/\g<w.heap.size):=by
  rcases M with ⟨hv,rfl,rfl⟩ | ⟨g,k,cp,cur,h,hv,hg,h3,h4,h5,rfl,h6⟩
  ·obtain rfl:v= .slice none 0 0:=by grind
   exact ⟨[],[],.of_owns (World.ownsRow_nil w 0 E n),rfl,by simp,.inl ⟨rfl,rfl⟩⟩
  ·obtain rfl:v= .slice (some ⟨g,k,none⟩) xs.length cp:=by grind
   have x:=(Array.getElem?_eq_some_iff.1 hg).1;rw[hR] at h5;have B:xs.length*n<=cur.size - k:=by have:=Nat.mul_le_mul_right n h3;omega
   have D:((cur.toList.drop k).take (xs.length*n)).length=xs.length*n:=by rw[az,bq,Array.length_toList];exact Nat.min_eq_left B
   exact ⟨h,(cur.toList.drop k).take (xs.length*n),⟨D,.inr ⟨g,k,cp,cur,rfl,hg,h3,h4,h5,rfl⟩⟩,h6.rest (by grind),D,.inr ⟨g,rfl,rfl,x⟩⟩
 have ⟨h,cells,J,s,X,V⟩:=old;have ⟨Y,w',S,r,d,hat⟩:=Et (P:=P) (w:=w) (ty:=ty) ht hi hz p hby hzs hn J a ys.length cap news hl q L
  (by unfold maxLen;omega) c
 refine ⟨Y,w',S,?_⟩;obtain ⟨⟨b1,b2,b3,b4⟩,O,-⟩:=hs;have x:=fun b o c=>(Array.getElem?_eq_some_iff.1 (O b o c)).1;have hK1:=s.live;have hK2:=l.live;have hF:=hC.live;have m: ∀b,b∈h\/b∈K2\/b∈F->some b≠v.ownBlock:=by
  rcases V with ⟨rfl,hv⟩ | ⟨g,rfl,hv,_⟩
  ·grind
  ·grind
 have T: ∀b o,I b=some o->some b≠v.ownBlock:=by
  intro b o c e;rcases V with ⟨rfl,hv⟩ | ⟨g,rfl,hv,_⟩
  ·grind
  ·grind
 have f:=fun b h1 h2=>d.block b h1 h2;have hnd':(h++(K2++F)).Nodup:=by
  rcases V with ⟨rfl,_⟩ | ⟨g,rfl,_,_⟩
  ·omega
  ·grind
 have hI': ∀b,b∈h++(K2++F)->I b=none:=by
  intro b c;rcases V with ⟨rfl,_⟩ | ⟨g,rfl,_,_⟩
  ·grind
  ·grind
 have N:=s.stay fun b c=>f b (hK1 b c) (m b (.inl c));have K:=l.stay fun b c=>f b (hK2 b c) (m b (.inr (.inl c)));have hj:=N.join (by grind) K;have y:=hC.stay fun b c=>f b (hF b c) (m b (.inr (.inr c)));have ⟨hr1,Z⟩:=r;refine ⟨⟨d.os.trans b1,d.tape.trans b2,d.output.trans b3,Nat.le_trans b4 d.size⟩,fun b o c=>?_,?_⟩
 ·show w'.heap[b]? =some o;rw[f b (x b o c) (T b o c)];exact O b o c
 rcases Z with ⟨rfl,h0⟩ | ⟨U,Q,cp',H,rfl,hg2,hg3,hg4,hg5,hg6⟩
 ·have hx0:xs= []:=List.eq_nil_of_length_eq_zero (by omega);have hy0:ys= []:=List.eq_nil_of_length_eq_zero (by omega);subst hx0;subst hy0;have e1:=s;have e2:=l;subst e1;exact ⟨F,⟨[],F,rfl,⟨by simp,.inl ⟨rfl,rfl,rfl⟩⟩,y⟩,by grind,fun b c=>hI' b (by grind)⟩
 ·have hnew: ∀b,b∈h++(K2++F)->b≠U:=by
   intro b c e;subst e;have hb':b∈h\/b∈K2\/b∈F:=by simpa using c
   rcases hat with e | ⟨g1,e,hge⟩
   ·exact m b hb' (by rw[<-e];rfl)
   ·grind[Value.ownBlock]
  refine ⟨(U::(h++K2))++F,⟨U::(h++K2),F,rfl,⟨by grind[au,lim],.inr ⟨U,Q,cp',H,h++K2,by grind,hg2,by grind,hg4,by grind,rfl,hj.rest ?_⟩⟩,y⟩,?_,fun b c=>?_⟩
  ·grind
  ·grind
  ·rw[List.cons_append,aH] at c;rcases aB c with rfl | c
   ·cases hIb:I b with
    | none=>rfl
    | some o =>
     grind[absurd,Value.ownBlock]
   grind
def Cpy (S R:Rep α):Prop:= ∀ {I w c a},S.rd I c a->R.own I w c a []
theorem vK {enc:α->Value} {h1: ∀a,(enc a).oneCell'=true} :Cpy (mT α enc h1) (mT α enc h1):=fun h=>⟨rfl,h⟩
theorem LO:Cpy JX JX:=vK
theorem Po:Cpy Pb Pb:=vK
theorem TO {R:Rep α} :Cpy (Bx R) (Bx R):=fun h=>⟨rfl,h⟩
theorem TP {α β:Type} {A b:Rep α} {B f:Rep β} (h:Cpy A b) (k:Cpy B f):Cpy (uq A B) (uq b f):=by
 rintro I w c a ⟨d,e,rfl,g,i⟩;exact ⟨d,e,[],[],rfl,rfl,h g,k i⟩
theorem St.free {R:Rep α} {c:List Value} {x:α} (h:St I w0 w cs) (e:R.own I w c x []):St I w0 w (Ch.own R c x::cs):=by
 have ⟨f,g,F,a,d,b⟩:=h;exact ⟨f,g,F,⟨[],F,rfl,e,a⟩,d,b⟩
theorem St.frees {R:Rep α} : ∀ {ls:List (List Value)} {xs:List α},St I w0 w cs->(∀p,p∈ls.zip xs->R.own I w p.1 p.2 [])->St I w0 w (H6 R ls xs++cs)
 | [],_,h,_=>h
 | _::_,[],h,_=>h
 | c::ls,x::xs,h,hx=>(St.frees h fun p hp=>hx p (by simp[hp])).free (hx (c,x) (by simp))
theorem J4 {S:Rep α} {T:TypeId} {z:Value} {n b m:Nat} {parts:Array (Nat×Operand)} (us:List (Value×List Value)) (xs:List α) (l:Cpy S R) (r: ∀p,p∈(us.map (·.2)).zip xs->S.rd I p.1 p.2) (i:P.underlying T=some (.slice E)) (k:TZ P E z n b) (d:0<n) (f:R.size=n) (c:0<m) (a:m*n<=16777216) (g:o.op= .buildSlice T m parts) (hp:parts.toList.map (fun p=>(p.1,ev p.2))=(us.zipIdx 0).map fun p=>(p.2,p.1.1)) (q:us.length=m) (h:xs.length=m)
  (e: ∀u∈us,u.1.cells=u.2.toArray/\u.2.length=n):OpT P I w0 o ev [] (fun _=>True) (fun v=>[Ch.own (aA E R) [v] xs]):=by
 intro w C j;exact Pn (R:=R) us xs i k d f c a g hp q h e w C (St.frees j fun p hp=>l (r p hp))
theorem eS {T:TypeId} {x y:Operand} {s u v:Value} (a:o.op= .call { callee:=.builtin .append,args:= #[x,y],argTypes:= #[T,T] }) (b:ev x=s) (c:ev y=u) (d:(Builtin.append_ #[T,T] o.type #[s,u]).run P w= .ok v w'):(execOp ev o).run P w= .ok (.value v) w':=by
 simp[execOp,a,resolve,invoke,builtin,Sem.run_bind,Sem.run_pure,Result.andThen_ok,List.map_toArray,List.map_cons,List.map_nil,b,c,d]
theorem NI {T:TypeId} {z:Value} {n b:Nat} {x y:Operand} {s u:Value} {xs ys:List α} (hT:P.underlying T=some (.slice E)) (U:TZ P E z n b) (L:z.cells.size=n) (hn:0<n) (N:R.size=n) (J:1<=b) (S:o.op= .call { callee:=.builtin .append,args:= #[x,y],argTypes:= #[T,T] }) (V:ev x=s) (Q:ev y=u) (M:(xs.length+ys.length)*b<=140737488355328) :
  OpT P I w0 o ev [Ch.own (aA E R) [s] xs,Ch.own (aA E R) [u] ys] (fun _=>True) (fun v=>[Ch.own (aA E R) [v] (xs++ys)]):=by
 intro w C X;have D:=X;obtain ⟨Y,hi,F,⟨G,K,rfl,W,K1,K2,rfl,⟨hly,e2⟩,e3⟩,B,hI⟩:=X;have A:St I w0 w (Ch.own (aA E R) [s] xs::C):=(D.perm (List.Perm.swap _ _ _)).tail;rcases e2 with ⟨hv,rfl,rfl⟩ | ⟨g,d,cap,cur,r,hv,k1,k2,k3,k4,rfl,k5⟩
 ·obtain rfl:u= .slice none 0 0:=by grind
  have ⟨i,hi',hz,t,hby⟩:=info_parts U;have e:(Builtin.append_ #[T,T] o.type #[s,.slice none 0 0]).run P w= .ok s w:=by
   rcases W.2 with ⟨H,_⟩ | ⟨g,d,cap,cur,K,H,_,h3,_⟩
   ·simp_all[fK,ay]
   ·grind[fK]
  rw[eS S V Q e];refine ⟨trivial,?_⟩;grind
 ·obtain rfl:u= .slice (some ⟨g,d,none⟩) ys.length cap:=by grind
  have hln:cap*n<=(cur.toList.drop d).length:=by rw[bq,Array.length_toList];rw[N] at k4;omega
  have O:ys.length*n<=cap*n:=Nat.mul_le_mul_right _ k2;have p:((cur.toList.drop d).take (ys.length*n)).length=ys.length*n:=by rw[az];omega
  have q:OwnEls R I w ((cur.toList.drop d).take (ys.length*n)) ys r:=k5.rest (by grind);have m: ∀v∈(cur.toList.drop d).take (ys.length*n),v.oneCell'=true:=by
   have: ∀ {ys:List α} {l:List Value} {F},OwnEls R I w l ys F-> ∀v∈l.take (ys.length*R.size),v.oneCell'=true:=by
    intro ys;induction ys with
    | nil=>simp_all
    | cons y ys ih =>
     rintro l F ⟨c,rest,G,K,rfl,Z,h3,h4,h5⟩ v hv;rw[aw,Nat.add_mul,Nat.one_mul,Nat.add_comm,List.take_append,List.take_of_length_le (by omega),Z,Nat.add_sub_cancel_left] at hv;rcases aI hv with h | h
     ·exact R.own_one h4 v h
     grind
   grind
  have f:(G++(r++K2)).Nodup:=by
   exact B.sublist (List.Sublist.append_left (List.sublist_cons_self _ _) _)
  have ⟨v',w',e,k⟩:=St.append_cells (ty:=o.type) hT U L hn N (a:=⟨g,d,none⟩) (cap:=cap) (K2:=r) (ys:=ys) (news:=(cur.toList.drop d).take (ys.length*n)) A
   ⟨G,r++K2,K2,W,e3,rfl,f,fun b M=>hI b (by grind)⟩
   q (fun j u hj=>by
    grind[Addr.add_mid,World.cell?]) m p M J
  rw[eS S V Q e];exact ⟨trivial,k⟩
theorem Eu {S:Rep α} {E' T:TypeId} {z:Value} {n b:Nat} {x y:Operand} {s u:Value} {xs ys:List α} (hc:Cpy S R) (m:S.size=n) (hr:(aA E' S).rd I [u] ys) (hT:P.underlying T=some (.slice E)) (N:TZ P E z n b) (B:z.cells.size=n) (hn:0<n) (J:R.size=n) (A:1<=b) (M:o.op= .call { callee:=.builtin .append,args:= #[x,y],argTypes:= #[T,T] }) (Q:ev x=s) (L:ev y=u) (Z:(xs.length+ys.length)*b<=140737488355328) :
  OpT P I w0 o ev [Ch.own (aA E R) [s] xs] (fun _=>True) (fun v=>[Ch.own (aA E R) [v] (xs++ys)]):=by
 intro w C V;have p:=V;obtain ⟨X,hi,F,⟨G,K,rfl,U,e3⟩,k,hI⟩:=V;have ⟨O,cap,hv,hl,h⟩:=hr;obtain rfl:u= .slice O ys.length cap:=by grind
 rcases h with rfl | ⟨g,off,D,t,fr,rfl,hg,H⟩
 ·have ⟨i,hi',hz,f,hby⟩:=info_parts N;have d:(Builtin.append_ #[T,T] o.type #[s,.slice O 0 cap]).run P w= .ok s w:=by
   rcases U.2 with ⟨r,_⟩ | ⟨g,ofs,cap,cur,K,r,_,W,_⟩
   ·simp_all[fK,ay]
   ·grind[fK]
  rw[eS M Q L d];refine ⟨trivial,?_⟩;grind
 ·have ⟨news,n1,n2,n3,n4⟩:=aa9 (R:=S) (I:=I) (w:=w) H;have q:OwnEls R I w news ys []:=by
   have: ∀ {ys:List α} {l:List Value},OwnEls (Bx S) I w l ys [] ->OwnEls R I w l ys []:=by
    intro ys;induction ys with
    | nil=>intro l h;exact h
    | cons y ys ih =>
     rintro l ⟨c,rest,G,K,h1,Y,W,⟨rfl,h4⟩,h5⟩
     have:K= []:=by simpa using W.symm
     subst this;exact ⟨c,rest,[],[],h1,by rw[J,<-m];exact Y,rfl,hc h4,ih h5⟩
   exact this n4
  have hw:w.heap[g]? =some (.cells D t fr):=hi g _ hg;have ⟨v',w',d,e⟩:=St.append_cells (ty:=o.type) hT N B hn J (a:=⟨g,off,none⟩) (cap:=cap) (K2:=[]) (ys:=ys) (news:=news) p
   ⟨G,K,K,U,e3,rfl,k,hI⟩ q (fun j u hj=>by
    grind[Addr.add_mid,World.cell?]) n3 (by grind) Z A
  rw[eS M Q L d];exact ⟨trivial,e⟩
theorem Co {T:TypeId} {z:Value} {n b:Nat} {x y:Operand} {s u:Value} {xs ys:List α} (q:R.Sh) (hc:Cpy R R) (hT:P.underlying T=some (.slice E)) (U:TZ P E z n b) (M:z.cells.size=n) (hn:0<n) (N:R.size=n) (L:1<=b) (S:o.op= .call { callee:=.builtin .append,args:= #[x,y],argTypes:= #[T,T] }) (W:ev x=s) (Q:ev y=u) (hb:(xs.length+ys.length)*b<=140737488355328) :
  OpT P I w0 o ev [Ch.own (aA E R) [s] xs,Ch.own (aA E R) [u] ys] (fun _=>True) (fun v=>[Ch.own (aA E R) [v] (xs++ys),Ch.own (aA E R) [u] ys]):=by
 intro w C Z;have H:=Z;obtain ⟨hb0,hi,F,⟨G,K,rfl,X,K1,K2,rfl,t,e3⟩,B,hI⟩:=Z;have ⟨A,e2⟩:=t;rcases e2 with ⟨hv,rfl,rfl⟩ | ⟨g,d,cap,cur,K3,hv,k1,V,k3,Y,rfl,D⟩
 ·obtain rfl:u= .slice none 0 0:=by grind
  have ⟨i,hi',hz,r,hby⟩:=info_parts U;have e:(Builtin.append_ #[T,T] o.type #[s,.slice none 0 0]).run P w= .ok s w:=by
   rcases X.2 with ⟨J,_⟩ | ⟨g,d,cap,cur,K,J,_,h3,_⟩
   ·simp_all[fK,ay]
   ·grind[fK]
  rw[eS S W Q e];refine ⟨trivial,?_⟩;grind
 ·obtain rfl:u= .slice (some ⟨g,d,none⟩) ys.length cap:=by grind
  have:=D.sh q
  subst this;have hln:cap*n<=(cur.toList.drop d).length:=by rw[bq,Array.length_toList];rw[N] at Y;omega
  have O:ys.length*n<=cap*n:=Nat.mul_le_mul_right _ V;have m:((cur.toList.drop d).take (ys.length*n)).length=ys.length*n:=by rw[az];omega
  have p:OwnEls R I w ((cur.toList.drop d).take (ys.length*n)) ys []:=D.rest (by grind);have k: ∀v∈(cur.toList.drop d).take (ys.length*n),v.oneCell'=true:=by
   have: ∀ {ys:List α} {l:List Value} {F},OwnEls R I w l ys F-> ∀v∈l.take (ys.length*R.size),v.oneCell'=true:=by
    intro ys;induction ys with
    | nil=>simp_all
    | cons y ys ih =>
     rintro l F ⟨c,rest,G,K,rfl,h2,h3,h4,h5⟩ v hv;rw[aw,Nat.add_mul,Nat.one_mul,Nat.add_comm,List.take_append,List.take_of_length_le (by omega),h2,Nat.add_sub_cancel_left] at hv;rcases aI hv with h | h
     ·exact R.own_one h4 v h
     grind
   grind
  have ⟨v',w',e,f⟩:=St.append_cells (ty:=o.type) hT U M hn N (a:=⟨g,d,none⟩) (cap:=cap) (K2:=[]) (ys:=ys) (news:=(cur.toList.drop d).take (ys.length*n)) H
   ⟨G,[g] ++K2,[g] ++K2,X,⟨[g],K2,rfl,⟨A,.inr ⟨g,d,cap,cur,[],hv,k1,V,k3,Y,rfl,D⟩⟩,e3⟩,rfl,B,hI⟩
   p (fun j u hj=>by
    grind[Addr.add_mid,World.cell?]) k m hb L
  rw[eS S W Q e];exact ⟨trivial,f⟩
end
inductive Out (R S:Type) where
 | nxt (s:S)
 | brk (s:S)
 | ret (r:R)
def ah {R S:Type} (f:S->Option (Out R S)):Nat->S->Option (Out R S)
 | 0,_=>none
 | k+1,s=>match f s with
  | none=>none
  | some (.nxt s')=>ah f k s'
  | some (.brk s')=>some (.brk s')
  | some (.ret r)=>some (.ret r)
def aR:Nat:=1180591620717411303424
def bC {α:Type} (b:Nat) (xs ys:List α):Option (List α):=if (xs.length+ys.length)*b<=140737488355328 then some (xs++ys) else none
def chk (p:Prop) [Decidable p] :Option Unit:=if p then some () else none
theorem bind_some {α β:Type} {x:Option α} {f:α->Option β} {r:β} (h:(x.bind f)=some r): ∃a,x=some a/\f a=some r:=Option.bind_eq_some_iff.1 h
theorem ym {α:Type} {b:Nat} {xs ys zs:List α} (h:bC b xs ys=some zs):zs=xs++ys/\(xs.length+ys.length)*b<=140737488355328:=by
 unfold bC at h;split at h
 ·exact ⟨(ad h).symm,‹_›⟩
 ·cases h
theorem cG {p:Prop} [Decidable p] {u:Unit} (h:chk p=some u):p:=by
 unfold chk at h;split at h
 ·assumption
 ·cases h
section
variable {P:Program} {I J:Hp} {w0 w w':World} {cs C:List Ch} {n:Nat} {a:Act} {L:List (Nat×Value)} {Q:Exit->Act->World->Prop}
def Con (P:Program) (k:FuncId) (args:Array Value) (I:Hp) (w0:World) (rn:List Ch) (fact:Value->Prop) (gv:Value->List Ch):Prop:=
 ∀w C,St I w0 w (rn++C)->Calls P k args w fun e w'=> ∃v,e= .returned v/\fact v/\St I w0 w' (gv v++C)
theorem ta {o:Oper} {ev:Operand->Value} {k:FuncId} {f:Operand} {xs:Array Operand} {ts:Array TypeId} {first captured args:Array Value} {rn:List Ch} {fact:Value->Prop} {gv:Value->List Ch} (c:Enters P k) (e:o.op= .call { callee:=.value f,args:=xs,argTypes:=ts }) (b:ev f= .func (.func k) first captured) (i:first.toList++xs.toList.map ev++captured.toList=args.toList) (h:Con P k args I w0 rn fact gv):OpT P I w0 o ev rn fact gv:=by
 intro w C g;have d:(first++xs.map ev)++captured=args:=by
  apply Array.ext';rw[<-i];simp
 have j:(execOp ev o).run P w= .ok (.enter k args) w:=by
  simp only[execOp,e,resolve,b,Deferred.ofValue,Sem.run_bind,Sem.run_pure,Result.andThen_ok,invoke,d];exact c args w
 rw[j];exact h w C g
theorem Con.imp {k:FuncId} {args:Array Value} {rn:List Ch} {fact b:Value->Prop} {gv c:Value->List Ch} (h:Con P k args I w0 rn fact gv) (f: ∀v,fact v->b v) (g: ∀v,fact v-> ∀w C,St I w0 w (gv v++C)->St I w0 w (c v++C)):Con P k args I w0 rn b c :=
 fun w C i=>(h w C i).mono fun e w' ⟨v,j,d,l⟩=>⟨v,j,f v d,g v d _ _ l⟩
def Rep.Dp {α:Type} (R:Rep α):Prop:= ∀ {I J:Hp} {w:World} {v:List Value} {x:α} {F:List Nat},R.own J w v x F->R.own I w v x F
theorem Cp {α:Type} {enc:α->Value} {h1: ∀a,(enc a).oneCell'=true} :(mT α enc h1).Dp:=fun h=>h
theorem Ye:JX.Dp:=Cp
theorem aba:Pb.Dp:=Cp
theorem Yf {α β:Type} {R:Rep α} {S:Rep β} (h:R.Dp) (k:S.Dp):(uq R S).Dp:=by
 rintro I J w v x F ⟨c,d,G,K,b,f,e,g⟩;exact ⟨c,d,G,K,b,f,h e,k g⟩
theorem Gi {α:Type} {E:TypeId} {R:Rep α} (h:R.Dp):(aA E R).Dp:=by
 intro I J w v x F l;have key: ∀ {b:List α} {cur F},OwnEls R J w cur b F->OwnEls R I w cur b F:=by
  intro b;induction b with
  | nil=>intro cur F h;exact h
  | cons x b ih =>
   rintro cur F ⟨c,rest,G,K,j,e,k,f,d⟩;exact ⟨c,rest,G,K,j,e,k,h f,ih d⟩
 refine ⟨l.1,l.2.imp (fun h=>h) ?_⟩;rintro ⟨g,i,cap,cur,K,j,e,k,f,d,o,m⟩;exact ⟨g,i,cap,cur,K,j,e,k,f,d,o,key m⟩
theorem Cq {α:Type} {R:Rep α} (h:R.Dp) {v:List Value} {x:α} :(Ch.own R v x).deep:=fun b=>h b
theorem WG {g:Nat} {l:List Value} {E:TypeId} :(Ch.blk g l E).deep:=fun b=>b
def J5 (P:Program) (a:Act) (w:World):ResultVar->Value->Prop
 | .tmp t,v=>a.tmps.getD t undef=v
 | .cell p T,v=> ∃A,a.tmps.getD p undef= .pointer (some A)/\(loadVar T A).run P w= .ok v w
theorem Yg (b:Agr n a L) {t:Nat} {v:Value} (h:L.lookup t=some v):J5 P a w (.tmp t) v:=b.2.2 t v h
theorem TQ (c:Agr n a L) {t g:Nat} {T E:TypeId} {l:List Value} {m:Nat} {cs:List Ch} (h:L.lookup t=some (.pointer (some ⟨g,0,none⟩))) (hs:St I w0 w cs) (i:Nat) (hi:cs[i]? =some (Ch.blk g l E)) (f:TI P T true m) (p:l.length=m):J5 P a w (.cell t T) (.agg l.toArray):=by
 refine ⟨_,c.2.2 t _ h,?_⟩;obtain ⟨⟨d,k,b⟩,o⟩:=f;refine run_loadVar_mid w g 0 T l d (fun j v hv=>?_) k (by cases d <;> first | rfl | cases b) (by rw[o,p]);have e:=hs.heap i hi;rw[Nat.zero_add];simp[World.cell?,e,hv]
theorem TS {c:Operand} {x y:Code} {b:Bool} (d:Agr n a L) (e:Pg L c=true) (hv:evL L c= .bool b) (f:b=true) (h:x.wp P Q a w):(Code.cond c x y).wp P Q a w:=
 wp_cond_true (by rw[d.eval e,hv,f]) h
theorem Pp {c:Operand} {x y:Code} {b:Bool} (d:Agr n a L) (e:Pg L c=true) (hv:evL L c= .bool b) (f:b=false) (h:y.wp P Q a w):(Code.cond c x y).wp P Q a w:=
 wp_cond_false (by rw[d.eval e,hv,f]) h
theorem abb {id:Nat} (h:Q .normal a w):Exit.inBlock id Q (.exit id) a w:=by
 show if id=id then Q .normal a w else Q (.exit id) a w;rw[if_pos rfl];exact h
theorem abc {id b:Nat} (c:b≠id) (h:Q (.exit b) a w):Exit.inBlock id Q (.exit b) a w:=by
 show if b=id then Q .normal a w else Q (.exit b) a w;rw[if_neg c];exact h
theorem TU {R S:Type} {c:Code} {f:S->Option (Out R S)} {k:Nat} {s:S} {o:Out R S} (Inv:S->Act->World->Prop) (h:ah f k s=some o) (D:Inv s a w)
  (round: ∀s o',f s=some o'->((∀m,o'≠ .nxt m)->o'=o)-> ∀a w,Inv s a w->c.wp P (Exit.then (fun a w=> ∃m,o'= .nxt m/\Inv m a w) Q) a w):(Code.loop c).wp P Q a w:=by
 intro b it cs;have key: ∀k s a w,ah f k s=some o->Inv s a w-> ∃e z w',Q e z w'/\Arrives P (lone (b.at a (.code c:: .inLoop c::it)) cs w) b it cs e z w':=by
  intro k;induction k with
  | zero=>intro s a w h;cases h
  | succ k ih =>
   intro s a w h E;rw[ah] at h;cases A:f s with
   | none=>rw[A] at h;cases h
   | some o' =>
    rw[A] at h;obtain ⟨e,g,i,p,d⟩:=round s o' A (fun B=>by
     cases o' with
     | nxt m=>exact absurd rfl (B m)
     | brk m=>exact ad h
     | ret r=>exact ad h) a w E b (.inLoop c::it) cs
    cases e with
    | normal =>
     obtain ⟨m,rfl,q⟩:=p;obtain ⟨v,u,y,t,j⟩:=ih m g i h q;exact ⟨v,u,y,t,.of_steps (Steps.trans d (.one step_inLoop)) j⟩
    | exit id=>exact ⟨_,g,i,p,.pass (x:=.inLoop c) rfl (fun _ _=>.inl (by simp)) d⟩
    | goto l=>exact ⟨_,g,i,p,.pass (x:=.inLoop c) rfl (fun _ _=>.inl (by simp)) d⟩
    | ret=>exact ⟨_,g,i,p,.pass (x:=.inLoop c) rfl (fun _ _=>.inl (by simp)) d⟩
    | panic ch=>exact ⟨_,g,i,p,.pass (x:=.inLoop c) rfl (fun _ _=>.inl (by simp)) d⟩
    | outgrown=>exact ⟨_,g,i,p,.pass (x:=.inLoop c) rfl (fun _ _=>.inl (by simp)) d⟩
 obtain ⟨e,z,w',p,d⟩:=key k s a w h D;exact ⟨e,z,w',p,.of_steps (.one step_loop) d⟩
theorem TV {ops:Array Oper} {o:Oper} {rest:List Oper} {g d:Nat} {want b:Bool} (c:Agr n a L) (hs:St I w0 w C) (f:o.guard=some (g,want)) (i:((ops[g]?).bind (·.dst))=some d) (hv:L.lookup d=some (.bool b)) (l:b= !want) (j:dstOk n o.dst=true)
  (k: ∀a,Agr n a (Tz o.dst undef L)->wpList P ops Q rest a w):wpList P ops Q (o::rest) a w:=by
 refine wpList_skip ?_ (k _ (c.put undef j));have h:=c.2.2 d _ hv;unfold Region.wanted yielded;rw[f];simp only;rw[i];simp only[aa];rw[Array.getD_eq_getD_getElem?] at h;cases e:a.tmps[d]? with
 | none=>rw[e] at h;cases h
 | some u =>
  rw[e] at h;simp only[Option.getD_some] at h;rw[h];simp only[l];cases want <;> rfl
theorem TW {ops:Array Oper} {o:Oper} {rest:List Oper} {g d:Nat} {want b:Bool} {l rn:List Ch} {fact:Value->Prop} {gv:Value->List Ch} (e:Agr n a L) (hs:St I w0 w l) (s:o.guard=some (g,want)) (z:((ops[g]?).bind (·.dst))=some d) (hv:L.lookup d=some (.bool b)) (r:b=want) (j:OpT P I w0 o (evL L) rn fact gv) (hp:l.Perm (rn++C)) (p:(F9 L o&&dstOk n o.dst&&noSelect o)=true)
  (k: ∀v a w,fact v->Agr n a (Tz o.dst v L)->St I w0 w (gv v++C)->wpList P ops Q rest a w):wpList P ops Q (o::rest) a w:=by
 simp only[aj] at p;obtain ⟨⟨c,i⟩,f⟩:=p;have A:Region.wanted o (yielded ops a.tmps)=true:=by
  have h:=e.2.2 d _ hv;unfold Region.wanted yielded;rw[s];simp only;rw[z];simp only[aa];rw[Array.getD_eq_getD_getElem?] at h;cases m:a.tmps[d]? with
  | none=>rw[m] at h;cases h
  | some u =>
   rw[m] at h;simp only[Option.getD_some] at h;rw[h];simp[r]
 refine BigFrame.wpList_want A fun K y=>?_;have q:execOp a.eval o=execOp (evL L) o:=sZ f fun x t=>e.eval ((List.all_eq_true.1 c) x (by simpa using t));have h:=j w C (hs.perm hp);rw[<-q] at h;exact h.wp fun v w' hv=>y _ _ (k v _ w' hv.1 (e.put v i) hv.2)
end
section
variable {P:Program} {I J:Hp} {w0 w w':World} {cs C:List Ch} {n:Nat} {a:Act} {L L':List (Nat×Value)} {Q:Exit->Act->World->Prop} {o:Oper} {ev:Operand->Value}
theorem nrm {K:Act->World->Prop} (h:K a w):Exit.then K Q .normal a w:=h
theorem afs {id:Nat} (h:Q .normal a w):Exit.inBlock id Q .normal a w:=h
theorem Yh {K:Act->World->Prop} {id:Nat} (h:Q (.exit id) a w):Exit.then K Q (.exit id) a w:=h
theorem Yi {K:Act->World->Prop} (h:Q .ret a w):Exit.then K Q .ret a w:=h
theorem aeP {id:Nat} (h:Q .ret a w):Exit.inBlock id Q .ret a w:=h
theorem two (b:Bool):b=false\/b=true:=by cases b <;> simp
theorem Hd.one {v:Value} {n:Nat} (h:Hd v n):v.oneCell'=true:=by obtain ⟨_,_,rfl,_⟩:=h;rfl
def J6 (place:Nat->Option (Nat×Nat)) (cells:List Value):List (Nat×List Value)->Option (List Value)
 | [] =>some cells
 | (i,l)::rest=>match place i with
  | none=>none
  | some (off,size)=>if l.length=size/\off+size<=cells.length then J6 place (cells.take off++l++cells.drop (off+size)) rest else none
theorem WH {place:Nat->Option (Nat×Nat)} : ∀ {parts:List (Nat×Value)} {ls:List (Nat×List Value)} {cells r:List Value},parts.map (fun p=>(p.1,p.2.cells))=ls.map (fun p=>(p.1,p.2.toArray))->J6 place cells ls=some r->Instr.fill place cells.toArray parts=some r.toArray
 | [],[],cells,r,_,h=>by grind[J6,Instr.fill,ad]
 | [],_::_,cells,r,b,h=>by grind
 | _::_,[],cells,r,b,h=>by grind
 | (i,u)::parts,(j,l)::ls,cells,r,b,h=>by
  simp[List.map_cons,List.cons.injEq,Prod.mk.injEq] at b;obtain ⟨⟨rfl,d⟩,b⟩:=b;rw[J6] at h;rw[Instr.fill];cases hp:place i with
  | none=>grind
  | some q =>
   have ⟨off,size⟩:=q;rw[hp] at h;simp only at h⊢;split at h
   ·rename_i f;rw[d];rw[if_neg (by grind)];have g:=Pm l off cells.toArray (by grind);have e:(l.toArray.zipIdx.foldl (fun cs (c,j)=>cs.setIfInBounds (off+j) c) cells.toArray)=(cells.take off++l++cells.drop (off+size)).toArray:=by
     rw[<-f.1];apply Array.ext';rw[g]
    rw[e];exact WH b h
   grind
def TB (P:Program) (T:TypeId) (pl:List (Nat×Nat)):Prop:= ∃fs,P.underlying T=some (.struct fs)/\fs.toList.mapM (fun f=>(P.info? f.type).map fun i=>(f.offset,i.size))=some pl
def peq:List (Nat×Value)->List (Nat×List Value)->Prop
 | [],[] =>True
 | (i,u)::p,(j,l)::q=>i=j/\u.cells=l.toArray/\peq p q
 | _,_=>False
theorem Pq: ∀ {p:List (Nat×Value)} {q:List (Nat×List Value)},peq p q->p.map (fun p=>(p.1,p.2.cells))=q.map (fun p=>(p.1,p.2.toArray))
 | [],[],_=>rfl
 | (i,u)::p,(j,l)::q,h=>by
  obtain ⟨rfl,c,b⟩:=h;rw[List.map_cons,List.map_cons,Pq b,c]
 | [],_::_,h=>h.elim
 | _::_,[],h=>h.elim
theorem Ps {T:TypeId} {z:Value} {m b:Nat} {parts:Array (Nat×Operand)} {c r:List Value} (ls:List (Nat×List Value)) {e:List (Nat×Nat)} (h:TB P T e) (g:TZ P T z m b) (f:z.cells=c.toArray) (q:o.op= .build T parts)
  (d:peq (parts.toList.map fun p=>(p.1,ev p.2)) ls) (u:J6 (e[·]?) c ls=some r):OpT P I w0 o ev [] (· = .agg r.toArray) (fun _=>[]):=by
 refine bz fun w=>?_;have ⟨fs,s,k⟩:=h;obtain ⟨i,t,j,-,-⟩:=info_parts g;have l:=WH (place:=fun i=>e.toArray[i]?) (cells:=c) (r:=r) (parts:=(parts.map fun (i,x)=>(i,ev x)).toList) (by rw[Array.toList_map];exact Pq d) (by grind);simp_all[Program.built,execOp,Sem.run_bind,run_build]
def aM {R S T:Type} (x:Option (Out R S)) (kr:R->Option T) (k:S->Option T):Option T:=
 match x with
 | some (.brk s)=>k s
 | some (.ret r)=>kr r
 | _=>none
theorem NJ {R S T:Type} {x:Option (Out R S)} {b:R->Option T} {k:S->Option T} {t:T} (h:aM x b k=some t): ∃o,x=some o/\((∃s,o= .brk s/\k s=some t)\/ ∃r,o= .ret r/\b r=some t):=by
 unfold aM at h;grind
def zW {S T:Type} (x:Option (T ⊕ S)) (k:S->Option T):Option T:=
 match x with
 | some (.inr s)=>k s
 | some (.inl t)=>some t
 | none=>none
theorem E4 {S T:Type} {x:Option (T ⊕ S)} {k:S->Option T} {t:T} (h:zW x k=some t): ∃o,x=some o/\((∃s,o= .inr s/\k s=some t)\/o= .inl t):=by
 unfold zW at h;grind
def vg:Value->List Nat->Value
 | v,[] =>v
 | .tuple vs,i::l=>vg (vs.getD i undef) l
 | .agg cs,i::l=>vg (cs.getD i undef) l
 | .func _ _ cs,i::l=>vg (cs.getD i undef) l
 | _,_::_=>undef
theorem St.nil {α:Type} {R:Rep α} {E:TypeId} (h:St I w0 w cs):St I w0 w (Ch.own (aA E R) [.slice none 0 0] ([] :List α)::cs):=
 h.free ⟨by simp,.inl ⟨rfl,rfl,rfl⟩⟩
theorem WI {α:Type} {R:Rep α} {E:TypeId} :(aA E R).rd I [.slice none 0 0] ([] :List α):=⟨none,0,rfl,by simp,.inl rfl⟩
theorem OwnEls.stay' {α:Type} {R:Rep α} (b:R.Sh) (c:Cpy R R): ∀ {xs:List α} {cur:List Value},OwnEls R I w cur xs [] ->OwnEls R I w' cur xs []
 | [],_,h=>h
 | x::xs,cur,⟨d,rest,G,K,h1,h2,h3,h4,h5⟩=>by
  have e:K= []:=by simp at h3;exact h3.2
  subst e;exact ⟨d,rest,[],[],h1,h2,rfl,c (b h4).2,h5.stay' b c⟩
def Upd {α β:Type} (R:Rep α) (off:Nat) (S:Rep β) (u:α->β->α):Prop:= ∀I c x d y,R.rd I c x->S.rd I d y->R.rd I (spl c off d) (u x y)
theorem E5: ∀(d c:List Value) (off:Nat),off+d.length<=c.length->spl c off d=c.take off++d++c.drop (off+d.length)
 | [],c,off,h=>by simp[spl]
 | v::d,c,off,h=>by
  rw[aw] at h;rw[spl,E5 d _ _ (by grind)];have b:(c.set off v).take (off+1)=c.take off++ [v]:=by
   rw[List.take_add_one,List.take_set_of_le (ay _),List.getElem?_set_self (by omega)];rfl
  grind[List.drop_set_of_lt,aw]
theorem Upd.self {α:Type} {R:Rep α} :Upd R 0 R (fun _ y=>y):=by
 intro I c x d y h k;rw[E5 _ _ _ (by rw[R.rd_len h,R.rd_len k];omega),R.rd_len k,<-R.rd_len h];grind
theorem yn: ∀(d c e:List Value) (off:Nat),off+d.length<=c.length->spl (c++e) off d=spl c off d++e
 | [],c,e,off,h=>rfl
 | v::d,c,e,off,h=>by
  rw[aw] at h;rw[spl,spl,List.set_append_left _ _ (by omega),yn d _ e _ (by grind)]
theorem sf: ∀(d c e:List Value) (off:Nat),spl (c++e) (c.length+off) d=c++spl e off d
 | [],c,e,off=>rfl
 | v::d,c,e,off=>by
  rw[spl,spl,List.set_append_right _ _ (by omega),Nat.add_sub_cancel_left,show c.length+off+1=c.length+(off+1) from by omega,sf d]
theorem LP {d c:List Value} {o off:Nat} (h:o<=c.length):(spl c (o+off) d).drop o=spl (c.drop o) off d:=by
 have:=sf d (c.take o) (c.drop o) off
 simp_all
theorem Upd.fst {α β γ:Type} {A:Rep α} {B:Rep β} {S:Rep γ} {off:Nat} {u:α->γ->α} (hs:off+S.size<=A.size) (h:Upd A off S u):Upd (uq A B) off S (fun x y=>(u x.1 y,x.2)):=by
 rintro I c x d y ⟨f,g,rfl,b,e⟩ k;rw[yn _ _ _ _ (by rw[A.rd_len b,S.rd_len k];exact hs)];exact ⟨_,g,rfl,h I f x.1 d y b k,e⟩
theorem Upd.snd {α β γ:Type} {A:Rep α} {B:Rep β} {S:Rep γ} {off:Nat} {u:β->γ->β} (h:Upd B off S u):Upd (uq A B) (A.size+off) S (fun x y=>(x.1,u x.2 y)):=by
 rintro I c x d y ⟨f,g,rfl,b,e⟩ k;rw[<-A.rd_len b,sf];exact ⟨f,_,rfl,b,h I g x.2 d y e k⟩
theorem OwnEls.set {α:Type} {R:Rep α} (g:R.Sh) (f:Cpy R R) {c:List Value} {y:α} (l:R.rd I c y): ∀ {xs:List α} {cur b:List Value} {k:Nat},OwnEls R I w cur xs [] ->k<xs.length->b.length=cur.length->(∀j,j<R.size->b[k*R.size+j]? =c[j]?)->(∀j,j<k*R.size\/k*R.size+R.size<=j->b[j]? =cur[j]?)->OwnEls R I w' b (xs.set k y) []
 | [],_,_,k,_,hk,_,_,_=>by rfl
 | x::xs,cur,b,0,⟨d,rest,G,K,h1,h2,h3,h4,h5⟩,hk,hl,h6,h7=>by
  have i:K= []:=by simp at h3;exact h3.2
  subst i;subst h1;have h:=R.rd_len l;refine ⟨c,b.drop R.size,[],[],?_,h,rfl,f l,?_⟩
  ·apply List.ext_getElem?;grind
  ·have e:b.drop R.size=rest:=by
    apply List.ext_getElem?;intro j;rw[List.getElem?_drop,h7 _ (.inr (by omega)),List.getElem?_append_right (by omega)];congr 1;omega
   rw[e];exact h5.stay' g f
 | x::xs,cur,b,k+1,⟨d,rest,G,K,h1,h2,h3,h4,h5⟩,hk,hl,h6,h7=>by
  have i:K= []:=by simp at h3;exact h3.2
  subst i;subst h1;have p:(k+1)*R.size=k*R.size+R.size:=by grind
  refine ⟨d,b.drop R.size,[],[],?_,h2,rfl,f (g h4).2,?_⟩
  ·apply List.ext_getElem?;grind
  ·refine OwnEls.set g f l (cur:=rest) h5 (by simpa using hk) ?_ (fun j m=>?_) (fun j m=>?_)
   ·rw[bq,hl,au];omega
   ·rw[List.getElem?_drop,<-h6 j m];congr 1;omega
   ·rw[List.getElem?_drop,h7 _ (by omega),List.getElem?_append_right (by omega)];congr 1;omega
theorem Pt {c d:List Value} {off j:Nat} (h:off+d.length<=c.length):(spl c off d)[j]? =if off<=j/\j<off+d.length then d[j - off]? else c[j]? :=by
 grind[E5,az]
theorem H7 {α β:Type} {E T:TypeId} {R:Rep α} {S:Rep β} {agg:Bool} {n k off:Nat} {f:α->β->α} {x y:Operand} {v u:Value} {xs:List α} {a:α} {b:β} {i:Int} {d:List Value} (U:R.Sh) (hc:Cpy R R) (ha:aO xs i=some a) (hU:Upd R off S f) (hT:TI P T agg n) (ho:o.op= .store T x y) (hx:ev x=pt v (i.toNat*k+off)) (hy:ev y=u) (hu:u.cells=d.toArray) (h1:d.all (·.oneCell')=true) (hd:d.length=n) (W:R.size=k) (hS:off+n<=k) (q:S.rd I d b) :
  OpT P I w0 o ev [Ch.own (aA E R) [v] xs] (fun _=>True) (fun _=>[Ch.own (aA E R) [v] (xs.set i.toNat (f a b))]):=by
 intro w C hs;have Y:=xo ha;have N:=(List.getElem?_eq_some_iff.1 Y).1;obtain ⟨m,hi,F,⟨G,K,rfl,⟨hl,e2⟩,e3⟩,p,hI⟩:=hs;rcases e2 with ⟨hv,rfl,rfl⟩ | ⟨g,l,cap,cur,K1,hv,t,k2,k3,k4,rfl,D⟩
 ·grind
 obtain rfl:v= .slice (some ⟨g,l,none⟩) xs.length cap:=by grind
 have:=D.sh U
 subst this;have ⟨c,c1,c2,c3⟩:=D.at Hp.le.rfl (by simp) i.toNat a Y;have V:l+(i.toNat*k+k)<=cur.size:=by
  have M:=k4;rw[W] at M
  have:(i.toNat+1)*k<=cap*k:=Nat.mul_le_mul_right _ (by omega)
  rw[Nat.add_mul,Nat.one_mul] at this;omega
 have Z:cur.toList.length=cur.size:=Array.length_toList;have hld:(cur.toList.drop l).length=cur.size - l:=by grind
 have hr:=LL (P:=P) (w:=w) hT (g:=g) (o:=l+(i.toNat*k+off)) hu hd (fun j A=>by
  simp[World.cell?,t,Option.isSome_none,Bool.false_eq_true,ite_false];grind) (fun j=>by simp[World.frozen?,t]) (fun v hv=>List.all_eq_true.1 h1 v hv)
 simp only[execOp,ho,hx,hy,pt,ptB,ptO,Sem.run_bind,hr,Result.andThen_ok];refine ⟨trivial,?_⟩;have H: ∀(d:List Value) (o:Nat) (w:World),(rA w g o d).os=w.os/\(rA w g o d).tape=w.tape/\(rA w g o d).output=w.output/\(rA w g o d).heap.size=w.heap.size/\ ∀b,b≠g->(rA w g o d).heap[b]? =w.heap[b]? :=by
  intro d;induction d with
  | nil=>intro o w;exact ⟨rfl,rfl,rfl,rfl,fun _ _=>rfl⟩
  | cons v d ih =>
   intro o w;have ⟨i1,i2,i3,i4,i5⟩:=ih (o+1) (w.setCell ⟨g,o,none⟩ v);exact ⟨i1,i2,i3,i4.trans (by simp_all),fun b q=>(i5 b q).trans (Below.heap_setCell _ _ _ _ q)⟩
 have r: ∀(d:List Value) (o:Nat) (w:World) (cur:Array Value),w.heap[g]? =some (.cells cur E (0,0))->(rA w g o d).heap[g]? =some (.cells (spl cur.toList o d).toArray E (0,0)):=by
  intro d;induction d with
  | nil=>simp_all[rA,spl]
  | cons v d ih =>
   intro o w cur h
   have:=ih (o+1) (w.setCell ⟨g,o,none⟩ v) (cur.setIfInBounds o v) (iC h)
   rw[Array.toList_setIfInBounds] at this;exact this
 have ⟨q1,q2,q3,q4,X⟩:=H d (l+(i.toNat*k+off)) w;have B:g∉K:=by rw[List.cons_append] at p;simpa using (List.nodup_cons.1 p).1
 have hcl:c.length=k:=by omega
 have s:=hU I c a d b c3 q;refine ⟨⟨q1.trans m.1,q2.trans m.2.1,q3.trans m.2.2.1,by omega⟩,fun b o O=>?_,[g] ++K,⟨[g],K,rfl,⟨by grind,.inr ⟨g,l,cap,_,[],by grind,r d _ w cur t,by grind,k3,by grind[List.size_toArray,zV],rfl,?_⟩⟩,e3.stay fun b q=>X b fun e=>B (e ▸ q)⟩,p,hI⟩
 ·show (rA w g (l+(i.toNat*k+off)) d).heap[b]? =some o;rw[X b fun e=>by grind];exact hi b o O
 ·have z: ∀j,(spl (cur.toList.drop l) (i.toNat*k+off) d)[j]? =if i.toNat*k+off<=j/\j<i.toNat*k+off+d.length then d[j - (i.toNat*k+off)]? else (cur.toList.drop l)[j]? :=fun j=>Pt (by omega);rw[LP (by omega)];refine OwnEls.set (w:=w) U hc s (cur:=cur.toList.drop l) D N (by rw[zV]) (fun j A=>?_) (fun j A=>?_)
  ·rw[W] at A⊢;rw[z,Pt (by omega)];by_cases h:off<=j/\j<off+d.length
   ·rw[if_pos h,if_pos (by omega)];congr 1;omega
   grind
  grind
def mkI {α:Type} (b:Nat) (n:Int) (z:α):Option (List α):=if 0<=n/\n.toNat*b<=140737488355328 then some (List.replicate n.toNat z) else none
theorem Yj {α:Type} {E T:TypeId} {R:Rep α} {z:Value} {n b:Nat} {x y:Operand} {s u:Value} {xs ys zs:List α} (h:bC b xs ys=some zs) (k:P.underlying T=some (.slice E)) (l:TZ P E z n b) (c:z.cells.size=n) (e:0<n) (g:R.size=n) (d:1<=b) (i:o.op= .call { callee:=.builtin .append,args:= #[x,y],argTypes:= #[T,T] }) (j:ev x=s) (m:ev y=u) :
  OpT P I w0 o ev [Ch.own (aA E R) [s] xs,Ch.own (aA E R) [u] ys] (fun _=>True) (fun v=>[Ch.own (aA E R) [v] zs]):=by
 obtain ⟨rfl,f⟩:=ym h;grind[NI]
theorem xp {α:Type} {E T E':TypeId} {R S:Rep α} {z:Value} {n b:Nat} {x y:Operand} {s u:Value} {xs ys zs:List α} (h:bC b xs ys=some zs) (p:Cpy S R) (c:S.size=n) (r:(aA E' S).rd I [u] ys) (l:P.underlying T=some (.slice E)) (m:TZ P E z n b) (d:z.cells.size=n) (f:0<n) (i:R.size=n) (e:1<=b) (j:o.op= .call { callee:=.builtin .append,args:= #[x,y],argTypes:= #[T,T] }) (k:ev x=s) (q:ev y=u) :
  OpT P I w0 o ev [Ch.own (aA E R) [s] xs] (fun _=>True) (fun v=>[Ch.own (aA E R) [v] zs]):=by
 obtain ⟨rfl,g⟩:=ym h;grind[Eu]
theorem H8 {α:Type} {E T:TypeId} {R:Rep α} {z:Value} {n b:Nat} {x y:Operand} {s u:Value} {xs ys zs:List α} (h:bC b xs ys=some zs) (c:R.Sh) (p:Cpy R R) (l:P.underlying T=some (.slice E)) (m:TZ P E z n b) (d:z.cells.size=n) (f:0<n) (i:R.size=n) (e:1<=b) (j:o.op= .call { callee:=.builtin .append,args:= #[x,y],argTypes:= #[T,T] }) (k:ev x=s) (q:ev y=u) :
  OpT P I w0 o ev [Ch.own (aA E R) [s] xs,Ch.own (aA E R) [u] ys] (fun _=>True) (fun v=>[Ch.own (aA E R) [v] zs,Ch.own (aA E R) [u] ys]):=by
 obtain ⟨rfl,g⟩:=ym h;grind[Co]
theorem J7 {v:Value} (h:adI v):v= .pointer (some ⟨bk v,0,none⟩):=by obtain ⟨g,rfl⟩:=h;rfl
theorem OpT.hdk {rn:List Ch} {fact:Value->Prop} {gv:Value->List Ch} {α:Type} {E:TypeId} {R:Rep α} {xs:List α} (u:Value->Value) (k:Nat) (c: ∀v,(gv v)[k]? =some (Ch.own (aA E R) [u v] xs)) (h:OpT P I w0 o ev rn fact gv):OpT P I w0 o ev rn (fun v=>fact v/\Hd (u v) xs.length) gv:=by
 intro w C d;refine (h w C d).imp fun v w hv=>⟨⟨hv.1,?_⟩,hv.2⟩
 have b:=(List.getElem?_eq_some_iff.1 (c v)).1;exact (hv.2.hd k (by rw[List.getElem?_append_left b];exact c v)).1
theorem NK {ops:Array Oper} {rest:List Oper} {g d:Nat} {want:Bool} (b:Agr n a L) (hs:St I w0 w C) (c:o.guard=some (g,want)) (e:((ops[g]?).bind (·.dst))=some d) (hv:L.lookup d=some undef) (f:dstOk n o.dst=true)
  (k: ∀a,Agr n a (Tz o.dst undef L)->wpList P ops Q rest a w):wpList P ops Q (o::rest) a w:=by
 refine wpList_skip ?_ (k _ (b.put undef f));have h:=b.2.2 d _ hv;unfold Region.wanted yielded;rw[c];simp only;rw[e];simp only[aa];rw[Array.getD_eq_getD_getElem?] at h;cases i:a.tmps[d]? with
 | none=>rfl
 | some u =>
  rw[i] at h;simp[Option.getD_some] at h;rw[h];rfl
theorem Yk {x y:Operand} {t u:TypeId} {a b:ByteArray} (c:o.op= .binOp .eql t x y u) (d:ev x= .string a) (e:ev y= .string b):OpT P I w0 o ev [] (· = .bool (a==b)) (fun _=>[]):=
 bz fun w=>by rw[beq_toListBytes];simp[execOp,c,d,e];rfl
theorem Yl {x y:Operand} {t u:TypeId} {a b:ByteArray} (c:o.op= .binOp .neq t x y u) (d:ev x= .string a) (e:ev y= .string b):OpT P I w0 o ev [] (· = .bool (a !=b)) (fun _=>[]):=
 bz fun w=>by unfold bne;rw[beq_toListBytes];simp[execOp,c,d,e];rfl
def EqT (P:Program) (t:TypeId) (x y:Value) (b:Bool) (w:World):Prop:=(Op.equal t x y).run P w= .ok b w/\(eqGuard .eql t (.const x) (.const y) x y).run P w= .ok () w/\(eqGuard .neq t (.const x) (.const y) x y).run P w= .ok () w
theorem Ym {x y:Operand} {t u:TypeId} {e d:Array Value} {b:Bool} (h: ∀w,EqT P t (.agg e) (.agg d) b w) (i:o.op= .binOp .eql t x y u) (j:ev x= .agg e) (p:ev y= .agg d) {c:Bool} (k:b=c):OpT P I w0 o ev [] (· = .bool c) (fun _=>[]):=
 bz fun w=>by
  have ⟨l,f,m⟩:=h w;have g:binOp .eql t (.agg e) (.agg d)=(do pure (.bool (<-Op.equal t (.agg e) (.agg d)))):=rfl;simp_all[eqGuard,execOp,Sem.run_bind,Sem.run_pure,Result.andThen_ok]
theorem Yn {x y:Operand} {t u:TypeId} {e d:Array Value} {b:Bool} (h: ∀w,EqT P t (.agg e) (.agg d) b w) (i:o.op= .binOp .neq t x y u) (j:ev x= .agg e) (p:ev y= .agg d) {c:Bool} (k:(!b)=c):OpT P I w0 o ev [] (· = .bool c) (fun _=>[]):=
 bz fun w=>by
  have ⟨l,f,m⟩:=h w;have g:binOp .neq t (.agg e) (.agg d)=(do pure (.bool (!(<-Op.equal t (.agg e) (.agg d))))):=rfl;simp_all[eqGuard,execOp,Sem.run_bind,Sem.run_pure,Result.andThen_ok]
theorem Gj {d:Nat} {xs ys:Array Value} (w:World):(Op.eqFields d xs ys []).run P w= .ok true w:=rfl
theorem kV {d:Nat} {xs ys:Array Value} {f:Field} {fs:List Field} {e b:Value} {r c:Bool} {w:World} (k:(f.name != "_")=true) (g:(part f.type xs f.offset).run P w= .ok e w) (h:(part f.type ys f.offset).run P w= .ok b w) (i:(Op.equalIn d f.type e b).run P w= .ok r w) (j:(Op.eqFields d xs ys fs).run P w= .ok c w):(Op.eqFields d xs ys (f::fs)).run P w= .ok (r&&c) w:=by
 rw[Op.eqFields,if_pos (by grind)];simp[Sem.run_bind,g,h,i,Result.andThen_ok];cases r
 ·rfl
 grind
theorem je {T:TypeId} {cs:Array Value} {off:Nat} {v:Value} {w:World} (b:TI P T false 1) (h:cs[off]? =some v):(part T cs off).run P w= .ok v w:=by
 unfold part;rw[Sem.run_bind,b.run_agg];simp_all
theorem LQ {t:TypeId} {fs:Array Field} {xs ys:Array Value} {b:Bool} (w:World) (d:P.underlying t=some (.struct fs)) (hp:P.stoodInHeld t=false) (c:P.eqGuardType P.depth t=false) (h:(Op.eqFields 9999 xs ys fs.toList).run P w= .ok b w):EqT P t (.agg xs) (.agg ys) b w:=by
 have e:P.fieldsOf t=fs:=by unfold Program.fieldsOf;rw[d]
 refine ⟨?_,run_eqGuard_agg w _ _ _ _ _ _ c,run_eqGuard_agg w _ _ _ _ _ _ c⟩;grind[Op.equal,Op.maxDepth,run_equalIn_agg]
end
section
variable {P:Program} {I J:Hp} {w0 w w':World} {cs C:List Ch} {n:Nat} {a:Act} {L L':List (Nat×Value)} {o:Oper} {ev:Operand->Value}
end
def Bun (I:Hp) (ls:List Ch) {α:Type} (R:Rep α) (cs:List Value) (x:α):Prop:= ∀w F,Sep I ls w F->R.own I w cs x F
section
variable {P:Program} {I J:Hp} {w0 w w':World} {cs C:List Ch} {n:Nat} {a:Act} {L L':List (Nat×Value)} {o:Oper} {ev:Operand->Value}
theorem Pu {α:Type} {R:Rep α} {c:List Value} {x:α} :Bun I [Ch.own R c x] R c x:=by
 rintro w F ⟨G,K,rfl,b,rfl⟩;rw[List.append_nil];exact b
theorem Yo {α:Type} {E:TypeId} {R:Rep α} :Bun I [] (aA E R) [.slice none 0 0] []:=fun w F h=>⟨Nat.zero_le _,.inl ⟨rfl,rfl,h⟩⟩
theorem abd {α:Type} {R:Rep α} {c:List Value} {x:α} (h:R.rd I c x):Bun I [] (Bx R) c x:=fun w F k=>⟨k,h⟩
theorem TX {α β:Type} {R:Rep α} {S:Rep β} {l m:List Ch} {c d:List Value} {x:α} {y:β} (h:Bun I l R c x) (k:Bun I m S d y):Bun I (l++m) (uq R S) (c++d) (x,y):=by
 intro w F f;obtain ⟨G,K,rfl,b,e⟩:=f.split;exact ⟨c,d,G,K,rfl,rfl,h w G b,k w K e⟩
def uC (I:Hp) (l m:List Ch):Prop:= ∀w F,Sep I l w F->Sep I m w F
theorem yo:uC I [] []:=fun _ _ h=>h
theorem uD {α:Type} {R:Rep α} {l m b:List Ch} {c:List Value} {x:α} (h:Bun I l R c x) (k:uC I m b):uC I (l++m) (Ch.own R c x::b):=by
 intro w F f;obtain ⟨G,K,rfl,d,e⟩:=f.split;exact ⟨G,K,rfl,h w G d,k w K e⟩
theorem OpT.pre {c ls b:List Ch} {fact:Value->Prop} {gv:Value->List Ch} (k:uC I c b) (e:c=ls) (h:OpT P I w0 o ev b fact gv):OpT P I w0 o ev ls fact gv:=by
 subst e;intro w C j;refine h w C ?_;have ⟨l,f,F,m,g,d⟩:=j;obtain ⟨G,K,rfl,i,p⟩:=m.split;exact ⟨l,f,G++K,(k w G i).append p,g,d⟩
def UpdO {α β:Type} (R:Rep α) (off:Nat) (S:Rep β) (u:α->β->α):Prop:= ∀I w c x G d y K,R.own I w c x G->S.own I w d y K-> ∃G' D,R.own I w (spl c off d) (u x y) G'/\(G'++D).Perm (G++K)
theorem UpdO.self {α:Type} {R:Rep α} :UpdO R 0 R (fun _ y=>y):=by
 intro I w c x G d y K h k;rw[E5 _ _ _ (by rw[R.own_len h,R.own_len k];omega),R.own_len k,<-R.own_len h];grind[List.perm_append_comm]
theorem UpdO.fst {α β γ:Type} {A:Rep α} {B:Rep β} {S:Rep γ} {off:Nat} {u:α->γ->α} (hs:off+S.size<=A.size) (h:UpdO A off S u):UpdO (uq A B) off S (fun x y=>(u x.1 y,x.2)):=by
 rintro I w c x F d y K ⟨m,i,l,b,rfl,rfl,e,g⟩ k;rw[yn _ _ _ _ (by rw[A.own_len e,S.own_len k];exact hs)];have ⟨f,D,j,p⟩:=h I w m x.1 l d y K e k;refine ⟨f++b,D,⟨_,i,f,b,rfl,rfl,j,g⟩,?_⟩;grind[aH,List.Perm.append_left,List.perm_append_comm,trans]
theorem UpdO.snd {α β γ:Type} {A:Rep α} {B:Rep β} {S:Rep γ} {off:Nat} {u:β->γ->β} (h:UpdO B off S u):UpdO (uq A B) (A.size+off) S (fun x y=>(x.1,u x.2 y)):=by
 rintro I w c x F d y K ⟨m,i,b,j,rfl,rfl,e,g⟩ k;rw[<-A.own_len e,sf];have ⟨f,D,l,p⟩:=h I w i x.2 j d y K g k;refine ⟨b++f,D,⟨m,_,b,f,rfl,rfl,e,l⟩,?_⟩;grind
theorem OwnEls.setO {α β:Type} {R:Rep α} {S:Rep β} {off:Nat} {f:α->β->α} (m:UpdO R off S f) {d:List Value} {y:β} {j:List Nat} (i:S.own I w d y j) (b:off+S.size<=R.size) :
  ∀ {xs:List α} {cur:List Value} {F:List Nat} {k:Nat} {x:α},OwnEls R I w cur xs F->xs[k]? =some x-> ∃g D,OwnEls R I w (spl cur (k*R.size+off) d) (xs.set k (f x y)) g/\(g++D).Perm (F++j)
 | [],_,_,k,_,_,hk=>by grind
 | z::xs,cur,F,0,x,⟨c,rest,G,K,h1,h2,h3,h4,h5⟩,hk=>by
  simp at hk;subst hk;subst h1;have ⟨l,D,h,p⟩:=m I w c z G d y j h4 i;rw[Nat.zero_mul,Nat.zero_add,yn _ _ _ _ (by rw[h2,S.own_len i];omega)];refine ⟨l++K,D,⟨_,rest,l,K,rfl,by rw[zV];exact h2,rfl,h,h5⟩,?_⟩;grind[aH,List.Perm.append_left,List.perm_append_comm,trans]
 | z::xs,cur,F,k+1,x,⟨c,rest,G,K,h1,h2,h3,h4,h5⟩,hk=>by
  subst h1;obtain ⟨g,D,h,p⟩:=OwnEls.setO m i b h5 (k:=k) (by simpa using hk);have e:(k+1)*R.size+off=c.length+(k*R.size+off):=by rw[h2,Nat.add_mul,Nat.one_mul];omega
  rw[e,sf];refine ⟨G++g,D,⟨c,_,G,g,rfl,h2,rfl,h4,h⟩,?_⟩;grind
theorem Gk {α β:Type} {E T:TypeId} {R:Rep α} {S:Rep β} {ls:List Ch} {agg:Bool} {n k off:Nat} {f:α->β->α} {x y:Operand} {v u:Value} {xs:List α} {a:α} {b:β} {i:Int} {d:List Value} (hB:Bun I ls S d b) (ha:aO xs i=some a) (hU:UpdO R off S f) (hT:TI P T agg n) (ho:o.op= .store T x y) (hx:ev x=pt v (i.toNat*k+off)) (hy:ev y=u) (hu:u.cells=d.toArray) (h1:d.all (·.oneCell')=true) (hd:d.length=n) (hSn:S.size=n) (Y:R.size=k) (hS:off+n<=k) :
  OpT P I w0 o ev (Ch.own (aA E R) [v] xs::ls) (fun _=>True) (fun _=>[Ch.own (aA E R) [v] (xs.set i.toNat (f a b))]):=by
 intro w C hs;have hm:=xo ha;have hlt:=(List.getElem?_eq_some_iff.1 hm).1;obtain ⟨s,hi,F,⟨G,K,rfl,⟨hl,e2⟩,e3⟩,N,hI⟩:=hs;obtain ⟨H,p,rfl,e4,e5⟩:=Sep.split e3;rcases e2 with ⟨hv,rfl,rfl⟩ | ⟨g,c,cap,cur,Z,hv,M,k2,k3,k4,rfl,k5⟩
 ·grind
 obtain rfl:v= .slice (some ⟨g,c,none⟩) xs.length cap:=by grind
 have W:c+(i.toNat*k+k)<=cur.size:=by
  have U:=k4;rw[Y] at U
  have:(i.toNat+1)*k<=cap*k:=Nat.mul_le_mul_right _ (by omega)
  rw[Nat.add_mul,Nat.one_mul] at this;omega
 have hln:cur.toList.length=cur.size:=Array.length_toList;have hr:=LL (P:=P) (w:=w) hT (g:=g) (o:=c+(i.toNat*k+off)) hu hd (fun j hj=>by
  simp[World.cell?,M,Option.isSome_none,Bool.false_eq_true,ite_false];grind) (fun j=>by simp[World.frozen?,M]) (fun v hv=>List.all_eq_true.1 h1 v hv)
 simp only[execOp,ho,hx,hy,pt,ptB,ptO,Sem.run_bind,hr,Result.andThen_ok];refine ⟨trivial,?_⟩;have Q: ∀(d:List Value) (o:Nat) (w:World),(rA w g o d).os=w.os/\(rA w g o d).tape=w.tape/\(rA w g o d).output=w.output/\(rA w g o d).heap.size=w.heap.size/\ ∀b,b≠g->(rA w g o d).heap[b]? =w.heap[b]? :=by
  intro d;induction d with
  | nil=>intro o w;exact ⟨rfl,rfl,rfl,rfl,fun _ _=>rfl⟩
  | cons v d ih =>
   intro o w;have ⟨i1,i2,i3,i4,i5⟩:=ih (o+1) (w.setCell ⟨g,o,none⟩ v);exact ⟨i1,i2,i3,i4.trans (by simp_all),fun b m=>(i5 b m).trans (Below.heap_setCell _ _ _ _ m)⟩
 have z: ∀(d:List Value) (o:Nat) (w:World) (cur:Array Value),w.heap[g]? =some (.cells cur E (0,0))->(rA w g o d).heap[g]? =some (.cells (spl cur.toList o d).toArray E (0,0)):=by
  intro d;induction d with
  | nil=>simp_all[rA,spl]
  | cons v d ih =>
   intro o w cur h
   have:=ih (o+1) (w.setCell ⟨g,o,none⟩ v) (cur.setIfInBounds o v) (iC h)
   rw[Array.toList_setIfInBounds] at this;exact this
 have ⟨q1,q2,q3,q4,O⟩:=Q d (c+(i.toNat*k+off)) w;have ⟨q,D,X,z2⟩:=OwnEls.setO hU (hB w H e4) (by omega) k5 hm;have l:((g::q++p)++D).Perm ((g::Z)++(H++p)):=by
  have p1:((q++p)++D).Perm ((q++D)++p):=by
   rw[aH,aH];exact List.Perm.append_left _ List.perm_append_comm
  have p2:=p1.trans (z2.append_right p);simpa using p2
 have A:=(l.nodup_iff).2 N;have B: ∀b,b∈g::q++p->b∈(g::Z)++(H++p):=fun b m=>l.mem_iff.1 (bj _ m);have r:=(List.nodup_append.1 A).1;have t:=(List.nodup_cons.1 (show (g::(q++p)).Nodup from r)).1;refine ⟨⟨q1.trans s.1,q2.trans s.2.1,q3.trans s.2.2.1,by omega⟩,fun b o V=>?_,(g::q)++p,⟨g::q,p,rfl,⟨by grind,.inr ⟨g,c,cap,_,q,by grind,z d _ w cur M,by grind,k3,by grind[List.size_toArray,zV],rfl,?_⟩⟩,e5.stay fun b m=>O b fun e=>t (bt _ (e ▸ m))⟩,r,fun b m=>hI b (B b m)⟩
 ·show (rA w g (c+(i.toNat*k+off)) d).heap[b]? =some o;rw[O b fun e=>by grind];exact hi b o V
 ·rw[Y] at X;rw[LP (by omega)];exact OwnEls.stay X fun b m=>O b fun e=>t (bj _ (e ▸ m))
def Zro {α:Type} (R:Rep α) (cs:List Value) (z:α):Prop:= ∀(I:Hp) (w:World),R.own I w cs z []
theorem BW {α:Type} {enc:α->Value} {h1: ∀a,(enc a).oneCell'=true} {x:α} :Zro (mT α enc h1) [enc x] x:=fun I w=>⟨rfl,rfl⟩
theorem Yp {α:Type} {E:TypeId} {R:Rep α} :Zro (aA E R) [.slice none 0 0] []:=fun I w=>⟨Nat.zero_le _,.inl ⟨rfl,rfl,rfl⟩⟩
theorem TY {α β:Type} {R:Rep α} {S:Rep β} {c d:List Value} {x:α} {y:β} (h:Zro R c x) (k:Zro S d y):Zro (uq R S) (c++d) (x,y):=fun I w=>⟨c,d,[],[],rfl,rfl,h I w,k I w⟩
theorem Yq {α:Type} {R:Rep α} {c:List Value} {x:α} (h: ∀I,R.rd I c x):Zro (Bx R) c x:=fun I w=>⟨rfl,h I⟩
theorem abe {α:Type} {E T:TypeId} {R:Rep α} {c:Value} {n b:Nat} {x y:Operand} {l:Int} {z:α} {xs:List α} (t:Zro R c.cells.toList z) (Q:P.underlying T=some (.slice E)) (U:TZ P E c n b) (N:o.op= .makeSlice T x y) (D:R.size=n) (hn:0<n) (B:1<=b) (O:ev x= .int .i64 l) (Z:ev y= .int .i64 l) (h:mkI b l z=some xs):OpT P I w0 o ev [] (fun _=>True) (fun v=>[Ch.own (aA E R) [v] xs]):=by
 intro w C S;unfold mkI at h;split at h
 ·rename_i u;have ⟨i,hi,p,q,Y⟩:=info_parts U;have d:c.cells.size=n:=by have:=R.own_len (t I w);rw[Array.length_toList,D] at this;exact this
  have V:=Nat.le_trans (Nat.le_mul_of_pos_right _ B) u.2;have A:=run_make (P:=P) w T E i c Q hi p .i64 .i64 l l u.1 (Int.le_refl _) (by grind) (by omega);rw[q] at A;simp only[execOp,N,O,Z,Sem.run_bind,A,Result.andThen_ok];refine ⟨trivial,?_⟩;have s:=S.alloc (madeCells c.cells (l.toNat*n)).toList E;obtain ⟨f,r,F,⟨G,K,rfl,⟨rfl,H⟩,k⟩,M,X⟩:=s;refine ⟨f,r,[w.heap.size] ++K,⟨[w.heap.size],K,rfl,⟨by grind[List.length_replicate,lim],.inr ⟨w.heap.size,0,l.toNat,_,[],by grind,H,by grind,by unfold maxLen;omega,by grind[madeCells],rfl,?_⟩⟩,k⟩,M,X⟩;have key: ∀(W:World) (m:Nat),OwnEls R I W (madeCells c.cells (m*n)).toList (List.replicate m z) []:=by
   intro W m;induction m with
   | zero=>rfl
   | succ m ih =>
    refine ⟨c.cells.toList,(madeCells c.cells (m*n)).toList,[],[],?_,by grind,rfl,t I W,ih⟩;apply List.ext_getElem?;intro j;by_cases hj:j<n
    ·grind[madeCells,Nat.mod_eq_of_lt]
    ·rw[List.getElem?_append_right (by grind),Array.length_toList,d];by_cases e:j<(m+1)*n
     ·have g:j - n<m*n:=by rw[Nat.add_mul,Nat.one_mul] at e;omega
      simp[madeCells,e,g,d,Array.getElem?_range]
      conv=>lhs;rw[show j=(j - n)+n from by omega,Nat.add_mod_right]
     ·have g: ¬j - n<m*n:=by rw[Nat.add_mul,Nat.one_mul] at e;omega
      simp[madeCells,e,g]
  grind
 grind
end
section
variable {P:Program} {I J:Hp} {w0 w w':World} {cs C:List Ch} {n:Nat} {a:Act} {L L':List (Nat×Value)} {o:Oper} {ev:Operand->Value}
theorem OwnEls.cut2 {α:Type} {R:Rep α} : ∀ {ys zs:List α} {cur:List Value} {F:List Nat},OwnEls R I w cur (ys++zs) F-> ∃b f d e,cur=b++f/\b.length=ys.length*R.size/\F=d++e/\OwnEls R I w b ys d/\OwnEls R I w f zs e
 | [],zs,cur,F,h=>⟨[],cur,[],F,rfl,by simp,rfl,rfl,h⟩
 | y::ys,zs,cur,F,⟨c,rest,G,K,h1,h2,h3,h4,h5⟩=>by
  obtain ⟨b,f,d,e,rfl,g,rfl,i,j⟩:=OwnEls.cut2 (ys:=ys) h5;exact ⟨c++b,f,G++d,e,by rw[h1,aH],by rw[au,h2,g,aw,Nat.add_mul,Nat.one_mul,Nat.add_comm],by rw[h3,aH],⟨c,b,G,d,rfl,h2,rfl,h4,i⟩,j⟩
theorem OwnEls.glue {α:Type} {R:Rep α} : ∀ {ys zs:List α} {e b:List Value} {d K2:List Nat},e.length=ys.length*R.size->OwnEls R I w e ys d->OwnEls R I w b zs K2->OwnEls R I w (e++b) (ys++zs) (d++K2)
 | [],zs,e,b,d,K2,hl,h1,h2=>by
  rw[aD,Nat.zero_mul,List.length_eq_zero_iff] at hl;rw[hl,show d= [] from h1];exact h2
 | y::ys,zs,cur,b,F,K2,hl,⟨c,rest,G,K,h1,h2,h3,h4,h5⟩,h=>by
  subst h1;subst h3;rw[au,h2,aw,Nat.add_mul,Nat.one_mul] at hl;exact ⟨c,rest++b,G,K++K2,by rw[aH],h2,by rw[aH],h4,h5.glue (by omega) h⟩
end
def Reads {κ ε:Type} [DecidableEq κ] (lit:κ->Lit) (ok:κ->Bool) (elit:ε->Lit) (z:ε) (D:DataW Unit) (M:List (κ×ε)):Prop:=
 Maps.IsMap D/\ ∀x,ok x=true->Maps.has D (lit x)=(M.lookup x).isSome/\D.atKey (lit x) (.lit (elit z))= .lit (elit ((M.lookup x).getD z))
def lkM {κ ε:Type} [DecidableEq κ] (M:List (κ×ε)) (x:κ):Option ε:=M.lookup x
structure KeyOk (P:Program) (k:TypeId) {κ:Type} [DecidableEq κ] (val:κ->Value) (lit:κ->Lit) (ok:κ->Bool):Prop where
 keyed:Maps.Keyed P k
 inj: ∀x y,val x=val y->x=y
 key: ∀x,ok x=true->keyOf P k (val x)=some (lit x)
theorem KeyOk.linj {P:Program} {k:TypeId} {κ:Type} [DecidableEq κ] {val:κ->Value} {lit:κ->Lit} {a:κ->Bool} (K:KeyOk P k val lit a) {x y:κ} (b:a x=true) (c:a y=true) (h:lit x=lit y):x=y:=
 K.inj _ _ (K.keyed.inj (K.key x b) (by rw[h];exact K.key y c))
theorem KeyOk.isKey {P:Program} {k:TypeId} {κ:Type} [DecidableEq κ] {val:κ->Value} {lit:κ->Lit} {a:κ->Bool} (K:KeyOk P k val lit a) {x:κ} (b:a x=true):WideAt.IsKeyLit (lit x):=K.keyed.key (K.key x b)
structure EltOk (P:Program) (e:TypeId) {ε:Type} (enc:ε->Value) (elit:ε->Lit) (eok:ε->Bool) (z:ε):Prop where
 plain: ∀i,eok i=true->plainElem (H:=Unit) P e (enc i)=some (.lit (elit i),[])
 inv: ∀v y ps,plainElem (H:=Unit) P e v=some (.lit (elit y),ps)->v=enc y
 zero: ∀w,(zeroValue e).run P w= .ok (enc z) w
 zok:eok z=true
def Ch.mp (P:Program) (k e:TypeId) {κ ε:Type} [DecidableEq κ] (lit:κ->Lit) (ok:κ->Bool) (elit:ε->Lit) (z:ε) (v:Value) (M:List (κ×ε)):Ch where
 holds I w F:= ∃b,v= .map (some b)/\F= [b] /\ ∃n D,w.ownsMap P k (plainElem P e) b n D/\n<=M.length/\Reads lit ok elit z D M
 mono h _:=h
 stay:=by
  rintro I w w' F ⟨b,rfl,rfl,n,D,⟨es,clock,hb,h⟩,h2⟩ hw
  exact ⟨b,rfl,rfl,n,D,⟨es,clock,by rw[hw b (by simp)];exact hb,h⟩,h2⟩
 live:=by
  rintro I w F ⟨b,rfl,rfl,n,D,h,h2⟩ b' hb
  simp at hb;subst hb;exact h.lt
def Yr (n:Int):Lit:=.int .i64 n
def iOk (n:Int):Bool:=(Lit.int .i64 n).wf
def afu (b:Bool):Lit:=.bool b
def bOk (b:Bool):Bool:=true
theorem abf {P:Program} {k:TypeId} (h:P.underlying k=some (.int .i64)):KeyOk P k (fun n:Int=>Value.int .i64 n) Yr iOk:=⟨Maps.int_keyed h,fun x y h=>by simpa using h,fun x a=>Maps.keyOf_int_mk h a⟩
theorem abg {P:Program} {e:TypeId} (h:P.underlying e=some (.int .i64)) (b: ∀w,(zeroValue e).run P w= .ok (.int .i64 0) w):EltOk P e (fun n:Int=>Value.int .i64 n) Yr iOk 0:=
 ⟨fun i c=>plainElem_int h c,fun v y d hp=>by
  obtain ⟨a,rfl,e,-⟩:=plainElem_int_inv h hp
  have:y=a:=by simpa [Yr] using congrArg Prod.fst e
  rw[this],b,by decide⟩
def adJ (x:Int×Int):Lit:=.string (keyBytes [.int .i64 x.1,.int .i64 x.2])
def afv (x:Int×Int):Bool:=(Lit.int .i64 x.1).wf&&(Lit.int .i64 x.2).wf
section
variable {P:Program} {I J:Hp} {w0 w w':World} {cs C:List Ch} {n:Nat} {a:Act} {L L':List (Nat×Value)} {o:Oper} {ev:Operand->Value}
variable {κ ε:Type} [DecidableEq κ] {lit:κ->Lit} {val:κ->Value} {ok:κ->Bool} {enc:ε->Value} {elit:ε->Lit} {eok:ε->Bool} {z:ε}
theorem Pv:Reads lit ok elit z (.map []) ([] :List (κ×ε)):=⟨Maps.isMap_empty,fun x _=>⟨rfl,rfl⟩⟩
theorem Reads.put {k:TypeId} (K:KeyOk P k val lit ok) {D:DataW Unit} {M:List (κ×ε)} (h:Reads lit ok elit z D M) (x:κ) (d:ok x=true) (i:ε):Reads lit ok elit z (D.put (lit x) (.lit (elit i))) ((x,i)::M):=by
 refine ⟨h.1.put _ _,fun y c=>?_⟩;by_cases e:y=x
 ·subst e;rw[List.lookup_cons_self];exact ⟨Maps.has_put_same h.1 (K.isKey c) _,Maps.atKey_put_same h.1 (K.isKey c) _ _⟩
 ·have b:lit y≠lit x:=fun h=>e (K.linj c d h);rw[List.lookup_cons,show (y==x)=false from by simp[e]];exact ⟨by rw[Maps.has_put_other b];exact (h.2 y c).1,by rw[Maps.atKey_put_other b];exact (h.2 y c).2⟩
theorem J8 {t k e:TypeId} (f:o.op= .makeMap t none):OpT P I w0 o ev [] (fun _=>True) (fun v=>[Ch.mp P k e lit ok elit z v []]):=by
 intro w C g;have h:(execOp ev o).run P w= .ok (.value (.map (some w.heap.size))) (w.alloc (.map #[] 0)):=by
  simp only[execOp,f];rfl
 rw[h];refine ⟨trivial,?_⟩;refine St.step (w:=w) (c:=[]) (c':=[Ch.mp P k e lit ok elit z (.map (some w.heap.size)) []]) (w':=w.alloc (.map #[] 0)) g rfl rfl rfl (by simp) ?_;rintro F rfl - -;refine ⟨fun b d _=>?_,[w.heap.size],⟨[w.heap.size],[],rfl,⟨_,rfl,rfl,0,.map [],World.ownsMap_made _ _ _ _,ay _,Pv⟩,rfl⟩,by simp,by simp⟩;show (w.heap.push _)[b]? =_;rw[Array.getElem?_push_lt d,Array.getElem?_eq_getElem d]
def TA (M:List (κ×ε)) (ok:κ->Bool) (eok:ε->Bool) (x:κ) (i:ε):Option (List (κ×ε)):=if M.length<9223372036854775807/\ok x=true/\eok i=true then some ((x,i)::M) else none
theorem NL {t k e:TypeId} {m x y:Operand} {v:Value} {q:κ} {i:ε} {M Q:List (κ×ε)} (K:KeyOk P k val lit ok) (E:EltOk P e enc elit eok z) (Z:P.underlying t=some (.map k e))
  (j:o.op= .mapUpdate t m x y\/o.op= .insert t m x y) (H:ev m=v) (N:ev x=val q) (S:ev y=enc i) (h:TA M ok eok q i=some Q) :
  OpT P I w0 o ev [Ch.mp P k e lit ok elit z v M] (fun _=>True) (fun _=>[Ch.mp P k e lit ok elit z v Q]):=by
 unfold TA at h;split at h
 case isFalse=>cases h
 rename_i A;obtain rfl:=ad h;intro w C Y;obtain ⟨p,T,F,⟨G,u,rfl,⟨b,rfl,rfl,n,D,l,U,X⟩,R⟩,O,B⟩:=Y;obtain ⟨w',d,V,f⟩:=l.update K.keyed Z (by unfold maxLen;omega) (K.key q A.2.1) (E.plain i A.2.2);have W:b∉u:=by simpa using (List.nodup_cons.1 O).1
 have hr:(execOp ev o).run P w= .ok .skip w':=by
  rcases j with j | j
  ·simp only[execOp,j,H,N,S,Sem.run_bind,d,Result.andThen_ok];rfl
  ·simp only[execOp,j,H,N,S,Sem.run_bind,d,Result.andThen_ok];rfl
 rw[hr];refine ⟨trivial,⟨f.os.trans p.1,f.tape.trans p.2.1,f.output.trans p.2.2.1,Nat.le_trans p.2.2.2 f.size⟩,fun c o g=>?_,[b] ++u,⟨[b],u,rfl,⟨b,rfl,rfl,n+1,_,V,by simpa using U,X.put K q A.2.1 i⟩,R.stay fun c g=>?_⟩,O,B⟩
 ·have s:c≠b:=fun e=>by rw[e,B b (by simp)] at g;cases g
  have:=T c o g
  have r:c<w.heap.size:=(Array.getElem?_eq_some_iff.1 this).1;show w'.heap[c]? =some o;rw[f.block c r (fun e=>s (ad e))];exact this
 ·exact f.block c (R.live c g) (fun e=>W (ad e ▸ g))
theorem T0 {t k e:TypeId} {b n:Nat} {D:DataW Unit} {q:κ} {M:List (κ×ε)} (K:KeyOk P k val lit ok) (E:EltOk P e enc elit eok z) (j:P.underlying t=some (.map k e)) (g:ok q=true) (c:w.ownsMap P k (plainElem P e) b n D) (h:Reads lit ok elit z D M) :
  (Instr.lookup t (.map (some b)) (val q) true).run P w= .ok (.tuple #[enc ((M.lookup q).getD z),.bool (M.lookup q).isSome]) w:=by
 obtain ⟨u,m,d,f⟩:=c.look_ok K.keyed j (E.zero w) (E.plain z E.zok) (K.key q g);obtain ⟨i,l⟩:=h.2 q g;rw[l] at f;obtain rfl:=E.inv _ _ _ f;rw[d,i]
theorem J9 {t k e:TypeId} {m x:Operand} {v:Value} {q:κ} {M:List (κ×ε)} (K:KeyOk P k val lit ok) (E:EltOk P e enc elit eok z) (p:ok q=true) (r:P.underlying t=some (.map k e))
  (j:o.op= .lookup t m x true) (h:ev m=v) (l:ev x=val q) :
  OpT P I w0 o ev [Ch.mp P k e lit ok elit z v M] (· = .tuple #[enc ((M.lookup q).getD z),.bool (M.lookup q).isSome]) (fun _=>[Ch.mp P k e lit ok elit z v M]):=by
 intro w C g;have f:=g;obtain ⟨H,y,F,⟨G,N,rfl,⟨b,rfl,rfl,n,D,c,A,i⟩,O⟩,B,u⟩:=g;have d:=T0 K E r p c i;have s:(execOp ev o).run P w= .ok (.value (.tuple #[enc ((M.lookup q).getD z),.bool (M.lookup q).isSome])) w:=by
  simp only[execOp,j,h,l,Sem.run_bind,d,Result.andThen_ok];rfl
 rw[s];exact ⟨rfl,f⟩
theorem H9 {t k e:TypeId} {m x:Operand} {v:Value} {q:κ} {M:List (κ×ε)} (K:KeyOk P k val lit ok) (E:EltOk P e enc elit eok z) (i:ok q=true) (s:P.underlying t=some (.map k e))
  (p:o.op= .lookup t m x false) (j:ev m=v) (r:ev x=val q) :
  OpT P I w0 o ev [Ch.mp P k e lit ok elit z v M] (· =enc ((M.lookup q).getD z)) (fun _=>[Ch.mp P k e lit ok elit z v M]):=by
 intro w C h;have f:=h;obtain ⟨S,H,F,⟨G,T,rfl,⟨b,rfl,rfl,n,D,c,N,l⟩,U⟩,O,B⟩:=h;obtain ⟨u,Q,d,g⟩:=c.lookup K.keyed s (E.zero w) (E.plain z E.zok) (K.key q i);obtain ⟨R,y⟩:=l.2 q i;rw[y] at g;obtain rfl:=E.inv _ _ _ g;have A:(execOp ev o).run P w= .ok (.value (enc ((M.lookup q).getD z))) w:=by
  simp only[execOp,p,j,r,Sem.run_bind,d,Result.andThen_ok];rfl
 rw[A];exact ⟨rfl,f⟩
end
section
variable {P:Program} {I J:Hp} {w0 w w':World} {o:Oper} {ev:Operand->Value}
theorem Ys {x y:Operand} {t u:TypeId} {m n:Int} (a:o.op= .binOp .add t x y u) (b:ev x= .int .u64 m) (c:ev y= .int .u64 n):OpT P I w0 o ev [] (· = .int .u64 (IntKind.u64.wrap (m+n))) (fun _=>[]):=
 bz fun w=>by simp only[execOp,a,b,c];rfl
theorem Yt {x y:Operand} {t u:TypeId} {m n:Int} (a:o.op= .binOp .sub t x y u) (b:ev x= .int .u64 m) (c:ev y= .int .u64 n):OpT P I w0 o ev [] (· = .int .u64 (IntKind.u64.wrap (m - n))) (fun _=>[]):=
 bz fun w=>by simp only[execOp,a,b,c];rfl
theorem Yu {x y:Operand} {t u:TypeId} {m n:Int} (a:o.op= .binOp .mul t x y u) (b:ev x= .int .u64 m) (c:ev y= .int .u64 n):OpT P I w0 o ev [] (· = .int .u64 (IntKind.u64.wrap (m*n))) (fun _=>[]):=
 bz fun w=>by simp only[execOp,a,b,c];rfl
def TC (m n:Int):Int:=bits .and .u64 m n
theorem Yv {x y:Operand} {t u:TypeId} {m n:Int} (a:o.op= .binOp .and t x y u) (b:ev x= .int .u64 m) (c:ev y= .int .u64 n):OpT P I w0 o ev [] (· = .int .u64 (TC m n)) (fun _=>[]):=
 bz fun w=>by simp only[execOp,a,b,c];rfl
theorem Yw {x y:Operand} {t u:TypeId} {m n:Int} (a:o.op= .binOp .shr t x y u) (b:ev x= .int .u64 m) (c:ev y= .int .u64 n) (d:0<=n):OpT P I w0 o ev [] (· = .int .u64 (pA m n)) (fun _=>[]):=
 bz fun w=>by simp[execOp,a,b,c,eqGuard,binOp,Op.shift,show¬n<0 from by omega,Result.andThen,pA,IntKind.bits]
theorem Ia {x:Operand} {s d:TypeId} {k a:IntKind} {m:Int} (hs:P.underlying s=some (.int k)) (e:P.underlying d=some (.int a)) (b:o.op= .convert s d x) (c:ev x= .int k m):OpT P I w0 o ev [] (· = .int a (a.wrap m)) (fun _=>[]):=
 bz fun w=>by simp[execOp,b,c,convert,Conv.intToInt,run_underlying hs,run_underlying e,Result.andThen]
end
def tQ (v:Value) (l h s:Nat):Value:=match v with
 | .slice a _ c=>sliced a l h c s
 | _=>v
section
variable {P:Program} {I J:Hp} {w0 w w':World} {o:Oper} {ev:Operand->Value}
theorem TI.size {T:TypeId} {agg:Bool} {n:Nat} (h:TI P T agg n) (w:World):(sizeOf T).run P w= .ok n w:=by
 obtain ⟨-,a⟩:=h;cases b:P.info? T with
 | none=>grind
 | some i=>simp_all[Program.cellsOf,sizeOf,typeInfo]
theorem xq {t e:TypeId} {x y:Operand} {v:Value} {len n:Nat} {l:Int} {agg:Bool} (c:P.underlying t=some (.slice e)) (i:TI P e agg n) (hv:Hd v len) (f:o.op= .slice t x (some y) none none) (g:ev x=v) (k:ev y= .int .i64 l) (h:0<=l/\l<=len) :
  OpT P I w0 o ev [] (· =tQ v l.toNat len n) (fun _=>[]):=by
 obtain ⟨j,cap,rfl,-⟩:=hv;have b:P.elem t=e:=by simp[Program.elem,c]
 have a:P.underlying t=some (.slice (P.elem t)):=by rw[b];exact c
 refine bz fun w=>?_;have d:=TI.size i w;rw[<-b] at d;simp[execOp,f,g,Option.map_some,Option.map_none,k,Sem.run_bind,run_sliceAt_slice w t _ _ _ _ a,run_slice_l w t j len cap a .i64 l h.1 h.2,d,Result.andThen_ok]
 rfl
theorem xr {t e:TypeId} {x y:Operand} {v:Value} {len n:Nat} {l:Int} {agg:Bool} (c:P.underlying t=some (.slice e)) (i:TI P e agg n) (hv:Hd v len) (f:o.op= .slice t x none (some y) none) (g:ev x=v) (k:ev y= .int .i64 l) (h:0<=l/\l<=len) :
  OpT P I w0 o ev [] (· =tQ v 0 l.toNat n) (fun _=>[]):=by
 obtain ⟨j,cap,rfl,-,m⟩:=hv;have b:P.elem t=e:=by simp[Program.elem,c]
 have a:P.underlying t=some (.slice (P.elem t)):=by rw[b];exact c
 refine bz fun w=>?_;have d:=TI.size i w;rw[<-b] at d;simp[execOp,f,g,Option.map_some,Option.map_none,k,Sem.run_bind,run_sliceAt_slice w t _ _ _ _ a,run_slice_h w t j len cap a .i64 l h.1 (by omega),d,Result.andThen_ok]
 rfl
theorem Ib {t e:TypeId} {x y z:Operand} {v:Value} {len n:Nat} {l h:Int} {agg:Bool} (c:P.underlying t=some (.slice e)) (k:TI P e agg n) (hv:Hd v len) (g:o.op= .slice t x (some y) (some z) none) (i:ev x=v) (p:ev y= .int .i64 l) (j:ev z= .int .i64 h) (f:0<=l/\l<=h/\h<=len) :
  OpT P I w0 o ev [] (· =tQ v l.toNat h.toNat n) (fun _=>[]):=by
 obtain ⟨m,cap,rfl,-,q⟩:=hv;have b:P.elem t=e:=by simp[Program.elem,c]
 have a:P.underlying t=some (.slice (P.elem t)):=by rw[b];exact c
 refine bz fun w=>?_;have d:=TI.size k w;rw[<-b] at d;simp[execOp,g,i,Option.map_some,Option.map_none,p,j,Sem.run_bind,run_sliceAt_slice w t _ _ _ _ a,run_slice_lh w t m len cap a .i64 .i64 l h f.1 f.2.1 (by omega),d,Result.andThen_ok]
 rfl
theorem LR {α:Type} {E:TypeId} {R:Rep α} {v:Value} {xs:List α} {l h n:Nat} (q:(aA E R).rd I [v] xs) (h1:l<=h) (r:h<=xs.length) (s:R.size=n):(aA E R).rd I [tQ v l h n] ((xs.take h).drop l):=by
 have ⟨g,cap,hv,⟨j,f⟩,d⟩:=q;obtain rfl:v= .slice g xs.length cap:=by grind
 have e:((xs.take h).drop l).length=h - l:=by rw[bq,az];omega
 by_cases a:h=l
 ·subst a;have a:(xs.take h).drop h= []:=List.eq_nil_of_length_eq_zero (by omega);rw[a];exact ⟨_,_,by simp only[tQ,sliced];rw[Nat.sub_self];rfl,⟨Nat.zero_le _,Nat.zero_le _⟩,.inl rfl⟩
 ·rcases d with rfl | ⟨b,off,c,t,m,rfl,k,p⟩
  ·grind
  ·refine ⟨some ⟨b,off+l*n,none⟩,cap - l,?_,⟨by omega,by omega⟩,.inr ⟨b,off+l*n,c,t,m,rfl,k,fun i x d=>?_⟩⟩
   ·grind[tQ,sliced,Addr.add_mid]
   grind
theorem LS {α:Type} {E:TypeId} {R:Rep α} {v:Value} {xs:List α} {l n:Nat} (b:(aA E R).rd I [v] xs) (h1:l<=xs.length) (a:R.size=n):(aA E R).rd I [tQ v l xs.length n] (xs.drop l):=by
 have:=LR b h1 (ay _) a
 grind
theorem T1 {α:Type} {E:TypeId} {R:Rep α} {v:Value} {xs:List α} {h n:Nat} (b:(aA E R).rd I [v] xs) (h1:h<=xs.length) (a:R.size=n):(aA E R).rd I [tQ v 0 h n] (xs.take h):=by
 have:=LR b (Nat.zero_le h) h1 a
 grind
theorem mn {α:Type} {enc:α->Value} {h1: ∀a,(enc a).oneCell'=true} : ∀ {xs:List α} {cur:List Value} {K:List Nat},OwnEls (mT α enc h1) I w cur xs K↔K= [] /\ ∃rest,cur=xs.map enc++rest
 | [],cur,K=>⟨fun h=>⟨h,cur,rfl⟩,fun h=>h.1⟩
 | x::xs,cur,K=>by
  constructor
  ·rintro ⟨c,rest,G,d,rfl,-,rfl,⟨rfl,rfl⟩,b⟩;obtain ⟨rfl,r,rfl⟩:=mn.1 b;simp_all
  ·rintro ⟨rfl,r,rfl⟩;exact ⟨[enc x],xs.map enc++r,[],[],rfl,rfl,rfl,⟨rfl,rfl⟩,mn.2 ⟨rfl,r,rfl⟩⟩
def HZ {α:Type} (xs:List α) (lo:Nat) (ys:List α):List α:=xs.take lo++(ys.take (xs.length - lo)++xs.drop (lo+min ys.length (xs.length - lo)))
def Src (w:World) (u:Value) (cs:List Value):Prop:= ∃ao cap,u= .slice ao cs.length cap/\(cs= [] \/ ∃a,ao=some a/\ ∀j v,cs[j]? =some v->w.cell? (a.add j)=some v)
theorem Src.take {u:Value} {cs:List Value} (h:Src w u cs) (n:Nat):n<=cs.length-> ∃b cap,u= .slice b cs.length cap/\(cs.take n= [] \/ ∃a,b=some a/\ ∀j v,(cs.take n)[j]? =some v->w.cell? (a.add j)=some v):=by
 have ⟨b,cap,c,d⟩:=h;grind
theorem Src.of_rd {α:Type} {E:TypeId} {enc:α->Value} {h1: ∀a,(enc a).oneCell'=true} {u:Value} {ys:List α} {e:List Ch} (hs:St I w0 w e) (h:(aA E (mT α enc h1)).rd I [u] ys):Src w u (ys.map enc):=by
 obtain ⟨g,cap,n,-,h⟩:=h;obtain rfl:u= .slice g ys.length cap:=by grind
 refine ⟨g,cap,by simp,?_⟩;rcases h with rfl | ⟨b,off,d,t,m,rfl,k,f⟩
 ·grind
 ·refine .inr ⟨_,rfl,fun j v s=>?_⟩;cases l:ys[j]? with
  | none=>grind
  | some y =>
   have ⟨c,r,p,i⟩:=f j y l;obtain rfl:c= [enc y]:=i;have q:w.heap[b]? =some (.cells d t m):=hs.2.1 b _ k;simp_all[mT,Nat.mul_one,Nat.add_zero,List.getElem?_cons_zero,Option.map_some,Option.some.injEq,Addr.add_mid,World.cell?]
theorem Ic {dT sT ty elem:TypeId} {g o dLen dCap sLen sCap:Nat} {ao:Option Addr} {cur:Array Value} {t:TypeId} {cs:List Value}
  (d:P.underlying dT=some (.slice elem)) (hs:(P.info? elem).map (·.size)=some 1)
  (n:w.heap[g]? =some (.cells cur t (0,0))) (m:cs.length=Nat.min sLen dLen)
  (b:cs= [] \/ ∃a,ao=some a/\ ∀j v,cs[j]? =some v->w.cell? (a.add j)=some v) (k:o+cs.length<=cur.size) (h1: ∀v∈cs,v.oneCell'=true) :
  (Builtin.copy_ #[dT,sT] ty #[.slice (some ⟨g,o,none⟩) dLen dCap,.slice ao sLen sCap]).run P w =
   .ok (goInt cs.length) (w.setRow g (cur.toList.take o++cs++cur.toList.drop (o+cs.length)).toArray):=by
 rcases b with rfl | ⟨a,rfl,h⟩
 ·have f:=m.symm;have e:(w.setRow g (cur.toList.take o++ [] ++cur.toList.drop (o+([] :List Value).length)).toArray)=w:=by
   have:(cur.toList.take o++ [] ++cur.toList.drop (o+([] :List Value).length)).toArray=cur:=by simp
   rw[this];exact setRow_self w g cur t (0,0) n
  rw[e];cases c:P.info? elem with
  | none=>grind
  | some i =>
   have l:i.size=1:=by simpa [c] using hs
   cases ao with
   | none=>simp[Builtin.copy_,run_underlying d,Builtin.lenOf,Builtin.firstCells,sizeOf,typeInfo,c,l,f,storeCells]
   | some a =>
    have p:(loadCells a 0).run P w= .ok #[] w:=run_loadCells_list (P:=P) w a [] (by simp);simp[Builtin.copy_,run_underlying d,Builtin.lenOf,Builtin.firstCells,sizeOf,typeInfo,c,l,f,storeCells,p]
 grind[run_copy_row]
theorem AU {α:Type} {E dT sT:TypeId} {enc:α->Value} {h1: ∀a,(enc a).oneCell'=true} {x y:Operand} {v r u:Value} {xs ys:List α} {lo:Nat} (hT:P.underlying dT=some (.slice E)) (hE:(P.info? E).map (·.size)=some 1)
  (S:o.op= .call { callee:=.builtin .copy,args:= #[x,y],argTypes:= #[dT,sT] }) (hx:ev x=r) (Y:ev y=u) (hlo:lo<=xs.length) (hd:(r=v/\lo=0)\/r=tQ v lo xs.length 1)
  (D: ∀w C,St I w0 w (Ch.own (aA E (mT α enc h1)) [v] xs::C)->Src w u (ys.map enc)) :
  OpT P I w0 o ev [Ch.own (aA E (mT α enc h1)) [v] xs] (· = .int .i64 (min ys.length (xs.length - lo):Nat)) (fun _=>[Ch.own (aA E (mT α enc h1)) [v] (HZ xs lo ys)]):=by
 intro w C hs;obtain ⟨ao,f,rfl,hc⟩:=D w C hs;have hk:min ys.length (xs.length - lo)<=(ys.map enc).length:=by simp;omega
 have q:=Src.take ⟨ao,f,rfl,hc⟩ _ hk;have ⟨N,p,e0,q⟩:=q;obtain ⟨rfl,rfl⟩:ao=N/\f=p:=by grind
 simp only[execOp,S,hx,Y,resolve,Sem.run_bind,Sem.run_pure,Result.andThen_ok,invoke,builtin];have m:(#[x,y] :Array Operand).map ev= #[r,.slice ao (ys.map enc).length f]:=by simp[hx,Y]
 rw[m];obtain ⟨L,W,F,⟨G,K,rfl,⟨hl,e2⟩,e3⟩,h4,h5⟩:=hs;have A:(HZ xs lo ys).length=xs.length:=by
  simp[HZ,au,az,bq];omega
 rcases e2 with ⟨hv,rfl,rfl⟩ | ⟨g,d,cap,cur,K1,hv,O,k2,k3,k4,rfl,k5⟩
 ·
  obtain rfl:v= .slice none 0 0:=by grind
  obtain rfl:lo=0:=by grind
  have n:r= .slice none 0 0:=by
   rcases hd with ⟨rfl,-⟩ | rfl
   ·rfl
   ·rfl
  subst n;have U:(Builtin.copy_ #[dT,sT] o.type #[.slice none 0 0,.slice ao (ys.map enc).length f]).run P w= .ok (goInt 0) w:=by
   cases hq:P.info? E with
   | none=>grind
   | some i =>
    have W:i.size=1:=by simpa [hq] using hE
    cases ao with
    | none=>simp_all[Builtin.copy_,run_underlying,Builtin.lenOf,Builtin.firstCells,sizeOf,typeInfo,storeCells]
    | some a =>
     have h0:=run_loadCells_list (P:=P) w a [] (by simp);simp_all[Builtin.copy_,run_underlying,Builtin.lenOf,Builtin.firstCells,sizeOf,typeInfo,storeCells]
  rw[U];refine ⟨by simp[goInt],L,W,[] ++K,⟨[],K,rfl,⟨?_,.inl ⟨rfl,?_,rfl⟩⟩,e3⟩,h4,h5⟩
  ·omega
  grind
 ·obtain rfl:v= .slice (some ⟨g,d,none⟩) xs.length cap:=by grind
  have V:d+cap<=cur.size:=by have:d+cap*1<=cur.size:=k4;omega
  obtain ⟨rfl,rest,l⟩:=mn.1 k5;have R:(cur.toList.drop d).length=cur.size - d:=by grind
  have s:(cur.toList.take d).length=d:=by rw[az,Array.length_toList];omega
  have n: ∃h dCap,r= .slice (some ⟨g,d+h,none⟩) (xs.length - lo) dCap/\(h=lo\/(xs.length - lo=0/\h<=cap)):=by
   rcases hd with ⟨rfl,rfl⟩ | rfl
   ·grind
   ·by_cases hcl:cap=lo
    ·simp_all[tQ,sliced]
    grind[tQ,sliced,Addr.add_mid]
  obtain ⟨h,dCap,rfl,ho'⟩:=n;have hm:((ys.map enc).take (min ys.length (xs.length - lo))).length=min ys.length (xs.length - lo):=by
   rw[az,List.length_map];omega
  have U:=Ic (P:=P) (w:=w) (dT:=dT) (sT:=sT) (ty:=o.type) (elem:=E) (g:=g) (o:=d+h) (dLen:=xs.length - lo) (dCap:=dCap) (sLen:=(ys.map enc).length) (sCap:=f) (ao:=ao) (cur:=cur) (t:=E) (cs:=(ys.map enc).take (min ys.length (xs.length - lo))) hT hE O
   (by grind) q (by omega) (fun v hv=>by
    grind)
  rw[U,hm];have j:(cur.toList.drop d).take h++(ys.map enc).take (min ys.length (xs.length - lo))++(cur.toList.drop d).drop (h+min ys.length (xs.length - lo))=(HZ xs lo ys).map enc++rest:=by
   by_cases Z:min ys.length (xs.length - lo)=0
   ·rw[Z];have e:HZ xs lo ys=xs:=by
     unfold HZ
     have:ys.take (xs.length - lo)= []:=List.eq_nil_of_length_eq_zero (by grind)
     rw[this,Z,List.nil_append,Nat.add_zero,List.take_append_drop]
    simp_all
   ·have S:h=lo:=by omega
    subst S;rw[l,List.take_append_of_le_length (by grind),List.drop_append_of_le_length (by grind)];grind[HZ,List.map_take,List.map_drop,aH,List.take_eq_take_iff,List.length_map]
  have k:cur.toList.take (d+h)++(ys.map enc).take (min ys.length (xs.length - lo))++cur.toList.drop (d+h+min ys.length (xs.length - lo))=cur.toList.take d++((HZ xs lo ys).map enc++rest):=by
   rw[<-j,List.take_add,Nat.add_assoc,show cur.toList.drop (d+(h+min ys.length (xs.length - lo)))=(cur.toList.drop d).drop (h+min ys.length (xs.length - lo)) from by rw[List.drop_drop]];simp[aH]
  rw[k];have hsz:(cur.toList.take d++((HZ xs lo ys).map enc++rest)).length=cur.size:=by
   have:=congrArg List.length l
   rw[au,List.length_map] at this;rw[au,s,au,List.length_map,A];omega
  have Q:St I w0 w (Ch.own (aA E (mT α enc h1)) [.slice (some ⟨g,d,none⟩) xs.length cap] xs::C):=⟨L,W,[g] ++K,⟨[g],K,rfl,⟨hl,.inr ⟨g,d,cap,cur,[],rfl,O,k2,k3,k4,rfl,k5⟩⟩,e3⟩,h4,h5⟩
  have:=St.step (w:=w) (c:=[Ch.own (aA E (mT α enc h1)) [.slice (some ⟨g,d,none⟩) xs.length cap] xs]) (c':=[Ch.own (aA E (mT α enc h1)) [.slice (some ⟨g,d,none⟩) xs.length cap] (HZ xs lo ys)]) (w':=w.setRow g (cur.toList.take d++((HZ xs lo ys).map enc++rest)).toArray) Q rfl rfl rfl (by simp_all) (by
   rintro F ⟨G2,K2,rfl,⟨hl',M⟩,rfl⟩ - -;rcases M with ⟨T,-,-⟩ | ⟨g',B,z,X,K1',T,k1',k2',k3',V,rfl,H⟩
   ·grind
   obtain ⟨⟨rfl,rfl⟩,rfl⟩:(g=g'/\d=B)/\cap=z:=by grind
   obtain ⟨rfl,-⟩:=mn.1 H;refine ⟨fun b L hn=>?_,[g],⟨[g],[],rfl,⟨by omega,.inr ⟨g,d,cap,(cur.toList.take d++((HZ xs lo ys).map enc++rest)).toArray,[],by rw[A],setRow_heap w g cur _ E _ O,by omega,k3,?_,rfl,mn.2 ⟨rfl,rest,List.drop_left' s⟩⟩⟩,rfl⟩,by simp,by simp⟩
   ·grind[World.setRow]
   grind)
  exact ⟨rfl,this⟩
theorem Ka {α:Type} {E E' dT sT:TypeId} {enc:α->Value} {h1: ∀a,(enc a).oneCell'=true} {x y:Operand} {v c u:Value} {xs ys:List α} {lo:Nat} (k:(aA E' (mT α enc h1)).rd I [u] ys) (f:P.underlying dT=some (.slice E)) (h:(P.info? E).map (·.size)=some 1)
  (d:o.op= .call { callee:=.builtin .copy,args:= #[x,y],argTypes:= #[dT,sT] }) (e:ev x=c) (j:ev y=u) (b:lo<=xs.length) (i:(c=v/\lo=0)\/c=tQ v lo xs.length 1) :
  OpT P I w0 o ev [Ch.own (aA E (mT α enc h1)) [v] xs] (· = .int .i64 (min ys.length (xs.length - lo):Nat)) (fun _=>[Ch.own (aA E (mT α enc h1)) [v] (HZ xs lo ys)]):=
 AU f h d e j b i fun w C g=>Src.of_rd g k
theorem Gl {α:Type} {E dT sT:TypeId} {enc:α->Value} {h1: ∀a,(enc a).oneCell'=true} {x y:Operand} {v e:Value} {xs:List α} {lo hi:Nat} (l:P.underlying dT=some (.slice E)) (n:(P.info? E).map (·.size)=some 1)
  (i:o.op= .call { callee:=.builtin .copy,args:= #[x,y],argTypes:= #[dT,sT] }) (k:ev x=e) (s:ev y=tQ v 0 hi 1) (c:lo<=xs.length) (t:hi<=xs.length) (q:(e=v/\lo=0)\/e=tQ v lo xs.length 1) :
  OpT P I w0 o ev [Ch.own (aA E (mT α enc h1)) [v] xs] (· = .int .i64 (min (xs.take hi).length (xs.length - lo):Nat)) (fun _=>[Ch.own (aA E (mT α enc h1)) [v] (HZ xs lo (xs.take hi))]):=by
 refine AU l n i k s c q fun w C m=>?_;obtain ⟨A,f,F,⟨G,K,rfl,⟨N,r⟩,O⟩,D,z⟩:=m;rcases r with ⟨hv,rfl,rfl⟩ | ⟨g,d,cap,cur,M,hv,h,B,L,H,rfl,p⟩
 ·obtain rfl:v= .slice none 0 0:=by grind
  obtain rfl:hi=0:=by grind
  exact ⟨none,0,rfl,.inl (by simp)⟩
 ·obtain ⟨rfl,rest,b⟩:=mn.1 p;refine ⟨some ⟨g,d,none⟩,cap,by grind[tQ,sliced,Addr.add_mid],.inr ⟨_,rfl,fun j u Q=>?_⟩⟩;simp[Addr.add_mid,World.cell?,h];rw[<-Array.getElem?_toList,<-List.getElem?_drop,b];grind
section
variable {n:Nat} {a:Act} {L:List (Nat×Value)} {Q:Exit->Act->World->Prop} {ops:Array Oper} {rest:List Oper} {C C0 rn_:List Ch} {v:Value} {g d:Nat} {want b:Bool} {fact:Value->Prop} {gv:Value->List Ch}
theorem rn {l:List Oper} (c:Agr n a L) (hs:St I w0 w C) (k: ∀a w,Agr n a L->St I w0 w C->wpList P ops Q l a w):wpList P ops Q l a w:=k a w c hs
end
theorem abh {T:TypeId} {agg:Bool} (h:TI P T agg 1):(P.info? T).map (·.size)=some 1:=h.2
end
def gj:Nat:=(cast (congrArg (fun p:Prop=> {n:Nat // p}) (propext ⟨fun _=>rfl,fun _=>trivial⟩:True=((0:Nat)=0))) (⟨aR,trivial⟩: {n:Nat // True}): {n:Nat // (0:Nat)=0}).1
theorem T2:gj=aR:=by
 have key: ∀(p q:Prop) (h:p=q) (x: {n:Nat // p}),(cast (congrArg (fun p:Prop=> {n:Nat // p}) h) x).1=x.1:=by
  intro p q h x;subst h
  rfl
 exact key True ((0:Nat)=0) (propext ⟨fun _=>rfl,fun _=>trivial⟩) ⟨aR,trivial⟩
inductive Tr (α:Type)
 | nil
 | node (a:α) (kids:List (Tr α))
def Tr.get {α:Type} :Tr α->Option (α×List (Tr α))
 | .nil=>none
 | .node a ks=>some (a,ks)
def Tr.isNil {α:Type} :Tr α->Bool
 | .nil=>true
 | .node _ _=>false
def Kids (I:Hp) (v:Value) (n:Nat) (cc:Nat->Value):Prop:= ∃ao cap,v= .slice ao n cap/\(n<=lim/\n<=cap)/\(n=0\/ ∃g off ccs t fr,ao=some ⟨g,off,none⟩/\I g=some (.cells ccs t fr)/\ ∀i,i<n->ccs.toList[off+i]? =some (cc i))
theorem Kids.mono {I J:Hp} {v:Value} {n:Nat} {cc:Nat->Value} (h:Kids I v n cc) (f:I.le J):Kids J v n cc:=by
 have ⟨i,cap,j,d,b⟩:=h;refine ⟨i,cap,j,d,?_⟩;rcases b with b | ⟨g,off,a,t,l,e,c,k⟩
 ·omega
 ·exact .inr ⟨g,off,a,t,l,e,f _ _ c,k⟩
inductive TreeRd {α:Type} (T:TypeId) (R:Rep α) (I:Hp):Value->Tr α->Prop
 | nil:TreeRd T R I (.pointer none) .nil
 | node {b:Nat} {c:List Value} {v:Value} {a:α} {ks:List (Tr α)} {cc:Nat->Value} (hb:I b=some (.cells (c++ [v]).toArray T (0,0))) (ha:R.rd I c a) (hv:Kids I v ks.length cc)
   (hk: ∀i x,ks[i]? =some x->TreeRd T R I (cc i) x):TreeRd T R I (.pointer (some ⟨b,0,none⟩)) (.node a ks)
section
variable {α:Type} {T E:TypeId} {R:Rep α} {I J:Hp} {w w':World} {v:Value} {x:Tr α} {F:List Nat}
theorem TreeRd.mono (h:TreeRd T R I v x) (a:I.le J):TreeRd T R J v x:=by
 induction h with
 | nil=>exact .nil
 | node hb ha hv hk ih=>exact .node (a _ _ hb) (R.rd_mono ha a) (hv.mono a) ih
theorem TreeRd.one (h:TreeRd T R I v x):v.oneCell'=true:=by cases h <;> rfl
def ov (I:Hp) (w:World) (F:List Nat):Hp:=fun b=>if b∈F then w.heap[b]? else I b
theorem Yx (h:I.le J):(ov I w F).le (ov J w F):=fun b o a=>by
 unfold ov at a⊢;split at a
 ·grind
 ·rw[if_neg ‹_›];exact h b o a
theorem Yy (h: ∀b,b∈F->w'.heap[b]? =w.heap[b]?):ov I w' F=ov I w F:=funext fun b=>by
 grind[ov]
def yp (T:TypeId) (R:Rep α):Rep (Tr α) where
 size:=1
 rd I cs x:= ∃v,cs= [v] /\TreeRd T R I v x
 own I w cs x F:=(∀b,b∈F->b<w.heap.size)/\ ∃v,cs= [v] /\TreeRd T R (ov I w F) v x
 rd_len:=by rintro I cs x ⟨v,rfl,_⟩;rfl
 rd_one:=by rintro I cs x ⟨v,rfl,h⟩ u hu;obtain rfl:=aq hu;exact h.one
 rd_mono:=by rintro I J cs x ⟨v,rfl,h⟩ hJ;exact ⟨v,rfl,h.mono hJ⟩
 own_len:=by rintro I w cs x F ⟨_,v,rfl,_⟩;rfl
 own_one:=by rintro I w cs x F ⟨_,v,rfl,h⟩ u hu;obtain rfl:=aq hu;exact h.one
 own_mono:=by rintro I J w cs x F ⟨h0,v,rfl,h⟩ hJ;exact ⟨h0,v,rfl,h.mono (Yx hJ)⟩
 own_stay:=by
  rintro I w w' cs x F ⟨h0,v,rfl,h⟩ hw
  refine ⟨fun b hb=>?_,v,rfl,by rw[Yy hw];exact h⟩
  have hlt:=h0 b hb
  have:w.heap[b]? =some w.heap[b]:=Array.getElem?_eq_getElem hlt
  rw[<-hw b hb] at this
  exact (Array.getElem?_eq_some_iff.1 this).1
 own_live h:=h.1
 own_rd:=by
  rintro I J w cs x F ⟨h0,v,rfl,h⟩ hJ hB
  refine ⟨v,rfl,h.mono fun b o hb=>?_⟩
  unfold ov at hb
  split at hb
  ·rw[hB b ‹_›];exact hb
  ·exact hJ b o hb
def Pc (R:Rep α):Rep α where
 size:=R.size
 rd:=R.rd
 own I w cs x F:=(cs.length=R.size/\ ∀u∈cs,u.oneCell'=true)/\(∀b,b∈F->b<w.heap.size)/\ ∀J:Hp,I.le J->(∀b,b∈F->J b=w.heap[b]?)->R.rd J cs x
 rd_len:=R.rd_len
 rd_one:=R.rd_one
 rd_mono:=R.rd_mono
 own_len h:=h.1.1
 own_one h:=h.1.2
 own_mono h hJ:=⟨h.1,h.2.1,fun K hK hB=>h.2.2 K (hJ.trans hK) hB⟩
 own_stay:=by
  rintro I w w' cs x F ⟨h0,h1,h⟩ hw
  refine ⟨h0,fun b hb=>?_,fun J hJ hB=>h J hJ fun b hb=>by rw[hB b hb,hw b hb]⟩
  have hlt:=h1 b hb
  have:w.heap[b]? =some w.heap[b]:=Array.getElem?_eq_getElem hlt
  rw[<-hw b hb] at this
  exact (Array.getElem?_eq_some_iff.1 this).1
 own_live h:=h.2.1
 own_rd h hJ hB:=h.2.2 _ hJ hB
theorem Pw {R:Rep α} {cs:List Value} {x:α} {F:List Nat} (h:R.own I w cs x F):(Pc R).own I w cs x F:=
 ⟨⟨R.own_len h,R.own_one h⟩,R.own_live h,fun J b a=>R.own_rd h b a⟩
theorem WJ {R:Rep α} {cs:List Value} {x:α} (h:R.rd I cs x):(Pc R).own I w cs x []:=
 ⟨⟨R.rd_len h,R.rd_one h⟩,fun b a=>(by cases a),fun J c _=>R.rd_mono h c⟩
theorem Yz {R:Rep α} {ls:List Ch} {cs:List Value} {x:α} (h:Bun I ls R cs x):Bun I ls (Pc R) cs x:=fun w F a=>Pw (h w F a)
theorem YA {R:Rep α} {c:List Value} {x:α} (h: ∀I,R.rd I c x):Zro (Pc R) c x:=fun I w=>WJ (h I)
theorem OwnEls.turn {R S:Rep α} (hs:R.size=S.size) (h: ∀c x G,R.own I w c x G->S.own I w c x G): ∀ {xs:List α} {cur:List Value} {F:List Nat},OwnEls R I w cur xs F->OwnEls S I w cur xs F
 | [],cur,F,h0=>h0
 | y::xs,cur,F,⟨c,rest,G,K,h1,h2,h3,h4,h5⟩=>⟨c,rest,G,K,h1,by omega,h3,h _ _ _ h4,OwnEls.turn hs h h5⟩
theorem Px {R:Rep α} {J:Hp} (d:I.le J): ∀ {xs:List α} {cur:List Value} {F:List Nat},(∀b,b∈F->J b=w.heap[b]?)->OwnEls (Pc R) I w cur xs F->OwnEls (Bx R) J w cur xs []
 | [],cur,F,_,h0=>rfl
 | y::xs,cur,F,hB,⟨c,rest,G,K,h1,h2,h3,h4,h5⟩=>by
  subst h3;exact ⟨c,rest,[],[],h1,h2,rfl,⟨rfl,h4.2.2 J d fun b a=>hB b (bj _ a)⟩,Px d (fun b a=>hB b (bt _ a)) h5⟩
theorem St.freeze_els {R:Rep α} {v:List Value} {xs:List α} {cs:List Ch} {w0:World} (h:St I w0 w (Ch.own (aA E (Pc R)) v xs::cs)): ∃J,I.le J/\St J w0 w (Ch.own (aA E (Bx R)) v xs::cs):=by
 obtain ⟨e,n,F,⟨G,K,rfl,⟨l,A⟩,m⟩,j,y⟩:=h;rcases A with ⟨rfl,rfl,rfl⟩ | ⟨g,i,cap,cur,k,hv,p,q,u,s,rfl,t⟩
 ·exact ⟨I,Hp.le.rfl,e,n,[] ++K,⟨[],K,rfl,⟨l,.inl ⟨rfl,rfl,rfl⟩⟩,m⟩,j,y⟩
 ·let J:=fun b=>if b∈k then w.heap[b]? else I b;have c:I.le J:=fun b o a=>by
   grind
  have d:=j;have f:=fun r=>(List.nodup_cons.1 d).1 (bt _ r);have ⟨B,z,C⟩:=List.nodup_append.1 (List.nodup_cons.1 d).2;refine ⟨J,c,e,fun b o a=>?_,[g] ++K,⟨[g],K,rfl,⟨l,.inr ⟨g,i,cap,cur,[],hv,p,q,u,s,rfl,?_⟩⟩,m.mono c⟩,List.nodup_cons.2 ⟨f,z⟩,fun b a=>?_⟩
  ·have a:(if b∈k then w.heap[b]? else I b)=some o:=a;split at a
   ·exact a
   ·exact n b o a
  ·exact Px c (fun b e=>if_pos e) t
  grind
theorem T3:Cpy (yp T R) (yp T R):=by
 rintro I w c x ⟨v,rfl,h⟩;exact ⟨fun b a=>(by cases a),v,rfl,by exact h⟩
theorem T4:Zro (yp T R) [.pointer none] .nil:=fun I w=>⟨fun b a=>(by cases a),_,rfl,.nil⟩
theorem Py {f:List (Tr α)} :(aA E (yp T R)).rd I [v] f↔ ∃d,Kids I v f.length d/\ ∀i x,f[i]? =some x->TreeRd T R I (d i) x:=by
 constructor
 ·rintro ⟨l,cap,e,m,h⟩;obtain rfl:v= .slice l f.length cap:=by grind
  rcases h with rfl | ⟨b,off,a,t,o,rfl,r,p⟩
  ·exact ⟨fun _=>undef,⟨l,cap,rfl,m,.inl rfl⟩,fun i x k=>by grind⟩
  ·refine ⟨fun i=>(a.toList[off+i]?).getD undef,⟨_,cap,rfl,m,.inr ⟨b,off,a,t,o,rfl,r,fun i B=>?_⟩⟩,fun i x k=>?_⟩
   ·have ⟨c,s,A,n⟩:=p i f[i] (List.getElem?_eq_getElem B);simp_all[yp]
   ·have ⟨c,s,A,n⟩:=p i x k;obtain ⟨u,rfl,n⟩:=n;simp_all[yp,undef]
 ·rintro ⟨d,⟨l,cap,rfl,m,h⟩,z⟩;refine ⟨l,cap,rfl,m,?_⟩;rcases h with h | ⟨g,off,a,t,o,y,q,C⟩
  ·grind
  ·refine .inr ⟨g,off,a,t,o,y,q,fun i x k=>⟨[d i],rfl,fun j D=>?_,d i,rfl,z i x k⟩⟩;grind[List.getElem?_eq_some_iff,yp]
theorem LU {p:α×List (Tr α)} (h:(yp T R).rd I [v] x) (a:x.get=some p): ∃b,v= .pointer (some ⟨b,0,none⟩)/\ ∃cells:List Value,I b=some (.cells cells.toArray T (0,0))/\(uq R (aA E (yp T R))).rd I cells p:=by
 have ⟨u,e,h⟩:=h;obtain rfl:v=u:=by grind
 cases h with
 | nil=>cases a
 | node hb ha hv hk =>
  cases ad a;exact ⟨_,rfl,_,hb,_,_,rfl,ha,Py.2 ⟨_,hv,hk⟩⟩
theorem T5 (h:(yp T R).rd I [v] x): ∃a:Option Addr,v= .pointer a/\a.isNone=x.isNil:=by
 have ⟨u,e,h⟩:=h;obtain rfl:v=u:=by grind
 cases h <;> exact ⟨_,rfl,rfl⟩
theorem Pz {b:Nat} {c:List Value} {u:Value} {a:α} {d:List (Tr α)} (i:I b=some (.cells (c++ [u]).toArray T (0,0))) (e:R.rd I c a) (h:(aA E (yp T R)).rd I [u] d):(yp T R).rd I [.pointer (some ⟨b,0,none⟩)] (.node a d):=by
 have ⟨j,f,g⟩:=Py.1 h;exact ⟨_,rfl,.node i e f g⟩
def only (I:Hp) (L:List Nat):Hp:=fun b=>if b∈L then I b else none
theorem p8 {L M:List Nat} (h: ∀b,b∈L->b∈M):(only I L).le (only I M):=fun b o a=>by
 simp_all[only,if_pos]
def Rep.Fin {α:Type} (R:Rep α):Prop:= ∀ {I:Hp} {cs:List Value} {x:α},R.rd I cs x-> ∃L,R.rd (only I L) cs x
theorem Kids.fin {n:Nat} {cc:Nat->Value} (h:Kids I v n cc): ∃L,Kids (only I L) v n cc:=by
 have ⟨e,cap,c,d,a⟩:=h;rcases a with a | ⟨g,off,b,t,j,i,k,f⟩
 ·exact ⟨[],e,cap,c,d,.inl a⟩
 ·exact ⟨[g],e,cap,c,d,.inr ⟨g,off,b,t,j,i,by simp_all[only,if_pos],f⟩⟩
theorem TreeRd.fin (q:R.Fin) (h:TreeRd T R I v x): ∃L,TreeRd T R (only I L) v x:=by
 induction h with
 | nil=>exact ⟨[],.nil⟩
 | @node b c v a ks cc f ha hv hk ih =>
  have ⟨p,m⟩:=q ha;have ⟨j,o⟩:=hv.fin;have key: ∀n,∃L,∀i x,i<n->ks[i]? =some x->TreeRd T R (only I L) (cc i) x:=by
   intro n;induction n with
   | zero=>simp_all
   | succ n ihn =>
    have ⟨L,r⟩:=ihn;cases g:ks[n]? with
    | none=>exact ⟨L,fun i x s d=>by
      grind⟩
    | some y =>
     have ⟨M,l⟩:=ih n y g;refine ⟨L++M,fun i x s d=>?_⟩;by_cases e:i=n
     ·subst e;rw[g] at d;cases ad d;exact l.mono (p8 fun b f=>by grind)
     ·exact (r i x (by omega) d).mono (p8 fun b f=>by grind)
  have ⟨k,t⟩:=key ks.length;refine ⟨b::(p++(j++k)),.node (cc:=cc) (by simp_all[only,if_pos]) (R.rd_mono m (p8 fun b f=>by grind)) (o.mono (p8 fun b f=>by grind)) fun i x g=>?_⟩;grind[List.getElem?_eq_some_iff,mono,p8]
theorem Gn {enc:α->Value} {h1: ∀a,(enc a).oneCell'=true} :(mT α enc h1).Fin:=fun h=>⟨[],h⟩
theorem T6 {α β:Type} {A:Rep α} {B:Rep β} (h:A.Fin) (k:B.Fin):(uq A B).Fin:=by
 rintro I j x ⟨c,d,rfl,a,e⟩;have ⟨L,g⟩:=h a;have ⟨M,i⟩:=k e;exact ⟨L++M,c,d,rfl,A.rd_mono g (p8 fun b f=>by grind),B.rd_mono i (p8 fun b f=>by grind)⟩
def WK:List Nat->List Nat
 | [] =>[]
 | a::l=>if a∈WK l then WK l else a::WK l
theorem BX {b:Nat} : ∀ {l:List Nat},b∈WK l↔b∈l
 | [] =>Iff.rfl
 | a::l=>by
  unfold WK;split
  ·rename_i h;rw[BX,List.mem_cons];exact ⟨.inr,fun k=>k.elim (fun e=>by rw[e];exact BX.1 h) id⟩
  ·rw[List.mem_cons,List.mem_cons,BX]
theorem zX: ∀ {l:List Nat},(WK l).Nodup
 | [] =>List.nodup_nil
 | a::l=>by
  unfold WK;split
  ·exact zX
  ·exact List.nodup_cons.2 ⟨‹_›,zX⟩
def Ch.recl (c:Ch):Prop:= ∀ {I J:Hp} {w:World} {F:List Nat},I.le J->J.le (hp w)->c.holds J w F->(∀b,b∈F->J b=none)-> ∃L,(∀b,b∈L->I b=none/\J b≠none)/\L.Nodup/\c.holds I w (F++L)
theorem PA (e:R.Fin) {cs:List Value} :(Ch.own (yp T R) cs x).recl:=by
 rintro I J w F g d ⟨l,v,rfl,h⟩ j;have ⟨L,k⟩:=h.fin e;let M:=WK (L.filter fun b=>(I b).isNone&&(J b).isSome);have c: ∀b,b∈M↔b∈L/\I b=none/\J b≠none:=fun b=>by
  simp[M,BX,List.mem_filter,aj,Option.isNone_iff_eq_none,Option.isSome_iff_ne_none]
 refine ⟨M,fun b a=>((c b).1 a).2,zX,fun b a=>?_,v,rfl,k.mono fun b o a=>?_⟩
 ·rcases aI a with a | a
  ·grind
  ·have ⟨o,f⟩:=Option.ne_none_iff_exists'.1 ((c b).1 a).2.2;exact (Array.getElem?_eq_some_iff.1 (d b o f)).1
 ·unfold only at a;split at a
  ·unfold ov at a⊢;split at a
   ·grind
   ·cases i:I b with
    | none =>
     rw[if_pos (by grind)];exact d b o a
    | some o' =>
     rw[if_neg (by grind)];rw[<-g b o' i,a] at *
  grind
end
def Ch.back:List Ch->Prop
 | [] =>True
 | c::cs=>(c.deep/\Ch.back cs)\/(c.recl/\Ch.deeps cs)
theorem Ch.back_deeps: ∀ {cs:List Ch},Ch.deeps cs->Ch.back cs
 | [],_=>trivial
 | c::cs,h=>.inl ⟨h.1,back_deeps h.2⟩
theorem St.back {I J:Hp} {w0 w:World} {cs:List Ch} (e:I.le J): ∀ {ds:List Ch},Ch.back ds->St J w0 w (ds++ [Ch.fr I cs])->St I w0 w (ds++cs):=by
 intro ds n ⟨a,v,F,B,p,u⟩;obtain ⟨G,K,rfl,y,k,H,rfl,C,rfl⟩:=B.split;rw[List.append_nil] at p u;have M: ∀b,J b=none->I b=none:=fun b a=>by
  cases D:I b with
  | none=>rfl
  | some o=>rw[e b o D] at a;cases a
 have key: ∀ {ds:List Ch} {G:List Nat},Ch.back ds->Sep J ds w G->(∀b,b∈G->J b=none)-> ∃L,(∀b,b∈L->I b=none/\J b≠none)/\L.Nodup/\ ∃d,d.Perm (G++L)/\Sep I ds w d:=by
  intro ds;induction ds with
  | nil=>intro G _ h _;exact ⟨[],fun b a=>(by cases a),List.nodup_nil,G,by simp,h⟩
  | cons c ds ih =>
   rintro G n ⟨j,q,rfl,r,s⟩ t;rcases n with ⟨hd1,f⟩ | ⟨hd1,f⟩
   ·have ⟨L,i,g,d,l,m⟩:=ih f s fun b a=>t b (bt _ a);exact ⟨L,i,g,j++d,by grind,j,d,rfl,hd1 r,m⟩
   ·have ⟨L,i,g,l⟩:=hd1 e v r fun b a=>t b (bj _ a);refine ⟨L,i,g,(j++L)++q,?_,j++L,q,rfl,l,s.deeps f⟩;grind
 have ⟨L,i,g,d,l,m⟩:=key n y fun b a=>u b (bj _ a);have hp:(d++k).Perm ((G++k)++L):=(l.append_right k).trans (by
  grind)
 refine ⟨a,e.trans v,d++k,m.append C,hp.nodup_iff.2 (List.nodup_append.2 ⟨p,g,fun b E c x A=>?_⟩),fun b z=>?_⟩
 ·grind
 grind
structure LayW (P:Program) (w:World):Prop where
 len: ∃g m,P.globalNamed "internal/bytealg.MaxLen" =some g/\w.cell? ⟨g,0,none⟩=some (.int .i64 m)
 tab:Lib.TabIs P w "internal/strconv.uint64pow10" .u64 Lib.pow10Tab
 syn: ∃tp p,w.var? P "strconv.ErrSyntax" =some #[.iface tp p]
 rng: ∃tp p,w.var? P "strconv.ErrRange" =some #[.iface tp p]
def Lay (P:Program) (J:Hp):Prop:= ∀w:World,J.le (hp w)->LayW P w
theorem Lay.mono {P:Program} {J J':Hp} (h:Lay P J) (a:J.le J'):Lay P J':=fun w b=>h w (a.trans b)
theorem PB {P:Program} {W w:World} {n:String} {cs:Array Value} (d:(hp W).le (hp w)) (h:W.var? P n=some cs):w.var? P n=some cs:=by
 unfold World.var? at h⊢;obtain ⟨g,a,h⟩:=Option.bind_eq_some_iff.1 h;rw[a];show (match w.heap[g]? with | some (.cells cs _ _)=>some cs | _=>none)=some cs;split at h
 ·rename_i c t f b
  have:w.heap[g]? =some (.cells c t f):=d g _ b
  rw[this];exact h
 ·cases h
theorem YB {W w:World} {a:Addr} {v:Value} (c:(hp W).le (hp w)) (h:W.cell? a=some v):w.cell? a=some v:=by
 cases b:W.heap[a.block]? with
 | none=>simp[World.cell?,b] at h
 | some o =>
  have e:w.heap[a.block]? =some o:=c a.block o b;unfold World.cell? at h⊢;rw[b] at h;rw[e];exact h
theorem Lay.of {P:Program} {W:World} (h:LayW P W):Lay P (hp W):=fun w a =>
 ⟨h.len.imp fun g d=>d.imp fun m c=>⟨c.1,YB a c.2⟩,PB a h.tab,h.syn.imp fun t b=>b.imp fun p hp=>PB a hp,h.rng.imp fun t b=>b.imp fun p hp=>PB a hp⟩
end D
namespace R
open Go.RowKit
open D
inductive Ty
 | int (k:IntKind) | bool | str | raw
 | prod (a b:Ty)
 | sl (E:TypeId) (t:Ty)
 | fro (t:Ty)
 | wr (t:Ty)
 | tree (T E:TypeId) (t:Ty)
 | bag (t:Ty)
 deriving DecidableEq
abbrev Raw:= {v:Value // v.oneCell'=true}
def JW:Rep Raw:=mT Raw (·.1) (·.2)
def Ty.den:Ty->Type
 | .int _=>Int
 | .bool=>Bool
 | .str=>ByteArray
 | .raw=>Raw
 | .prod a b=>a.den×b.den
 | .sl _ t=>List t.den
 | .fro t=>t.den
 | .wr t=>t.den
 | .tree _ _ t=>Tr t.den
 | .bag t=>t.den
def Ty.size:Ty->Nat
 | .prod a b=>a.size+b.size
 | .fro t=>t.size
 | .wr t=>t.size
 | .bag t=>t.size
 | _=>1
def Ty.isProd:Ty->Bool
 | .prod _ _=>true
 | .fro t=>t.isProd
 | .wr _=>true
 | .bag t=>t.isProd
 | _=>false
def Ty.rep:(t:Ty)->Rep t.den
 | .int k=>mT Int (.int k) fun _=>rfl
 | .bool=>JX
 | .str=>Pb
 | .raw=>JW
 | .prod a b=>uq a.rep b.rep
 | .sl E t=>aA E t.rep
 | .fro t=>Bx t.rep
 | .wr t=>t.rep
 | .tree T _ t=>yp T t.rep
 | .bag t=>Pc t.rep
def Ty.erase:Ty->Ty
 | .prod a b=>.prod a.erase b.erase
 | .sl _ t=>.sl 0 t.erase
 | .fro t=>t.erase
 | .bag t=>t.erase
 | .wr t=>.wr t.erase
 | t=>t
theorem Ty.rep_size: ∀t:Ty,t.rep.size=t.size
 | .int _=>rfl
 | .bool=>rfl
 | .str=>rfl
 | .raw=>rfl
 | .prod a b=>by show a.rep.size+b.rep.size=_;rw[rep_size a,rep_size b];rfl
 | .sl _ _=>rfl
 | .fro t=>rep_size t
 | .wr t=>rep_size t
 | .tree _ _ _=>rfl
 | .bag t=>rep_size t
theorem Ty.size_pos: ∀t:Ty,0<t.size
 | .int _=>Nat.one_pos
 | .bool=>Nat.one_pos
 | .str=>Nat.one_pos
 | .raw=>Nat.one_pos
 | .prod a b=>Nat.add_pos_left (size_pos a) _
 | .sl _ _=>Nat.one_pos
 | .fro t=>size_pos t
 | .wr t=>size_pos t
 | .tree _ _ _=>Nat.one_pos
 | .bag t=>size_pos t
abbrev Pk:=(α:Type)×(Nat×(Hp->List Value->α->Prop))
def Ty.pk (t:Ty):Pk:=⟨t.den,t.rep.size,t.rep.rd⟩
def WL (p q:Pk):Pk:=⟨p.1×q.1,p.2.1+q.2.1,fun I cs x=> ∃c d,cs=c++d/\p.2.2 I c x.1/\q.2.2 I d x.2⟩
def aeQ (p : Pk) : Pk := ⟨List p.1, 1, fun I cs xs => ∃ ao cap, cs = [.slice ao xs.length cap] /\ (xs.length <= lim /\ xs.length <= cap) /\ (xs = [] \/ ∃ b off ccs t fr, ao = some ⟨b, off, none⟩ /\ I b = some (.cells ccs t fr) /\
    ∀ i x, xs[i]? = some x -> ∃ c : List Value, c.length = p.2.1 /\ (∀ j, j < p.2.1 -> ccs.toList[off + i * p.2.1 + j]? = c[j]?) /\ p.2.2 I c x)⟩
theorem Ty.pk_erase: ∀t:Ty,t.erase.pk=t.pk
 | .int _=>rfl
 | .bool=>rfl
 | .str=>rfl
 | .raw=>rfl
 | .prod a b=>by
  show WL a.erase.pk b.erase.pk=WL a.pk b.pk;rw[pk_erase a,pk_erase b]
 | .sl _ t=>by
  show aeQ t.erase.pk=aeQ t.pk;rw[pk_erase t]
 | .fro t=>pk_erase t
 | .wr t=>pk_erase t
 | .tree _ _ _=>rfl
 | .bag t=>pk_erase t
theorem Ty.pk_eq {t u:Ty} (h:t.erase=u.erase):t.pk=u.pk:=by grind[pk_erase]
def oK (t u:Ty) (d:t.den):Option u.den:=if h:t.erase=u.erase then some (cast (congrArg Sigma.fst (Ty.pk_eq h)) d) else none
theorem YC {p q:Pk} (h:p=q) {I:Hp} {cs:List Value} {d:p.1} (a:p.2.2 I cs d):q.2.2 I cs (cast (congrArg Sigma.fst h) d):=by subst h;exact a
theorem jF {t u:Ty} {d:t.den} {a:u.den} (h:oK t u d=some a) {J:Hp} {cs:List Value} (b:t.rep.rd J cs d):u.rep.rd J cs a:=by
 unfold oK at h;split at h
 ·rename_i c;cases ad h;exact YC (Ty.pk_eq c) b
 grind
def qV (t u:Ty) (d:t.den):Option u.den:=if h:t=u then some (h ▸ d) else none
theorem si {t u:Ty} {d:t.den} {a:u.den} (h:qV t u d=some a): ∃e:t=u,a=e ▸ d:=by
 grind[qV,ad]
def Ty.sh:Ty->Bool
 | .prod a b=>a.sh&&b.sh
 | .sl _ _=>false
 | .fro _=>true
 | .wr t=>t.sh
 | .tree _ _ _=>false
 | .bag _=>false
 | _=>true
theorem Ty.sh_ok: ∀ {t:Ty},t.sh=true->t.rep.Sh
 | .int _,_=>Gg
 | .bool,_=>Yd
 | .str,_=>aa8
 | .raw,_=>Gg (α:=Raw) (enc:=(·.1)) (h1:=(·.2))
 | .prod a b,h=>by
  have h:(a.sh&&b.sh)=true:=h;rw[aj] at h;exact Yc (sh_ok h.1) (sh_ok h.2)
 | .sl _ _,h=>by cases h
 | .fro _,_=>aa7
 | .wr t,h=>sh_ok (t:=t) h
 | .tree _ _ _,h=>by cases h
 | .bag _,h=>by cases h
theorem Ty.cpy: ∀ {t:Ty},t.sh=true->Cpy t.rep t.rep
 | .int _,_=>vK
 | .bool,_=>LO
 | .str,_=>Po
 | .raw,_=>vK (α:=Raw) (enc:=(·.1)) (h1:=(·.2))
 | .prod a b,h=>by
  have h:(a.sh&&b.sh)=true:=h;rw[aj] at h;exact TP (cpy h.1) (cpy h.2)
 | .sl _ _,h=>by cases h
 | .fro _,_=>TO
 | .wr t,h=>cpy (t:=t) h
 | .tree _ _ _,h=>by cases h
 | .bag _,h=>by cases h
def dens:List Ty->Type
 | [] =>Unit
 | [t] =>t.den
 | t::u::ts=>t.den×dens (u::ts)
def lE:List Ty->Type
 | [] =>Unit
 | t::ts=>t.den×lE ts
def toH:(ts:List Ty)->dens ts->lE ts
 | [],_=>()
 | [_],d=>(d,())
 | _::u::ts,d=>(d.1,toH (u::ts) d.2)
def cur:List Ty->Type->Type
 | [],R=>R
 | t::ts,R=>t.den->cur ts R
def app {R:Type} :(ts:List Ty)->cur ts R->lE ts->R
 | [],f,_=>f
 | _::ts,f,d=>app ts (f d.1) d.2
def PC (J:Hp):(ts:List Ty)->List Value->lE ts->Prop
 | [],vs,_=>vs= []
 | t::ts,vs,d=> ∃v cs r,vs=v::r/\Lds t.isProd cs v/\t.rep.rd J cs d.1/\PC J ts r d.2
def mD (agg:Bool) (v:Value):List Value:=match agg with
 | true=>v.cells.toList
 | false=>[v]
def zY:(i:Nat)->(ts:List Ty)->lE ts->Value->List Ch
 | _,[],_,_=>[]
 | i,t::ts,d,v=>Ch.own t.rep (mD t.isProd (vg v [i])) d.1::zY (i+1) ts d.2 v
def resGv:(ts:List Ty)->lE ts->Value->List Ch
 | [t],d,v=>[Ch.own t.rep (mD t.isProd v) d.1]
 | ts,d,v=>zY 0 ts d v
def p9:Value->Bool
 | .agg _=>true
 | _=>false
def resFa:(ts:List Ty)->Value->Prop
 | [t],v=>p9 v=t.isProd
 | ts,v=> ∃vs,v= .tuple vs/\vs.size=ts.length/\ ∀i t,ts[i]? =some t->p9 (vs.getD i undef)=t.isProd
def FnOk (P:Program) (w0:World) (J:Hp) (v:Value) (ps rs:List Ty) (e:cur ps (Option (dens rs))):Prop:=
 ∃k first capt,v= .func (.func k) first capt/\Enters P k/\ ∀J',J.le J'-> ∀args d,PC J' ps args d-> ∀r,app ps e d=some r->Con P k (first.toList++args++capt.toList).toArray J' w0 [] (resFa rs) (resGv rs (toH rs r))
theorem FnOk.mono {P:Program} {w0:World} {J J':Hp} {v:Value} {ps rs:List Ty} {e:cur ps (Option (dens rs))} (h:FnOk P w0 J v ps rs e) (g:J.le J'):FnOk P w0 J' v ps rs e:=by
 have ⟨k,first,a,b,d,c⟩:=h;exact ⟨k,first,a,b,d,fun f h=>c f (g.trans h)⟩
theorem FnOk.one {P:Program} {w0:World} {J:Hp} {v:Value} {ps rs:List Ty} {e:cur ps (Option (dens rs))} (h:FnOk P w0 J v ps rs e):v.oneCell'=true:=by
 obtain ⟨k,first,a,rfl,_⟩:=h;rfl
structure Hdr where
 id:Nat
 path:List Nat
def aaP:List Nat->List Nat->Bool
 | [],[] =>true
 | a::l,b::m=>Nat.beq a b&&aaP l m
 | _,_=>false
def Hdr.beq (a b:Hdr):Bool:=Nat.beq a.id b.id&&aaP a.path b.path
theorem PD: ∀ {l m:List Nat},aaP l m=true->l=m
 | [],[],_=>rfl
 | a::l,b::m,h=>by
  have h:(Nat.beq a b&&aaP l m)=true:=h;rw[aj] at h;rw[ax h.1,PD h.2]
 | [],_::_,h=>by cases h
 | _::_,[],h=>by cases h
theorem Hdr.beq_eq {a b:Hdr} (h:a.beq b=true):a=b:=by
 unfold Hdr.beq at h;have ⟨i,p⟩:=a;have ⟨j,q⟩:=b;grind[ax,PD]
inductive LV
 | val (v:Value)
 | nb (b:Bool)
 | rd (h:Hdr) (t:Ty) (d:t.den)
 | own (h:Hdr)
 | ptr (h:Hdr) (off:Nat)
 | fn (h:Hdr) (ps rs:List Ty) (e:cur ps (Option (dens rs)))
 | fz (h:Hdr) (T:TypeId) (t:Ty) (d:t.den) (off:Nat)
 | fzf (h:Hdr) (T:TypeId) (ps rs:List Ty) (e:cur ps (Option (dens rs)))
 | rdn (h:Hdr) (b:Bool) (t:Ty) (d:t.den)
inductive MK
 | int | ii
def MK.den:MK->Type
 | .int=>Int
 | .ii=>Int×Int
def MK.dec:(k:MK)->DecidableEq k.den
 | .int=>(inferInstance:DecidableEq Int)
 | .ii=>(inferInstance:DecidableEq (Int×Int))
def MK.lit:(k:MK)->k.den->Lit
 | .int=>Yr
 | .ii=>adJ
def MK.ok:(k:MK)->k.den->Bool
 | .int=>iOk
 | .ii=>afv
def MK.val:(k:MK)->k.den->Value
 | .int=>fun n:Int=>.int .i64 n
 | .ii=>fun x:Int×Int=>.agg #[.int .i64 x.1,.int .i64 x.2]
inductive ME
 | int | bool
def ME.den:ME->Type
 | .int=>Int
 | .bool=>Bool
def ME.lit:(e:ME)->e.den->Lit
 | .int=>Yr
 | .bool=>afu
def ME.ok:(e:ME)->e.den->Bool
 | .int=>iOk
 | .bool=>bOk
def ME.z:(e:ME)->e.den
 | .int=>(0:Int)
 | .bool=>false
def ME.val:(e:ME)->e.den->Value
 | .int=>fun n:Int=>.int .i64 n
 | .bool=>fun b:Bool=>.bool b
inductive AV
 | one (x:LV)
 | agg (xs:List LV)
 | tup (ys:List (Bool×List LV))
 | elr (h:Hdr) (E:TypeId) (t:Ty) (xs:List t.den) (x:t.den) (i:Int) (off:Nat)
 | elo (h:Hdr) (ver:Nat) (E:TypeId) (t:Ty) (xs:List t.den) (x:t.den) (i:Int) (off:Nat)
 | sub (h:Hdr) (ver:Nat) (E:TypeId) (t:Ty) (xs:List t.den) (l:Int)
 | pre (h:Hdr) (ver:Nat) (E:TypeId) (t:Ty) (xs:List t.den) (l:Int)
 | vw (u h:Hdr) (k n:Nat) (l m:Int)
 | xv (top:Bool) (u h:Hdr) (k n:Nat) (l m:Int)
 | capv (h:Hdr) (c:Nat)
 | any (h:Hdr)
 | und
inductive Chk
 | own (t:Ty) (d:t.den)
 | blk (T:TypeId) (cells:List LV)
 | hole (over:Nat) (t:Ty) (d:t.den) (u:Ty) (y:u.den) (f:u.den->t.den) (i:Int) (k off:Nat) (lv:LV)
 | box (T:TypeId) (t:Ty) (d:t.den)
 | map (K E:TypeId) (k:MK) (e:ME) (m:List (k.den×e.den))
 | clo (k:FuncId) (first:List (Bool×List LV)) (capt:List LV)
abbrev Ent:=Hdr×Nat×Chk
structure Sg where
 env:List (Nat×Nat×AV)
 chs:List Ent
 nxt:Nat
def Ch.gap {α β:Type} (R:Rep α) (cs:List Value) (S:Rep β) (f:β->α) (b off:Nat) (v:Value):Ch where
 holds I w K:=b∈K/\(∃cur E,w.heap[b]? =some (.cells cur E (0,0))/\cur[off]? =some v)/\(∀x,x∈K->x<w.heap.size) /\
  ∀J w' v' y G,I.le J->(∀x,x∈K->x≠b->w'.heap[x]? =w.heap[x]?)->(∀cur E,w.heap[b]? =some (.cells cur E (0,0))->w'.heap[b]? =some (.cells (cur.setIfInBounds off v') E (0,0)))->S.own J w' [v'] y G-> ∃F,F.Perm (G++K)/\R.own J w' cs (f y) F
 mono:=by
  rintro I J w K ⟨h1,h2,h3,h4⟩ hJ
  exact ⟨h1,h2,h3,fun J' w' v' y G hJ'=>h4 J' w' v' y G (hJ.trans hJ')⟩
 stay:=by
  rintro I w w' K ⟨h1,⟨cur,E,h2,h2'⟩,h3,h4⟩ hw
  have hb:w'.heap[b]? =some (.cells cur E (0,0)):=by rw[hw b h1];exact h2
  refine ⟨h1,⟨cur,E,hb,h2'⟩,fun x hx=>?_,fun J w'' v' y G hJ k1 k2=>h4 J w'' v' y G hJ (fun x hx hne=>by rw[k1 x hx hne,hw x hx]) fun cur' E' hc=>k2 cur' E' (by rw[hw b h1];exact hc)⟩
  have hlt:=h3 x hx
  have:w.heap[x]? =some w.heap[x]:=Array.getElem?_eq_getElem hlt
  rw[<-hw x hx] at this
  exact (Array.getElem?_eq_some_iff.1 this).1
 live:=fun h=>h.2.2.1
def Ch.box {α:Type} (b:Nat) (T:TypeId) (R:Rep α) (d:α):Ch where
 holds I w F:= ∃(cells:List Value) (G:List Nat),F=b::G/\w.heap[b]? =some (.cells cells.toArray T (0,0))/\R.own I w cells d G
 mono:=by
  rintro I J w F ⟨cells,G,rfl,h1,h2⟩ hJ
  exact ⟨cells,G,rfl,h1,R.own_mono h2 hJ⟩
 stay:=by
  rintro I w w' F ⟨cells,G,rfl,h1,h2⟩ hw
  exact ⟨cells,G,rfl,by rw[hw b (by simp)];exact h1,R.own_stay h2 fun c hc=>hw c (by simp[hc])⟩
 live:=by
  rintro I w F ⟨cells,G,rfl,h1,h2⟩ c hc
  rcases aB hc with rfl | hc
  ·exact (Array.getElem?_eq_some_iff.1 h1).1
  ·exact R.own_live h2 c hc
def Ch.emp:Ch where
 holds I w F:=F= []
 mono h _:=h
 stay h _:=h
 live:=by rintro I w F rfl b hb;cases hb
theorem St.emp {I:Hp} {w0 w:World} {C:List Ch} :St I w0 w (Ch.emp::C)↔St I w0 w C:=by
 constructor
 ·rintro ⟨b,c,F,⟨G,K,rfl,rfl,e⟩,d,a⟩;exact ⟨b,c,K,e,d,a⟩
 ·rintro ⟨b,c,F,e,d,a⟩;exact ⟨b,c,F,⟨[],F,rfl,rfl,e⟩,d,a⟩
theorem St.box {I:Hp} {w0 w:World} {C:List Ch} {α:Type} {b:Nat} {T:TypeId} {R:Rep α} {d:α} :St I w0 w (Ch.box b T R d::C)↔ ∃cells,St I w0 w (Ch.blk b cells T::Ch.own R cells d::C):=by
 constructor
 ·rintro ⟨j,f,F,⟨G,K,rfl,⟨cells,a,rfl,g,h⟩,e⟩,i,c⟩;exact ⟨cells,j,f,b::(a++K),⟨[b],a++K,rfl,⟨rfl,g⟩,a,K,rfl,h,e⟩,i,c⟩
 ·rintro ⟨cells,j,f,F,⟨G,K,rfl,⟨rfl,g⟩,a,k,rfl,h,e⟩,i,c⟩;exact ⟨j,f,b::(a++k),⟨b::a,k,rfl,⟨cells,a,rfl,g,h⟩,e⟩,i,c⟩
abbrev Th:=Nat->Value
def hv (θ:Th) (h:Hdr):Value:=vg (θ h.id) h.path
def LV.v (θ:Th):LV->Value
 | .val v=>v
 | .nb b=>.bool (!b)
 | .rd h _ _=>hv θ h
 | .own h=>hv θ h
 | .ptr h off=>.pointer (some ⟨bk (hv θ h),off,none⟩)
 | .fn h _ _ _=>hv θ h
 | .fz h _ _ _ off=>.pointer (some ⟨bk (hv θ h),off,none⟩)
 | .fzf h _ _ _ _=>.pointer (some ⟨bk (hv θ h),0,none⟩)
 | .rdn h _ _ _=>hv θ h
def mR (θ:Th) (y:Bool×List LV):Value:=if y.1 then .agg (y.2.map (·.v θ)).toArray else match y.2 with
 | x::_=>x.v θ
 | [] =>undef
def AV.v (θ:Th):AV->Value
 | .one x=>x.v θ
 | .agg xs=>.agg (xs.map (·.v θ)).toArray
 | .tup ys=>.tuple (ys.map (mR θ)).toArray
 | .elr h _ t _ _ i off=>pt (hv θ h) (i.toNat*t.size+off)
 | .elo h _ _ t _ _ i off=>pt (hv θ h) (i.toNat*t.size+off)
 | .sub h _ _ t xs l=>tQ (hv θ h) l.toNat xs.length t.size
 | .pre h _ _ t xs l=>tQ (hv θ h) 0 l.toNat t.size
 | .vw u _ _ _ _ _=>hv θ u
 | .xv _ u _ _ _ _ _=>hv θ u
 | .capv _ c=>.int .i64 c
 | .any h=>hv θ h
 | .und=>undef
def Vw (u v:Value) (k n:Nat) (l m:Int):Prop:=(v= .slice none 0 0/\u= .slice none 0 0/\n=0/\l=0/\m=0) \/
 ∃g ofs cap x,v= .slice (some ⟨g,ofs,none⟩) n cap/\u= .slice (some ⟨g,ofs+x,none⟩) (m.toNat - l.toNat) (cap - l.toNat)/\0<=l/\l<=m/\n<=cap/\m<=(cap:Int)/\x<=l.toNat*k/\(cap=l.toNat\/x=l.toNat*k)
def afw:Value->Nat
 | .slice _ _ c=>c
 | _=>0
def Ie:Value->Bool
 | .slice none _ _=>true
 | _=>false
def LV.ok (P:Program) (w0:World) (J:Hp) (θ:Th) (n:Nat):LV->Prop
 | .val v=>v.oneCell'=true
 | .nb _=>True
 | .rd h t d=>h.id<n/\t.rep.rd J [hv θ h] d
 | .own h=>h.id<n/\(hv θ h).oneCell'=true
 | .ptr h _=>h.id<n
 | .fn h ps rs e=>h.id<n/\FnOk P w0 J (hv θ h) ps rs e
 | .fz h T t d _=>h.id<n/\ ∃cells:List Value,J (bk (hv θ h))=some (.cells cells.toArray T (0,0))/\t.rep.rd J cells d
 | .fzf h T ps rs e=>h.id<n/\ ∃u:Value,J (bk (hv θ h))=some (.cells [u].toArray T (0,0))/\FnOk P w0 J u ps rs e
 | .rdn h b t d=>h.id<n/\t.rep.rd J [hv θ h] d/\Ie (hv θ h)=b
def SaysH (x:Chk) (ver:Nat) (c:Chk):Prop:=match x with
 | .hole over t d _ _ _ _ _ _ _=>over=ver/\c= .own t d
 | _=>False
def Says (e:Ent) (h:Hdr) (ver:Nat) (c:Chk):Prop:=e.1=h/\((e.2.1=ver/\c=e.2.2)\/SaysH e.2.2 ver c)
def Mem (chs:List Ent) (n:Nat) (h:Hdr) (ver:Nat) (c:Chk):Prop:=ver<n/\ ∀e,e∈chs-> ∀c',Says e h ver c'->c'=c
def AV.ok (P:Program) (w0:World) (J:Hp) (θ:Th) (n:Nat) (chs:List Ent):AV->Prop
 | .one x=>x.ok P w0 J θ n
 | .agg xs=> ∀x∈xs,x.ok P w0 J θ n
 | .tup ys=> ∀y∈ys,∀x∈y.2,x.ok P w0 J θ n
 | .elr h E t xs x i _=>h.id<n/\aO xs i=some x/\(Ty.sl E t).rep.rd J [hv θ h] xs
 | .elo h ver E t xs x i _=>h.id<n/\aO xs i=some x/\Mem chs n h ver (.own (.sl E t) xs)
 | .sub h ver E t xs l=>h.id<n/\(0<=l/\l<=(xs.length:Int))/\Mem chs n h ver (.own (.sl E t) xs)
 | .pre h ver E t xs l=>h.id<n/\(0<=l/\l<=(xs.length:Int))/\Mem chs n h ver (.own (.sl E t) xs)
 | .vw u h k N l m=>u.id<n/\h.id<n/\Vw (hv θ u) (hv θ h) k N l m/\m<=(N:Int)
 | .xv top u h k N l m=>u.id<n/\h.id<n/\Vw (hv θ u) (hv θ h) k N l m/\(top=true->l=0)
 | .capv h c=>h.id<n/\afw (hv θ h)=c
 | .any h=>h.id<n
 | .und=>True
def toCh (P:Program) (θ:Th) (e:Ent):Ch:=match e.2.2 with
 | .own t d=>Ch.own t.rep [hv θ e.1] d
 | .blk T cells=>Ch.blk (bk (hv θ e.1)) (cells.map (·.v θ)) T
 | .hole _ t _ u _ f i k off lv=>Ch.gap t.rep [hv θ e.1] u.rep f (ptB (hv θ e.1)) (ptO (hv θ e.1)+(i.toNat*k+off)) (lv.v θ)
 | .box T t d=>Ch.box (bk (hv θ e.1)) T t.rep d
 | .map K E k m md=> @Ch.mp P K E k.den m.den k.dec k.lit k.ok m.lit m.z (hv θ e.1) md
 | .clo _ _ _=>Ch.emp
def okE (P:Program) (w0:World) (J:Hp) (θ:Th) (n:Nat) (chs:List Ent) (e:Ent):Prop:=e.1.id<n/\e.2.1<n/\match e.2.2 with
 | .own _ _=>True
 | .blk _ cells=> ∀x∈cells,x.ok P w0 J θ n
 | .hole over t d u y f _ _ _ lv=>lv.ok P w0 J θ n/\over<e.2.1/\f y=d/\ ∀l,lv= .own l->Mem chs n l e.2.1 (.own u y)
 | .box _ _ _=>True
 | .map _ _ _ _ _=>True
 | .clo k first capt=>(∀y∈first,∀x∈y.2,x.ok P w0 J θ n)/\(∀x∈capt,x.ok P w0 J θ n)/\hv θ e.1= .func (.func k) (first.map (mR θ)).toArray (capt.map (·.v θ)).toArray
def envL (θ:Th) (s:Sg):List (Nat×Value):=s.env.map fun e=>(e.1,e.2.2.v θ)
structure Fine (P:Program) (w0:World) (J:Hp) (θ:Th) (s:Sg):Prop where
 env: ∀e∈s.env,e.2.2.ok P w0 J θ s.nxt s.chs
 ver: ∀e∈s.env,e.2.1<s.nxt
 nd:s.env.Pairwise fun a b=>a.2.1≠b.2.1
 chs: ∀e∈s.chs,okE P w0 J θ s.nxt s.chs e
 lay:Lay P J
structure Sim (P:Program) (I:Hp) (w0:World) (F:Ch) (n:Nat) (J:Hp) (θ:Th) (s:Sg) (a:Act) (w:World):Prop where
 le:I.le J
 agr:Agr n a (envL θ s)
 st:St J w0 w (s.chs.map (toCh P θ)++ [F])
 fine:Fine P w0 J θ s
section
variable {P:Program} {w0:World} {J J':Hp} {θ θ':Th} {n m:Nat} {v:Value} {chs chs':List Ent}
theorem LV.one {x:LV} (h:x.ok P w0 J θ n):(x.v θ).oneCell'=true:=by
 cases x with
 | val v=>exact h
 | nb b=>rfl
 | rd h' t d=>exact Rep.rd_one _ h.2 _ (by simp[LV.v])
 | own h'=>exact h.2
 | ptr h' off=>rfl
 | fn h' ps rs e=>exact h.2.one
 | fz _ _ _ _ _=>rfl
 | fzf _ _ _ _ _=>rfl
 | rdn h' b t d=>exact Rep.rd_one _ h.2.1 _ (by simp[LV.v])
theorem If {v:Value} (h:v.oneCell'=true):v.cells= [v].toArray:=by cases v <;> first | rfl | cases h
def Same (n:Nat) (θ θ':Th):Prop:= ∀i,i<n->θ' i=θ i
theorem Same.upd:Same n θ (upd θ n v):=fun i a=>LJ (by omega)
theorem Same.rfl:Same n θ θ:=fun i a=>Eq.refl _
theorem Same.trans {θ'':Th} (h:Same n θ θ') (k:Same m θ' θ'') (b:n<=m):Same n θ θ'':=fun i a=>(k i (by omega)).trans (h i a)
theorem bh (hs:Same n θ θ') {h:Hdr} (a:h.id<n):hv θ' h=hv θ h:=by unfold hv;rw[hs _ a]
theorem LV.v_same (hs:Same n θ θ') {x:LV} (h:x.ok P w0 J θ n):x.v θ'=x.v θ:=by
 cases x with
 | val _=>rfl
 | nb _=>rfl
 | rd h' t d=>exact bh hs h.1
 | own h'=>exact bh hs h.1
 | ptr h' off=>show Value.pointer (some ⟨bk (hv θ' h'),off,none⟩)=_;rw[bh hs h];rfl
 | fn h' ps rs e=>exact bh hs h.1
 | fz h' T t d off=>show Value.pointer (some ⟨bk (hv θ' h'),off,none⟩)=_;rw[bh hs h.1];rfl
 | fzf h' T ps rs e=>show Value.pointer (some ⟨bk (hv θ' h'),0,none⟩)=_;rw[bh hs h.1];rfl
 | rdn h' b t d=>exact bh hs h.1
theorem LV.ok_same (hs:Same n θ θ') (a:n<=m) {x:LV} (h:x.ok P w0 J θ n) (c:J.le J'):x.ok P w0 J' θ' m:=by
 cases x with
 | val _=>exact h
 | nb _=>trivial
 | rd h' t d=>exact ⟨aG h.1 a,by rw[bh hs h.1];exact Rep.rd_mono _ h.2 c⟩
 | own h'=>exact ⟨aG h.1 a,by rw[bh hs h.1];exact h.2⟩
 | ptr h' off=>exact aG h a
 | fn h' ps rs e=>exact ⟨aG h.1 a,by rw[bh hs h.1];exact h.2.mono c⟩
 | fz h' T t d off =>
  have ⟨f,cells,i,g⟩:=h;exact ⟨aG f a,cells,by rw[bh hs f];exact c _ _ i,Rep.rd_mono _ g c⟩
 | fzf h' T ps rs e =>
  have ⟨f,u,i,g⟩:=h;exact ⟨aG f a,u,by rw[bh hs f];exact c _ _ i,g.mono c⟩
 | rdn h' b t d=>exact ⟨aG h.1 a,by rw[bh hs h.1];exact ⟨Rep.rd_mono _ h.2.1 c,h.2.2⟩⟩
theorem mE (hs:Same n θ θ') {xs:List LV} (h: ∀x∈xs,x.ok P w0 J θ n):xs.map (·.v θ')=xs.map (·.v θ):=List.map_congr_left fun x a=>LV.v_same hs (h x a)
theorem zZ (hs:Same n θ θ') {y:Bool×List LV} (a: ∀x∈y.2,x.ok P w0 J θ n):mR θ' y=mR θ y:=by
 unfold mR;rw[mE hs a];split
 ·rfl
 ·cases b:y.2 with
  | nil=>rfl
  | cons x l=>exact LV.v_same hs (a x (by grind))
theorem AV.v_same (hs:Same n θ θ') {x:AV} (h:x.ok P w0 J θ n chs):x.v θ'=x.v θ:=by
 cases x with
 | one x=>exact LV.v_same hs h
 | agg xs=>show Value.agg _=Value.agg _;rw[mE hs h]
 | tup ys =>
  show Value.tuple _=Value.tuple _;congr 2;refine List.map_congr_left fun y a=>?_;exact zZ hs (h y a)
 | elr h' E t xs x i off=>show pt (hv θ' h') _=_;rw[bh hs h.1];rfl
 | elo h' ver E t xs x i off=>show pt (hv θ' h') _=_;rw[bh hs h.1];rfl
 | sub h' ver E t xs l=>show tQ (hv θ' h') _ _ _=_;rw[bh hs h.1];rfl
 | pre h' ver E t xs l=>show tQ (hv θ' h') _ _ _=_;rw[bh hs h.1];rfl
 | vw u h' k N l m=>exact bh hs h.1
 | xv top u h' k N l m=>exact bh hs h.1
 | capv h' c=>rfl
 | any h'=>exact bh hs h
 | und=>rfl
def Newer (n:Nat) (chs chs':List Ent):Prop:= ∀e,e∈chs'-> ∀h ver c,Says e h ver c->n<=ver\/ ∃e0,e0∈chs/\Says e0 h ver c
theorem Newer.rfl:Newer n chs chs:=fun e b h a c d=>.inr ⟨e,b,d⟩
theorem Mem.newer (g:Newer n chs chs') (d:n<=m) {h:Hdr} {ver:Nat} {c:Chk} (k:Mem chs n h ver c):Mem chs' m h ver c:=
 ⟨aG k.1 d,fun e j a i=>by
  rcases g e j h ver a i with b | ⟨l,f,b⟩
  ·have:=k.1;omega
  ·exact k.2 l f a b⟩
theorem AV.ok_same (hs:Same n θ θ') (a:n<=m) (e:Newer n chs chs') {x:AV} (h:x.ok P w0 J θ n chs) (b:J.le J'):x.ok P w0 J' θ' m chs':=by
 cases x with
 | one x=>exact LV.ok_same hs a h b
 | agg xs=>exact fun x d=>LV.ok_same hs a (h x d) b
 | tup ys=>exact fun y f x d=>LV.ok_same hs a (h y f x d) b
 | elr h' E t xs x i off=>exact ⟨aG h.1 a,h.2.1,by rw[bh hs h.1];exact Rep.rd_mono _ h.2.2 b⟩
 | elo h' ver E t xs x i off=>exact ⟨aG h.1 a,h.2.1,h.2.2.newer e a⟩
 | sub h' ver E t xs l=>exact ⟨aG h.1 a,h.2.1,h.2.2.newer e a⟩
 | pre h' ver E t xs l=>exact ⟨aG h.1 a,h.2.1,h.2.2.newer e a⟩
 | vw u h' k N l m=>exact ⟨aG h.1 a,aG h.2.1 a,by rw[bh hs h.1,bh hs h.2.1];exact h.2.2⟩
 | xv top u h' k N l m=>exact ⟨aG h.1 a,aG h.2.1 a,by rw[bh hs h.1,bh hs h.2.1];exact h.2.2⟩
 | capv h' c=>exact ⟨aG h.1 a,by rw[bh hs h.1];exact h.2⟩
 | any h'=>exact aG h a
 | und=>trivial
theorem qa (hs:Same n θ θ') {e:Ent} (h:okE P w0 J θ n chs e):toCh P θ' e=toCh P θ e:=by
 have ⟨k,a,c⟩:=e;cases c with
 | own t d=>show Ch.own _ [hv θ' k] d=_;rw[bh hs h.1];rfl
 | blk T cells=>show Ch.blk (bk (hv θ' k)) (cells.map (·.v θ')) T=_;rw[bh hs h.1,mE hs h.2.2];rfl
 | hole over t d u y f i kk off lv=>show Ch.gap _ [hv θ' k] _ f (ptB (hv θ' k)) (ptO (hv θ' k)+(i.toNat*kk+off)) (lv.v θ')=_;rw[bh hs h.1,LV.v_same hs h.2.2.1];rfl
 | box T t d=>show Ch.box (bk (hv θ' k)) T _ d=_;rw[bh hs h.1];rfl
 | map K E kk e m=>show @Ch.mp P K E kk.den e.den kk.dec kk.lit kk.ok e.lit e.z (hv θ' k) m=_;rw[bh hs h.1];rfl
 | clo _ _ _=>rfl
theorem iy (hs:Same n θ θ') (a:n<=m) (z:Newer n chs chs') {e:Ent} (h:okE P w0 J θ n chs e) (g:J.le J'):okE P w0 J' θ' m chs' e:=by
 have ⟨k,w,c⟩:=e;cases c with
 | own t d=>exact ⟨aG h.1 a,aG h.2.1 a,trivial⟩
 | blk T cells=>exact ⟨aG h.1 a,aG h.2.1 a,fun x b=>LV.ok_same hs a (h.2.2 x b) g⟩
 | hole over t d u y f i kk off lv=>exact ⟨aG h.1 a,aG h.2.1 a,LV.ok_same hs a h.2.2.1 g,h.2.2.2.1,h.2.2.2.2.1,fun l A=>(h.2.2.2.2.2 l A).newer z a⟩
 | box T t d=>exact ⟨aG h.1 a,aG h.2.1 a,trivial⟩
 | map K E kk e m=>exact ⟨aG h.1 a,aG h.2.1 a,trivial⟩
 | clo f first capt =>
  have ⟨p,s,q,o,r⟩:=h;refine ⟨aG p a,aG s a,fun y j x b=>LV.ok_same hs a (q y j x b) g,fun x b=>LV.ok_same hs a (o x b) g,?_⟩;rw[bh hs p,mE hs o,List.map_congr_left fun y j=>zZ hs (q y j)];exact r
theorem kW (hs:Same n θ θ') {l:List Ent} (h: ∀e∈l,okE P w0 J θ n chs e):l.map (toCh P θ')=l.map (toCh P θ):=List.map_congr_left fun e a=>qa hs (h e a)
theorem Cr (hs:Same n θ θ') {s:Sg} (h: ∀e∈s.env,e.2.2.ok P w0 J θ n chs):envL θ' s=envL θ s:=List.map_congr_left fun e a=>by grind[AV.v_same]
end
def look (l:List (Nat×Nat×AV)) (t:Nat):Option AV:=match l with
 | [] =>none
 | (u,_,v)::l=>if Nat.beq u t then some v else look l t
def Kb (v:Value):Option AV:=match v.oneCell' with
 | true=>some (.one (.val v))
 | false=>none
def opd (s:Sg):Operand->Option AV
 | .tmp t=>look s.env t
 | .const v=>Kb v
 | .func f=>some (.one (.val (.func (.func f) #[] #[])))
 | .global _=>none
theorem vL {t:Nat} {v:AV} : ∀ {l:List (Nat×Nat×AV)},look l t=some v-> ∃e∈l,e.2.2=v
 | (u,k,x)::l,h=>by
  unfold look at h;split at h
  ·simp_all
  ·have ⟨e,b,a⟩:=vL h;grind
theorem jG {θ:Th} {t:Nat} {v:AV} : ∀ {l:List (Nat×Nat×AV)},look l t=some v->(l.map fun e=>(e.1,e.2.2.v θ)).lookup t=some (v.v θ)
 | (u,k,x)::l,h=>by
  unfold look at h;rw[List.map_cons,List.lookup_cons];split at h
  ·simp_all
  ·rename_i b;have a:(t==u)=false:=by
    simp[beq_eq_false_iff_ne];intro e;subst e;exact b (Nat.beq_refl t)
   rw[show (t==(u,x.v θ).1)=false from a];exact jG h
section
variable {P:Program} {w0:World} {J:Hp} {θ:Th} {s:Sg} {x:Operand} {v:AV}
theorem E6 {c:Value} (h:Kb c=some v):c.oneCell'=true/\v= .one (.val c):=by
 grind[Kb,ad]
theorem cg (b:Fine P w0 J θ s) (h:opd s x=some v):v.ok P w0 J θ s.nxt s.chs:=by
 cases x with
 | tmp t=>obtain ⟨e,d,rfl⟩:=vL h;exact b.env e d
 | const c=>obtain ⟨a,rfl⟩:=E6 h;exact a
 | func f=>rw[<-ad h];rfl
 | global g=>cases h
theorem aK (h:opd s x=some v):evL (envL θ s) x=v.v θ:=by
 cases x with
 | tmp t =>
  have:=jG (θ:=θ) h
  show ((envL θ s).lookup t).getD undef=_;grind[envL]
 | const c=>obtain ⟨a,rfl⟩:=E6 h;rfl
 | func f=>rw[<-ad h];rfl
 | global g=>cases h
def okO (n:Nat) (s:Sg) (o:Oper):Bool:=o.op.operands.toList.all (fun x=>(opd s x).isSome || match x with | .global _=>true | _=>false)&&dstOk n o.dst&&noSelect o
theorem WM {n:Nat} {o:Oper} (h:okO n s o=true):(F9 (envL θ s) o&&dstOk n o.dst&&noSelect o)=true:=by
 unfold okO at h;rw[aj,aj] at h;rw[aj,aj];refine ⟨⟨List.all_eq_true.2 fun x a=>?_,h.1.2⟩,h.2⟩;have a:=List.all_eq_true.1 h.1.1 x a;cases x with
 | tmp t =>
  simp[Bool.or_false] at a;have ⟨v,hv⟩:=Option.isSome_iff_exists.1 a
  have:=jG (θ:=θ) (show look s.env t=some v from hv)
  show ((envL θ s).lookup t).isSome=true;grind[envL]
 | const c=>rfl
 | func f=>rfl
 | global g=>rfl
end
structure Res where
 rs:List Ent
 ns:List Ent
 rest:List Ent
 gives:List (Hdr×Chk)
 av:AV
def Res.chs (r:Res) (ver:Nat):List Ent:=r.gives.map (fun g=>(g.1,ver,g.2))++(r.rs++r.rest)
def PE (d:Option Nat) (n:Nat) (v:AV) (l:List (Nat×Nat×AV)):List (Nat×Nat×AV):=match d with
 | some d=>(d,n,v)::l
 | none=>l
def after (s:Sg) (d:Option Nat) (r:Res):Sg:=⟨PE d s.nxt r.av s.env,r.chs s.nxt,s.nxt+1⟩
def Res.pure (s:Sg) (av:AV):Res:=⟨[],[],s.chs,[],av⟩
structure Good (P:Program) (w0:World) (s:Sg) (o:Oper) (r:Res):Prop where
 perm:s.chs.Perm (r.rs++r.ns++r.rest)
 says: ∀J θ,Fine P w0 J θ s-> ∀g,g∈r.gives-> ∀ver c,SaysH g.2 ver c-> ∃e0,e0∈s.chs/\Says e0 g.1 ver c
 op: ∀J θ,Fine P w0 J θ s->OpT P J w0 o (evL (envL θ s)) ((r.rs++r.ns).map (toCh P θ))
  (fun v=>r.av.ok P w0 J (upd θ s.nxt v) (s.nxt+1) (r.chs s.nxt)/\r.av.v (upd θ s.nxt v)=v/\ ∀g∈r.gives,okE P w0 J (upd θ s.nxt v) (s.nxt+1) (r.chs s.nxt) (g.1,s.nxt,g.2))
  (fun v=>r.rs.map (toCh P θ)++r.gives.map fun g=>toCh P (upd θ s.nxt v) (g.1,s.nxt,g.2))
structure GoodA (P:Program) (w0:World) (J:Hp) (θ:Th) (s:Sg) (o:Oper) (r:Res):Prop where
 perm:s.chs.Perm (r.rs++r.ns++r.rest)
 says: ∀g,g∈r.gives-> ∀ver c,SaysH g.2 ver c-> ∃e0,e0∈s.chs/\Says e0 g.1 ver c
 op:OpT P J w0 o (evL (envL θ s)) ((r.rs++r.ns).map (toCh P θ))
  (fun v=>r.av.ok P w0 J (upd θ s.nxt v) (s.nxt+1) (r.chs s.nxt)/\r.av.v (upd θ s.nxt v)=v/\ ∀g∈r.gives,okE P w0 J (upd θ s.nxt v) (s.nxt+1) (r.chs s.nxt) (g.1,s.nxt,g.2))
  (fun v=>r.rs.map (toCh P θ)++r.gives.map fun g=>toCh P (upd θ s.nxt v) (g.1,s.nxt,g.2))
theorem Good.at {P:Program} {w0:World} {J:Hp} {θ:Th} {s:Sg} {o:Oper} {r:Res} (h:Good P w0 s o r) (a:Fine P w0 J θ s):GoodA P w0 J θ s o r:=⟨h.perm,h.says J θ a,h.op J θ a⟩
def plain (l:List (Hdr×Chk)):Bool:=l.all fun g=>match g.2 with
 | .hole _ _ _ _ _ _ _ _ _ _=>false
 | _=>true
theorem a7 {P:Program} {w0:World} {s:Sg} {l:List (Hdr×Chk)} {chs:List Ent} (h:plain l=true): ∀J θ,Fine P w0 J θ s-> ∀g,g∈l-> ∀a c,SaysH g.2 a c-> ∃e0,e0∈chs/\Says e0 g.1 a c:=fun _ _ _ g b a c d=>by
 have:=(List.all_eq_true.1 h) g b
 have ⟨e,x⟩:=g;cases x with
 | hole _ _ _ _ _ _ _ _ _ _=>grind
 | _=>exact d.elim
theorem OpT.weak {P:Program} {w0:World} {o:Oper} {I:Hp} {ev:Operand->Value} {rn:List Ch} {fact a:Value->Prop} {gv b:Value->List Ch} (h:OpT P I w0 o ev rn fact gv) (c: ∀v,fact v->a v) (e: ∀v,fact v->gv v=b v):OpT P I w0 o ev rn a b :=
 fun w C d=>(h w C d).imp fun v w hv=>⟨c v hv.1,by grind⟩
section
variable {P:Program} {I:Hp} {w0 w:World} {F:Ch} {n:Nat} {J:Hp} {θ:Th} {s:Sg} {a:Act} {o:Oper} {r:Res} {av:AV}
theorem Res.newer (hp:s.chs.Perm (r.rs++r.ns++r.rest)) (hs: ∀g,g∈r.gives-> ∀b c,SaysH g.2 b c-> ∃e0,e0∈s.chs/\Says e0 g.1 b c):Newer s.nxt s.chs (r.chs s.nxt):=fun e d h b c k=>by
 rcases aI d with d | d
 ·obtain ⟨g,f,rfl⟩:=List.mem_map.1 d;obtain ⟨rfl,k⟩:=k;grind
 grind
theorem ga (d: ∀J θ,Fine P w0 J θ s->OpT P J w0 o (evL (envL θ s)) [] (· =av.v θ) (fun _=>[])) (b: ∀J θ,Fine P w0 J θ s->av.ok P w0 J θ s.nxt s.chs):Good P w0 s o (Res.pure s av):=
 ⟨List.Perm.refl _,fun _ _ _ g c=>(by cases c),fun J θ e=>OpT.weak (d J θ e) (fun v hv=>by
  subst hv;exact ⟨AV.ok_same Same.upd (Nat.le_succ _) Newer.rfl (b J θ e) Hp.le.rfl,AV.v_same Same.upd (b J θ e),fun g c=>by cases c⟩) (fun v hv=>rfl)⟩
theorem Gp {θ':Th} {d:Option Nat} {v:Value} (h:envL θ' s=envL θ s) (hv:av.v θ'=v) {chs:List Ent} {m:Nat} :envL θ' ⟨PE d s.nxt av s.env,chs,m⟩=Tz d v (envL θ s):=by
 cases d with
 | none=>exact h
 | some d=>show (d,av.v θ')::envL θ' s=_;rw[h,hv];rfl
theorem tc {e:Nat×Nat×AV} {k:Nat} : ∀ {d:Option Nat} {l:List (Nat×Nat×AV)},e∈PE d k av l->(e.2.2=av/\e.2.1=k)\/e∈l:=by
 intro d l b;cases d with
 | none=>exact .inr b
 | some d =>
  rcases aB b with rfl | h
  ·grind
  grind
theorem Ig {d:Option Nat} {k:Nat} {l:List (Nat×Nat×AV)} (h:l.Pairwise fun a b=>a.2.1≠b.2.1) (hv: ∀e∈l,e.2.1<k):(PE d k av l).Pairwise fun a b=>a.2.1≠b.2.1:=by
 cases d with
 | none=>exact h
 | some d=>exact List.pairwise_cons.2 ⟨fun e f c=>by grind,h⟩
theorem abi {ops:Array Oper} {rest:List Oper} {Q:Exit->Act->World->Prop} (i:GoodA P w0 J θ s o r) (d:Sim P I w0 F n J θ s a w) (l:o.guard=none) (m:okO n s o=true)
  (k: ∀θ' a w,Same s.nxt θ θ'->Sim P I w0 F n J θ' (after s o.dst r) a w->wpList P ops Q rest a w):wpList P ops Q (o::rest) a w:=by
 have hp:(s.chs.map (toCh P θ)++ [F]).Perm ((r.rs++r.ns).map (toCh P θ)++(r.rest.map (toCh P θ)++ [F])):=by
  have:=(i.perm.map (toCh P θ)).append_right [F]
  grind
 have b: ∀e,e∈r.rs\/e∈r.rest->okE P w0 J θ s.nxt s.chs e:=fun e c=>d.fine.chs e (i.perm.mem_iff.2 (by grind));have f:=Res.newer i.perm i.says;refine aa4 d.agr d.st l (i.op) hp (WM m) fun v a w hv A S=>k (upd θ s.nxt v) a w Same.upd ⟨d.le,?_,?_,?_,?_,Ig d.fine.nd d.fine.ver,?_,d.fine.lay⟩
 ·rw[show envL (upd θ s.nxt v) (after s o.dst r)=Tz o.dst v (envL θ s) from Gp (Cr Same.upd d.fine.env) hv.2.1];exact A
 ·have e:(after s o.dst r).chs.map (toCh P (upd θ s.nxt v))=(r.gives.map fun g=>toCh P (upd θ s.nxt v) (g.1,s.nxt,g.2))++(r.rs.map (toCh P θ)++r.rest.map (toCh P θ)):=by
   show (Res.chs r s.nxt).map _=_;unfold Res.chs;rw[aX,aX,List.map_map,kW Same.upd fun e c=>b e (.inl c),kW Same.upd fun e c=>b e (.inr c)]
   rfl
  refine S.perm ?_;grind[aH,List.perm_append_comm_assoc]
 ·intro e c;rcases tc c with h | h
  ·rw[h.1];exact hv.1
  ·exact AV.ok_same Same.upd (Nat.le_succ _) f (d.fine.env e h) Hp.le.rfl
 ·intro e c;rcases tc c with h | h
  ·rw[h.2];exact aJ _
  ·exact be (d.fine.ver e h)
 ·intro e c;rcases aI c with c | c
  ·obtain ⟨g,j,rfl⟩:=List.mem_map.1 c;exact hv.2.2 g j
  ·exact iy Same.upd (Nat.le_succ _) f (b e (by grind)) Hp.le.rfl
theorem YD {ops:Array Oper} {rest:List Oper} {Q:Exit->Act->World->Prop} {g d:Nat} {want b:Bool} (l:GoodA P w0 J θ s o r) (i:Sim P I w0 F n J θ s a w) (q:o.guard=some (g,want)) (u:((ops[g]?).bind (·.dst))=some d) (hv:(envL θ s).lookup d=some (.bool b)) (p:b=want) (t:okO n s o=true)
  (k: ∀θ' a w,Same s.nxt θ θ'->Sim P I w0 F n J θ' (after s o.dst r) a w->wpList P ops Q rest a w):wpList P ops Q (o::rest) a w:=by
 have hp:(s.chs.map (toCh P θ)++ [F]).Perm ((r.rs++r.ns).map (toCh P θ)++(r.rest.map (toCh P θ)++ [F])):=by
  have:=(l.perm.map (toCh P θ)).append_right [F]
  grind
 have c: ∀e,e∈r.rs\/e∈r.rest->okE P w0 J θ s.nxt s.chs e:=fun e f=>i.fine.chs e (l.perm.mem_iff.2 (by grind));have j:=Res.newer l.perm l.says;refine TW i.agr i.st q u hv p (l.op) hp (WM t) fun v a w hv A S=>k (upd θ s.nxt v) a w Same.upd ⟨i.le,?_,?_,?_,?_,Ig i.fine.nd i.fine.ver,?_,i.fine.lay⟩
 ·rw[show envL (upd θ s.nxt v) (after s o.dst r)=Tz o.dst v (envL θ s) from Gp (Cr Same.upd i.fine.env) hv.2.1];exact A
 ·have e:(after s o.dst r).chs.map (toCh P (upd θ s.nxt v))=(r.gives.map fun g=>toCh P (upd θ s.nxt v) (g.1,s.nxt,g.2))++(r.rs.map (toCh P θ)++r.rest.map (toCh P θ)):=by
   show (Res.chs r s.nxt).map _=_;unfold Res.chs;rw[aX,aX,List.map_map,kW Same.upd fun e f=>c e (.inl f),kW Same.upd fun e f=>c e (.inr f)]
   rfl
  refine S.perm ?_;grind[aH,List.perm_append_comm_assoc]
 ·intro e f;rcases tc f with h | h
  ·rw[h.1];exact hv.1
  ·exact AV.ok_same Same.upd (Nat.le_succ _) j (i.fine.env e h) Hp.le.rfl
 ·intro e f;rcases tc f with h | h
  ·rw[h.2];exact aJ _
  ·exact be (i.fine.ver e h)
 ·intro e f;rcases aI f with f | f
  ·obtain ⟨g,m,rfl⟩:=List.mem_map.1 f;exact hv.2.2 g m
  ·exact iy Same.upd (Nat.le_succ _) j (c e (by grind)) Hp.le.rfl
def skip (s:Sg) (d:Option Nat):Sg:=⟨PE d s.nxt .und s.env,s.chs,s.nxt+1⟩
theorem PF {v:AV} {d:Option Nat} (b:Sim P I w0 F n J θ s a w) {f:Act} (g:Agr n f (Tz d (v.v θ) (envL θ s))) (hv:v.ok P w0 J θ s.nxt s.chs):Sim P I w0 F n J θ ⟨PE d s.nxt v s.env,s.chs,s.nxt+1⟩ f w:=
 ⟨b.le,by grind[Gp],b.st,fun e c=>by
  rcases tc c with h | h
  ·rw[h.1];exact AV.ok_same Same.rfl (Nat.le_succ _) Newer.rfl hv Hp.le.rfl
  ·exact AV.ok_same Same.rfl (Nat.le_succ _) Newer.rfl (b.fine.env e h) Hp.le.rfl,fun e c=>by
  rcases tc c with h | h
  ·grind
  ·exact be (b.fine.ver e h),Ig b.fine.nd b.fine.ver,fun e c=>iy Same.rfl (Nat.le_succ _) Newer.rfl (b.fine.chs e c) Hp.le.rfl,b.fine.lay⟩
theorem T7 {ops:Array Oper} {rest:List Oper} {Q:Exit->Act->World->Prop} {g d:Nat} {want b:Bool} (c:Sim P I w0 F n J θ s a w) (e:o.guard=some (g,want)) (f:((ops[g]?).bind (·.dst))=some d) (hv:(envL θ s).lookup d=some (.bool b)) (i:b= !want) (h:dstOk n o.dst=true)
  (k: ∀a,Sim P I w0 F n J θ (skip s o.dst) a w->wpList P ops Q rest a w):wpList P ops Q (o::rest) a w:=
 TV c.agr c.st e f hv i h fun a A=>k a (PF c A trivial)
theorem NM {ops:Array Oper} {rest:List Oper} {Q:Exit->Act->World->Prop} {g d:Nat} {want:Bool} (b:Sim P I w0 F n J θ s a w) (c:o.guard=some (g,want)) (e:((ops[g]?).bind (·.dst))=some d) (hv:(envL θ s).lookup d=some undef) (f:dstOk n o.dst=true)
  (k: ∀a,Sim P I w0 F n J θ (skip s o.dst) a w->wpList P ops Q rest a w):wpList P ops Q (o::rest) a w:=
 NK b.agr b.st c e hv f fun a A=>k a (PF b A trivial)
end
def ikD:Option IntKind->TypeDesc
 | some k=>.int k
 | none=>.string
structure MD where
 K:TypeId
 E:TypeId
 k:MK
 e:ME
def MDok (P:Program) (T:TypeId) (m:MD):Prop:=
 P.underlying T=some (.map m.K m.E)/\ @KeyOk P m.K m.k.den m.k.dec m.k.val m.k.lit m.k.ok/\EltOk P m.E m.e.val m.e.lit m.e.ok m.e.z
structure TD where
 agg:Bool
 n:Nat
 el:Option TypeId
 ty:Ty
 fields:List (Nat×Nat)
 bytes:Option Nat
 place:Option (List (Nat×Nat))
 boo:Bool
 eq:Option (List (Option IntKind))
 mp:Option MD
 ik:Option (Option IntKind)
 fz:Bool
 pt:Option TypeId
def Curq:List (Option IntKind)->(List Value->List Value->Bool->Prop)->Prop
 | [],p=>p [] [] true
 | none::ks,p=> ∀a b:Bool,Curq ks fun xs ys r=>p (.bool a::xs) (.bool b::ys) ((a==b)&&r)
 | some k::ks,p=> ∀a b:Int,Curq ks fun xs ys r=>p (.int k a::xs) (.int k b::ys) ((a==b)&&r)
def lvB:LV->Option Bool
 | .val (.bool b)=>some b
 | .nb b=>some (!b)
 | _=>none
def lvI (k:IntKind):LV->Option Int
 | .val (.int j m)=>if j=k then some m else none
 | _=>none
theorem adK {θ:Th} {x:LV} {b:Bool} (h:lvB x=some b):x.v θ= .bool b:=by
 unfold lvB at h;split at h <;> first | (cases h;rfl) | cases h
theorem adL {θ:Th} {k:IntKind} {x:LV} {m:Int} (h:lvI k x=some m):x.v θ= .int k m:=by
 unfold lvI at h;split at h
 ·split at h
  ·rename_i e;subst e;cases h;rfl
  grind
 grind
def afx:Option IntKind->LV->LV->Option Bool
 | none,x,y=>(lvB x).bind fun a=>(lvB y).bind fun b=>some (a==b)
 | some k,x,y=>(lvI k x).bind fun a=>(lvI k y).bind fun b=>some (a==b)
def adM:List (Option IntKind)->List LV->List LV->Option Bool
 | [],[],[] =>some true
 | k::ks,x::xs,y::ys=>(afx k x y).bind fun q=>(adM ks xs ys).bind fun r=>some (q&&r)
 | _,_,_=>none
theorem YE {θ:Th} : ∀ {d:List (Option IntKind)} {p:List Value->List Value->Bool->Prop} {xs ys:List LV} {r:Bool},Curq d p->adM d xs ys=some r->p (xs.map (·.v θ)) (ys.map (·.v θ)) r:=by
 intro d;induction d with
 | nil =>
  intro p xs ys r hp h
  match xs,ys,h with
  | [],[],h=>cases h;exact hp
 | cons k d ih =>
  intro p xs ys r hp h
  match xs,ys,h with
  | x::xs,y::ys,h =>
   have ⟨q,c,h⟩:=Option.bind_eq_some_iff.1 h;have ⟨i,e,h⟩:=Option.bind_eq_some_iff.1 h;cases k with
   | none =>
    have ⟨a,f,c⟩:=Option.bind_eq_some_iff.1 c;have ⟨b,g,c⟩:=Option.bind_eq_some_iff.1 c
    have:=ih (hp a b) e
    grind[adK]
   | some k =>
    have ⟨a,f,c⟩:=Option.bind_eq_some_iff.1 c;have ⟨b,g,c⟩:=Option.bind_eq_some_iff.1 c
    have:=ih (hp a b) e
    grind[adL]
def zeroCells:Ty->List Value
 | .int k=>[.int k 0]
 | .bool=>[.bool false]
 | .str=>[.string ⟨#[]⟩]
 | .raw=>[.int .i64 0]
 | .prod a b=>zeroCells a++zeroCells b
 | .sl _ _=>[.slice none 0 0]
 | .fro t=>zeroCells t
 | .wr t=>zeroCells t
 | .tree _ _ _=>[.pointer none]
 | .bag t=>zeroCells t
def Gq:(t:Ty)->t.den
 | .int _=>(0:Int)
 | .bool=>false
 | .str=>(⟨#[]⟩:ByteArray)
 | .raw=>(⟨.int .i64 0,rfl⟩:Raw)
 | .prod a b=>(Gq a,Gq b)
 | .sl _ t=>([] :List t.den)
 | .fro t=>Gq t
 | .wr t=>Gq t
 | .tree _ _ t=>(Tr.nil:Tr t.den)
 | .bag t=>Gq t
theorem rC: ∀(t:Ty) (I:Hp),t.rep.rd I (zeroCells t) (Gq t)
 | .int k,I=>rfl
 | .bool,I=>rfl
 | .str,I=>rfl
 | .raw,I=>rfl
 | .prod a b,I=>⟨_,_,rfl,rC a I,rC b I⟩
 | .sl _ _,I=>WI
 | .fro t,I=>rC t I
 | .wr t,I=>rC t I
 | .tree _ _ _,I=>⟨_,rfl,.nil⟩
 | .bag t,I=>rC t I
theorem BY: ∀(t:Ty),Zro t.rep (zeroCells t) (Gq t)
 | .int k=>BW
 | .bool=>(BW (h1:=fun _=>rfl))
 | .str=>(BW (h1:=fun _=>rfl))
 | .raw=>(BW (α:=Raw) (enc:=(·.1)) (h1:=(·.2)) (x:=⟨.int .i64 0,rfl⟩))
 | .prod a b=>TY (BY a) (BY b)
 | .sl _ _=>Yp
 | .fro t=>Yq (rC t)
 | .wr t=>BY t
 | .tree _ _ _=>T4
 | .bag t=>YA (rC t)
theorem LW: ∀(t:Ty),∀v∈zeroCells t,v.oneCell'=true:=fun t v hv=>Rep.rd_one _ (rC t fun _=>none) v hv
theorem nP: ∀t:Ty,zeroCells t.erase=zeroCells t
 | .int _=>rfl
 | .bool=>rfl
 | .str=>rfl
 | .raw=>rfl
 | .prod a b=>by show zeroCells a.erase++zeroCells b.erase=_;rw[nP a,nP b];rfl
 | .sl _ _=>rfl
 | .fro t=>nP t
 | .wr t=>nP t
 | .tree _ _ _=>rfl
 | .bag t=>nP t
theorem BZ (t:Ty):(zeroCells t).length=t.size:=(Rep.rd_len _ (rC t fun _=>none)).trans t.rep_size
abbrev TT:=List (TypeId×TD)
def td (tt:TT) (T:Nat):Option TD:=match tt with
 | [] =>none
 | (U,d)::l=>if Nat.beq U T then some d else td l T
structure TDok (P:Program) (T:TypeId) (d:TD):Prop where
 ti:TI P T d.agg d.n
 one:(d.agg || d.n==1)=true
 sz:d.ty.size=d.n
 el: ∀E,d.el=some E->P.underlying T=some (.slice E)
 fld: ∀f q,d.fields[f]? =some q->TF P T f q.1 q.2
 zero: ∀b,d.bytes=some b-> ∃z,TZ P T z d.n b/\z.cells=(zeroCells d.ty).toArray/\1<=b
 place: ∀pl,d.place=some pl->TB P T pl
 boo:d.boo=true->P.underlying T=some .bool
 eq: ∀ks,d.eq=some ks-> ∀w,Curq ks fun xs ys r=>EqT P T (.agg xs.toArray) (.agg ys.toArray) r w
 mp: ∀m,d.mp=some m->MDok P T m
 ik: ∀k,d.ik=some k->P.underlying T=some (ikD k)
 fz:d.fz=true-> ∃b,TZ P T .nilFunc 1 b
 pt: ∀e,d.pt=some e->P.underlying T=some (.pointer e)
def TTok (P:Program):TT->Prop
 | [] =>True
 | (T,d)::l=>TDok P T d/\TTok P l
theorem TTok.get {P:Program} {T:Nat} {d:TD} : ∀ {tt:TT},TTok P tt->td tt T=some d->TDok P T d
 | (U,x)::l,⟨h1,h2⟩,h=>by
  unfold td at h;split at h
  ·rename_i a
   have:=ax a
   subst this;rw[<-ad h];exact h1
  ·exact TTok.get h2 h
def rD (id:Nat):(t:Ty)->t.den->Nat->List LV
 | .int k,d,_=>[.val (.int k d)]
 | .bool,d,_=>[.val (.bool d)]
 | .str,d,_=>[.val (.string d)]
 | .raw,d,j=>[.rd ⟨id,[j]⟩ .raw d]
 | .prod a b,d,j=>rD id a d.1 j++rD id b d.2 (j+a.size)
 | .sl E t,d,j=>[.rd ⟨id,[j]⟩ (.sl E t) d]
 | .fro t,d,j=>rD id t d j
 | .bag t,d,j=>rD id t d j
 | .wr t,d,j=>rD id t d j
 | .tree T E t,d,j=>[.rd ⟨id,[j]⟩ (.tree T E t) d]
def PG (id:Nat):(t:Ty)->t.den->AV
 | .prod a b,d=>.agg (rD id (.prod a b) d 0)
 | .int k,d=>.one (.val (.int k d))
 | .bool,d=>.one (.val (.bool d))
 | .str,d=>.one (.val (.string d))
 | .raw,d=>.one (.val d.1)
 | .sl E t,d=>.one (.rd ⟨id,[]⟩ (.sl E t) d)
 | .fro t,d=>PG id t d
 | .bag t,d=>PG id t d
 | .wr t,d=>.agg (rD id t d 0)
 | .tree T E t,d=>.one (.rd ⟨id,[]⟩ (.tree T E t) d)
theorem kg {P:Program} {w0:World} {J:Hp} {θ:Th} {id n:Nat} (c:id<n) {all:List Value} (f:θ id= .agg all.toArray): ∀(t:Ty) (d:t.den) (j:Nat) (cs:List Value),t.rep.rd J cs d->(∀i v,cs[i]? =some v->all[j+i]? =some v)->
  (∀x∈rD id t d j,x.ok P w0 J θ n)/\(rD id t d j).map (·.v θ)=cs
 | .int k,d,j,cs,h,_=>⟨fun x e=>by cases aq e;rfl,h.symm⟩
 | .bool,d,j,cs,h,_=>⟨fun x e=>by cases aq e;rfl,h.symm⟩
 | .str,d,j,cs,h,_=>⟨fun x e=>by cases aq e;rfl,h.symm⟩
 | .raw,d,j,cs,h,hc=>by
  obtain ⟨u,rfl⟩:=List.length_eq_one_iff.1 (Rep.rd_len _ h);have g:hv θ ⟨id,[j]⟩=u:=by
   show vg (θ id) [j] =u;rw[f];show (all.toArray.getD j undef)=u
   have:=hc 0 u rfl
   rw[Nat.add_zero] at this;simp[Array.getD_eq_getD_getElem?,this]
  refine ⟨fun x e=>?_,?_⟩
  ·cases aq e;exact ⟨c,by grind⟩
  ·show [hv θ ⟨id,[j]⟩] = [u];rw[g]
 | .prod a b,d,j,cs,h,hc=>by
  obtain ⟨q,o,rfl,l,m⟩:=h;have w:=(Rep.rd_len _ l).trans a.rep_size;obtain ⟨p,y⟩:=kg c f a d.1 j q l fun i v hv=>hc i v (by grind);obtain ⟨r,s⟩:=kg c f b d.2 (j+a.size) o m fun i v hv=>by
   have:=hc (a.size+i) v (by grind)
   grind
  refine ⟨fun x e=>?_,?_⟩
  ·rcases aI e with e | e
   ·exact p x e
   ·exact r x e
  grind[rD]
 | .sl E t,d,j,cs,h,hc=>by
  obtain ⟨u,rfl⟩:=List.length_eq_one_iff.1 (Rep.rd_len _ h);have g:hv θ ⟨id,[j]⟩=u:=by
   show vg (θ id) [j] =u;rw[f];show (all.toArray.getD j undef)=u
   have:=hc 0 u rfl
   rw[Nat.add_zero] at this;simp[Array.getD_eq_getD_getElem?,this]
  refine ⟨fun x e=>?_,?_⟩
  ·cases aq e;exact ⟨c,by grind⟩
  ·show [hv θ ⟨id,[j]⟩] = [u];rw[g]
 | .fro t,d,j,cs,h,hc=>kg c f t d j cs h hc
 | .bag t,d,j,cs,h,hc=>kg c f t d j cs h hc
 | .wr t,d,j,cs,h,hc=>kg c f t d j cs h hc
 | .tree T E t,d,j,cs,h,hc=>by
  obtain ⟨u,rfl⟩:=List.length_eq_one_iff.1 (Rep.rd_len _ h);have g:hv θ ⟨id,[j]⟩=u:=by
   show vg (θ id) [j] =u;rw[f];show (all.toArray.getD j undef)=u
   have:=hc 0 u rfl
   rw[Nat.add_zero] at this;simp[Array.getD_eq_getD_getElem?,this]
  refine ⟨fun x e=>?_,?_⟩
  ·cases aq e;exact ⟨c,by grind⟩
  ·show [hv θ ⟨id,[j]⟩] = [u];rw[g]
theorem sj {P:Program} {w0:World} {J:Hp} {θ:Th} {id n:Nat} {chs:List Ent} (e:id<n) {u:Value} (f:θ id=u): ∀(t:Ty) (d:t.den) (cs:List Value),t.rep.rd J cs d->Lds t.isProd cs u->(PG id t d).ok P w0 J θ n chs/\(PG id t d).v θ=u
 | .int k,d,cs,h,c=>⟨Eq.refl true,by
  rw[h] at c;exact (List.cons.inj c).1⟩
 | .bool,d,cs,h,c=>⟨Eq.refl true,by
  rw[h] at c;exact (List.cons.inj c).1⟩
 | .str,d,cs,h,c=>⟨Eq.refl true,by
  rw[h] at c;exact (List.cons.inj c).1⟩
 | .raw,d,cs,h,c=>⟨d.2,by
  rw[h] at c;exact (List.cons.inj c).1⟩
 | .prod a b,d,cs,h,c=>by
  have c:u= .agg cs.toArray:=c;obtain ⟨g,l⟩:=kg (J:=J) e (f.trans c) (.prod a b) d 0 cs h (fun i v hv=>by grind);exact ⟨g,by show Value.agg _=_;grind⟩
 | .sl E t,d,cs,h,c=>by
  subst c;have j:hv θ ⟨id,[]⟩=u:=f;exact ⟨⟨e,by grind⟩,j⟩
 | .fro t,d,cs,h,c=>sj e f t d cs h c
 | .bag t,d,cs,h,c=>sj e f t d cs h c
 | .wr t,d,cs,h,c=>by
  have c:u= .agg cs.toArray:=c;obtain ⟨g,l⟩:=kg (J:=J) e (f.trans c) t d 0 cs h (fun i v hv=>by grind);exact ⟨g,by show Value.agg _=_;grind⟩
 | .tree T E t,d,cs,h,c=>by
  subst c;have j:hv θ ⟨id,[]⟩=u:=f;exact ⟨⟨e,by grind⟩,j⟩
structure Part (t:Ty) where
 ty:Ty
 get:t.den->ty.den
 set:t.den->ty.den->t.den
def Aa (g:Bool):(t:Ty)->Nat->Nat->Option (Part t)
 | t,off,n=>if Nat.beq off 0&&(Nat.beq t.size n&&(t.isProd==g)) then some ⟨t,fun x=>x,fun _ y=>y⟩ else match t with
  | .prod a b=>if Nat.blt off a.size then (Aa g a off n).bind fun r=>some ⟨r.ty,fun x=>r.get x.1,fun x y=>(r.set x.1 y,x.2)⟩ else (Aa g b (off - a.size) n).bind fun r=>some ⟨r.ty,fun x=>r.get x.2,fun x y=>(x.1,r.set x.2 y)⟩
  | .fro a=>(Aa g a off n).bind fun r=>some ⟨.fro r.ty,r.get,r.set⟩
  | .wr a=>(Aa g a off n).bind fun r=>some ⟨r.ty,r.get,r.set⟩
  | _=>none
def Lens {α β:Type} (R:Rep α) (off:Nat) (S:Rep β) (f:α->β) (u:α->β->α):Prop:= ∀I w c x G,R.own I w c x G-> ∃d G1 K,G.Perm (G1++K)/\(c.drop off).take S.size=d/\S.own I w d (f x) G1 /\
 ∀J w' d' y G',I.le J->(∀b,b∈K->w'.heap[b]? =w.heap[b]?)->S.own J w' d' y G'-> ∃F,F.Perm (G'++K)/\R.own J w' (spl c off d') (u x y) F
theorem Lens.self {α:Type} {R:Rep α} :Lens R 0 R (fun x=>x) (fun _ y=>y):=fun I w c x G h =>
 ⟨c,G,[],by simp,by rw[<-R.own_len h];simp,h,fun J d g y b f e a=>⟨b,by simp,by rw[E5 _ _ _ (by rw[R.own_len h,R.own_len a];omega),R.own_len a,<-R.own_len h];grind⟩⟩
theorem Lens.fst {α β γ:Type} {A:Rep α} {B:Rep β} {S:Rep γ} {off:Nat} {f:α->γ} {u:α->γ->α} (hs:off+S.size<=A.size) (h:Lens A off S f u):Lens (uq A B) off S (fun x=>f x.1) (fun x y=>(u x.1 y,x.2)):=by
 rintro I w c x G ⟨j,r,t,e,rfl,rfl,g,o⟩;have ⟨d,v,K,p,E,C,D⟩:=h I w j x.1 t g;refine ⟨d,v,K++e,by grind,?_,C,fun J s n y z m l i=>?_⟩
 ·have H:=A.own_len g;grind
 ·have ⟨F,q,k⟩:=D J s n y z m (fun b a=>l b (bj _ a)) i;refine ⟨F++e,by grind,spl j off n,r,F,e,?_,rfl,k,B.own_stay (B.own_mono o m) fun b a=>l b (bt _ a)⟩;rw[yn _ _ _ _ (by rw[A.own_len g,S.own_len i];exact hs)]
theorem Lens.snd {α β γ:Type} {A:Rep α} {B:Rep β} {S:Rep γ} {off:Nat} {f:β->γ} {u:β->γ->β} (h:Lens B off S f u):Lens (uq A B) (A.size+off) S (fun x=>f x.2) (fun x y=>(x.1,u x.2 y)):=by
 rintro I w c x G ⟨v,g,a,t,rfl,rfl,l,n⟩;have ⟨d,s,K,p,H,C,D⟩:=h I w g x.2 t n;have E:=A.own_len l;refine ⟨d,s,a++K,(p.append_left a).trans (List.perm_append_comm_assoc _ _ _),?_,C,fun J o m y z j i r=>?_⟩
 ·grind[List.drop_append,List.drop_of_length_le,Nat.add_sub_cancel_left]
 ·have ⟨F,q,k⟩:=D J o m y z j (fun b e=>i b (bt _ e)) r;refine ⟨a++F,(q.append_left a).trans (List.perm_append_comm_assoc _ _ _),v,spl g off m,a,F,?_,rfl,A.own_stay (A.own_mono l j) fun b e=>i b (bj _ e),k⟩;rw[<-E,sf]
theorem Lens.fro {α β:Type} {R:Rep α} {S:Rep β} {off:Nat} {f:α->β} {u:α->β->α} (h:Fld R off S f) (k:Upd R off S u):Lens (Bx R) off (Bx S) f u:=by
 rintro I w c x G ⟨rfl,b⟩;have ⟨d,e,i⟩:=h I c x b;refine ⟨d,[],[],by simp,e,⟨rfl,i⟩,fun J l j y n g m a=>⟨[],by rw[a.1];simp,rfl,k J c x j y (R.rd_mono b g) a.2⟩⟩
structure PartOk {t:Ty} (off n:Nat) (r:Part t):Prop where
 fld:Fld t.rep off r.ty.rep r.get
 upd:Upd t.rep off r.ty.rep r.set
 updO:UpdO t.rep off r.ty.rep r.set
 lens:Lens t.rep off r.ty.rep r.get r.set
 eta: ∀x,r.set x (r.get x)=x
 size:r.ty.size=n
 fit:off+n<=t.size
theorem B0 {g:Bool} : ∀(t:Ty) (off n:Nat) (r:Part t),Aa g t off n=some r->PartOk off n r:=by
 intro t;induction t with
 | prod a b p s =>
  intro off n r h;unfold Aa at h;split at h
  ·rename_i f;rw[aj,aj] at f;have l:=ax f.1;have j:=ax f.2.1;subst l;cases ad h;exact ⟨Fld.self,Upd.self,UpdO.self,Lens.self,fun _=>rfl,j,by omega⟩
  ·simp only at h;split at h
   ·have ⟨q,e,h⟩:=bind_some h;cases ad h;have k:=p off n q e;have i:off+q.ty.rep.size<=a.rep.size:=by rw[q.ty.rep_size,a.rep_size,k.size];exact k.fit
    exact ⟨Fld.fst k.fld,Upd.fst i k.upd,UpdO.fst i k.updO,Lens.fst i k.lens,fun x=>congrArg (fun z=>(z,x.2)) (k.eta x.1),k.size,by have:=k.fit;show off+n<=a.size+b.size;omega⟩
   ·rename_i o;have ⟨q,e,h⟩:=bind_some h;cases ad h;have k:=s (off - a.size) n q e;have u:a.size<=off:=by
     rw[Nat.blt_eq] at o;omega
    have m:a.rep.size+(off - a.size)=off:=by rw[a.rep_size];omega
    refine ⟨?_,?_,?_,?_,fun x=>congrArg (fun z=>(x.1,z)) (k.eta x.2),k.size,by have:=k.fit;show off+n<=a.size+b.size;omega⟩
    ·have:=Fld.snd (A:=a.rep) k.fld
     rwa [m] at this
    ·have:=Upd.snd (A:=a.rep) k.upd
     rwa [m] at this
    ·have:=UpdO.snd (A:=a.rep) k.updO
     rwa [m] at this
    ·have:=Lens.snd (A:=a.rep) k.lens
     rwa [m] at this
 | fro a ih =>
  intro off n r h;unfold Aa at h;split at h
  ·rename_i f;rw[aj,aj] at f;have l:=ax f.1;have j:=ax f.2.1;subst l;cases ad h;exact ⟨Fld.self,Upd.self,UpdO.self,Lens.self,fun _=>rfl,j,by omega⟩
  ·have ⟨q,e,h⟩:=bind_some h;cases ad h;have k:=ih off n q e;exact ⟨k.fld,k.upd,fun I w c x G d y K l j=>⟨[],[],⟨rfl,k.upd I c x d y l.2 j.2⟩,by rw[l.1,j.1]⟩,Lens.fro k.fld k.upd,k.eta,k.size,k.fit⟩
 | wr a ih =>
  intro off n r h;unfold Aa at h;split at h
  ·rename_i f;rw[aj,aj] at f;have l:=ax f.1;have j:=ax f.2.1;subst l;cases ad h;exact ⟨Fld.self,Upd.self,UpdO.self,Lens.self,fun _=>rfl,j,by omega⟩
  ·have ⟨q,e,h⟩:=bind_some h;cases ad h;have k:=ih off n q e;exact ⟨k.fld,k.upd,k.updO,k.lens,k.eta,k.size,k.fit⟩
 | _ =>
  intro off n r h;unfold Aa at h;split at h
  ·rename_i f;rw[aj,aj] at f;have l:=ax f.1;have j:=ax f.2.1;subst l;cases ad h;exact ⟨Fld.self,Upd.self,UpdO.self,Lens.self,fun _=>rfl,j,by omega⟩
  grind
end R
end Go.Proofs.YtphjdcoponilmaaGreatDoor
