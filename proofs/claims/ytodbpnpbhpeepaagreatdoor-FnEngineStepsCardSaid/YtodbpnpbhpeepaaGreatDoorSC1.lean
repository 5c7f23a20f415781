/- FnEngineSteps: for every input the law returns true and changes nothing that was there. Part 2 of 9. -/
import Derived.Test.YtodbpnpbhpeepaaGreatDoorRows
import Derived.WalkKit
import Derived.WalkSpells
import Derived.WalkLawsBesides
import Derived.ProofKit
import Derived.Orders
import Derived.Deep.MidRow
import Derived.Maps.AppendAt
import Derived.OwnWalk
import Derived.Great.BuildSlice
import Derived.Shelf.Abstract
import Derived.Laws.StructEq
import Derived.Lib.SliceRun
import Derived.Maps.OwnSet
import Derived.DeepKeys4
import Derived.Laws.CopyRow
import Derived.Lib.LaidTab
import Derived.Lib.ItoaNum
import Derived.Lib.AppendZeros
import Derived.Lib.Overlaps
import Derived.Laws.AppendOwn
import Derived.Shelf.Strings.OnBuilder
import Derived.Shelf.Strconv.Itoa3
import Derived.Sort.Grow
import Derived.Shelf.Strings.Split
import Derived.Shelf.Strings.Cut
import Derived.Shelf.Small.Strs
import Derived.Shelf.Strconv.Atoi
import Derived.Shelf.Strconv.ErrVar
import Derived.Lib.AtoiBound
import Derived.Shelf.LaysM
import Derived.Shelf.LaysC
import Derived.Test.YtodbpnpbhpeepaaGreatDoorProg
import Derived.Deep.Slices
import Derived.Lib.ItoaLen
import Derived.Lib.Join
import Derived.Lib.Atoi
import Derived.Lib.Split
import Derived.Test.YtodbpnpbhpeepaaGreatDoorCards
import Derived.Test.YtodbpnpbhpeepaaGreatDoorTie
import Derived.LaidMore
import Derived.OpenShut
import Derived.Stop.Joined
import Derived.SevenTiedAt
import Derived.Stop.LaidErr
import Derived.SizedLaws
import Derived.Lay
set_option synthInstance.maxSize 20000
set_option synthInstance.maxHeartbeats 2000000
set_option linter.unusedVariables false
set_option linter.unusedSimpArgs false
set_option linter.unnecessarySimpa false
set_option linter.unusedSectionVars false
set_option maxRecDepth 1000000
namespace Go.Proofs.YtodbpnpbhpeepaaGreatDoor
open Go.IntKind (i64)
theorem aa: ∀ {α:Type _} {β:Type _} (a:α) (f:α->Option β),(some a).bind f=f a:= @Option.bind_some
theorem ae: ∀ {α:Type _} {a b:α},some a=some b->a=b:= @Option.some.inj
theorem bC: ∀ {n m:Nat},n.ble m=true->n<=m:= @Nat.le_of_ble_eq_true
theorem au: ∀ {n m:Nat},n.beq m=true->n=m:= @Nat.eq_of_beq_eq_true
theorem aC: ∀ {α:Type _} (x y z:List α),x++y++z=x++(y++z):= @List.append_assoc
theorem az: ∀ {α:Type _} {x y:List α},(x++y).length=x.length+y.length:= @List.length_append
theorem ay: ∀ {α:Type _} {a:α} {x:List α},(a::x).length=x.length+1:= @List.length_cons
theorem ak: ∀ {α:Type _} {a b:α},a ∈ [b] ->a=b:=fun h=>List.mem_singleton.1 h
theorem aE: ∀ {α:Type _} {b:α} {l:List α} {a:α},a∈b::l->a=b\/a∈l:=fun h=>List.mem_cons.1 h
theorem aG: ∀ {α:Type _} {a:α} {s t:List α},a∈s++t->a∈s\/a∈t:=fun h=>List.mem_append.1 h
theorem aj: ∀(a b:Bool),((a&&b)=true)=(a=true/\b=true):= @Bool.and_eq_true
theorem aB: ∀(n:Nat),n<n.succ:= @Nat.lt_succ_self
theorem aq: ∀ {α:Type _} {i:Nat} {l:List α},(List.take i l).length=min i l.length:= @List.length_take
theorem a7: ∀ {α:Type _} {i:Nat} {l:List α},(List.drop i l).length=l.length - i:= @List.length_drop
theorem aJ: ∀ {n m k:Nat},n<m->m<=k->n<k:= @Nat.lt_of_lt_of_le
theorem aF: ∀(n:Nat),n<=n:= @Nat.le_refl
theorem bF: ∀ {α:Type _} (y:α) {a:α} {l:List α},a∈l->a∈y::l:= @List.mem_cons_of_mem
theorem bj: ∀ {α:Type _} {a:α} {x:List α} (y:List α),a∈x->a∈x++y:= @List.mem_append_left
theorem bp: ∀ {α:Type _} {b:α} (x:List α) {y:List α},b∈y->b∈x++y:= @List.mem_append_right
theorem aD: ∀ {α:Type _},([] :List α).length=0:= @List.length_nil
theorem aZ: ∀ {α:Type _} {β:Type _} {f:α->β} {l₁ l₂:List α},List.map f (l₁++l₂)=List.map f l₁++List.map f l₂:= @List.map_append
theorem bc: ∀ {n m:Nat},n<m->n<m.succ:= @Nat.lt_succ_of_lt
namespace D
open Go.RowKit
def lim:Nat:=9223372036854775807
def Hp:=Nat->Option Obj
def Hp.le (I J:Hp):Prop:= ∀b o,I b=some o->J b=some o
def hp (w:World):Hp:=fun b=>w.heap[b]?
theorem Hp.le.rfl {I:Hp} :I.le I:=fun _ _ h=>h
theorem Hp.le.trans {I J K:Hp} (h:I.le J) (k:J.le K):I.le K:=fun b o e=>k b o (h b o e)
structure Rep (α:Type) where
 size:Nat
 rd:Hp->List Value->α->Prop
 own:Hp->World->List Value->α->List Nat->Prop
 rd_len: ∀ {I cs a},rd I cs a->cs.length=size
 rd_one: ∀ {I cs a},rd I cs a-> ∀u∈cs,u.oneCell'=true
 rd_mono: ∀ {I J cs a},rd I cs a->I.le J->rd J cs a
 own_len: ∀ {I w cs a F},own I w cs a F->cs.length=size
 own_one: ∀ {I w cs a F},own I w cs a F-> ∀u∈cs,u.oneCell'=true
 own_mono: ∀ {I J w cs a F},own I w cs a F->I.le J->own J w cs a F
 own_stay: ∀ {I w w' cs a F},own I w cs a F->(∀b,b∈F->w'.heap[b]? =w.heap[b]?)->own I w' cs a F
 own_live: ∀ {I w cs a F},own I w cs a F-> ∀b,b∈F->b<w.heap.size
 own_rd: ∀ {I J w cs a F},own I w cs a F->I.le J->(∀b,b∈F->J b=w.heap[b]?)->rd J cs a
def me (α:Type) (enc:α->Value) (h1: ∀a,(enc a).oneCell'=true):Rep α where
 size:=1
 rd _ cs a:=cs= [enc a]
 own _ _ cs a F:=F= [] /\cs= [enc a]
 rd_len h:=by rw[h];rfl
 rd_one h:=by rw[h];intro u hu;simp at hu;subst hu;exact h1 _
 rd_mono h _:=h
 own_len h:=by rw[h.2];rfl
 own_one h:=by rw[h.2];intro u hu;simp at hu;subst hu;exact h1 _
 own_mono h _:=h
 own_stay h _:=h
 own_live h:=by rw[h.1];intro b hb;cases hb
 own_rd h _ _:=h.2
def acy:Rep Int:=me Int (.int .i64) fun _=>rfl
def rU8:Rep Int:=me Int (.int .u8) fun _=>rfl
def Io:Rep Bool:=me Bool .bool fun _=>rfl
def Nb:Rep ByteArray:=me ByteArray .string fun _=>rfl
def tf {α β:Type} (R:Rep α) (S:Rep β):Rep (α×β) where
 size:=R.size+S.size
 rd I cs x:= ∃c d,cs=c++d/\R.rd I c x.1/\S.rd I d x.2
 own I w cs x F:= ∃c d G K,cs=c++d/\F=G++K/\R.own I w c x.1 G/\S.own I w d x.2 K
 rd_len:=by
  rintro I cs x ⟨c,d,rfl,h1,h2⟩
  rw[az,R.rd_len h1,S.rd_len h2]
 rd_one:=by
  rintro I cs x ⟨c,d,rfl,h1,h2⟩ u hu
  rcases aG hu with h | h
  ·exact R.rd_one h1 u h
  ·exact S.rd_one h2 u h
 rd_mono:=by
  rintro I J cs x ⟨c,d,rfl,h1,h2⟩ h
  exact ⟨c,d,rfl,R.rd_mono h1 h,S.rd_mono h2 h⟩
 own_len:=by
  rintro I w cs x F ⟨c,d,G,K,rfl,rfl,h1,h2⟩
  rw[az,R.own_len h1,S.own_len h2]
 own_one:=by
  rintro I w cs x F ⟨c,d,G,K,rfl,rfl,h1,h2⟩ u hu
  rcases aG hu with h | h
  ·exact R.own_one h1 u h
  ·exact S.own_one h2 u h
 own_mono:=by
  rintro I J w cs x F ⟨c,d,G,K,rfl,rfl,h1,h2⟩ h
  exact ⟨c,d,G,K,rfl,rfl,R.own_mono h1 h,S.own_mono h2 h⟩
 own_stay:=by
  rintro I w w' cs x F ⟨c,d,G,K,rfl,rfl,h1,h2⟩ h
  exact ⟨c,d,G,K,rfl,rfl,R.own_stay h1 fun b hb=>h b (bj _ hb),S.own_stay h2 fun b hb=>h b (bp _ hb)⟩
 own_live:=by
  rintro I w cs x F ⟨c,d,G,K,rfl,rfl,h1,h2⟩ b hb
  rcases aG hb with h | h
  ·exact R.own_live h1 b h
  ·exact S.own_live h2 b h
 own_rd:=by
  rintro I J w cs x F ⟨c,d,G,K,rfl,rfl,h1,h2⟩ hJ h
  exact ⟨c,d,rfl,R.own_rd h1 hJ fun b hb=>h b (bj _ hb),S.own_rd h2 hJ fun b hb=>h b (bp _ hb)⟩
def yP {α:Type} (R:Rep α):Rep α where
 size:=R.size
 rd:=R.rd
 own I _ cs a F:=F= [] /\R.rd I cs a
 rd_len:=R.rd_len
 rd_one:=R.rd_one
 rd_mono:=R.rd_mono
 own_len h:=R.rd_len h.2
 own_one h:=R.rd_one h.2
 own_mono h k:=⟨h.1,R.rd_mono h.2 k⟩
 own_stay h _:=h
 own_live h:=by rw[h.1];intro b hb;cases hb
 own_rd h k _:=R.rd_mono h.2 k
def OwnEls {α:Type} (R:Rep α) (I:Hp) (w:World):List Value->List α->List Nat->Prop
 | _,[],F=>F= []
 | cur,x::xs,F=> ∃c rest G K,cur=c++rest/\c.length=R.size/\F=G++K/\R.own I w c x G/\OwnEls R I w rest xs K
section
variable {α:Type} {R:Rep α} {I J:Hp}
theorem OwnEls.stay {w w':World} : ∀ {xs:List α} {cur F},OwnEls R I w cur xs F->(∀b,b∈F->w'.heap[b]? =w.heap[b]?)->OwnEls R I w' cur xs F
 | [],_,_,h,_=>h
 | x::xs,cur,F,⟨c,rest,G,K,h1,h2,h3,h4,h5⟩,h=>by
  subst h3;exact ⟨c,rest,G,K,h1,h2,rfl,R.own_stay h4 fun b a=>h b (bj _ a),h5.stay fun b a=>h b (bp _ a)⟩
theorem OwnEls.mono {w:World} : ∀ {xs:List α} {cur F},OwnEls R I w cur xs F->I.le J->OwnEls R J w cur xs F
 | [],_,_,h,_=>h
 | x::xs,cur,F,⟨c,rest,G,K,h1,h2,h3,h4,h5⟩,h=>⟨c,rest,G,K,h1,h2,h3,R.own_mono h4 h,h5.mono h⟩
theorem OwnEls.live {w:World} : ∀ {xs:List α} {cur F},OwnEls R I w cur xs F-> ∀b,b∈F->b<w.heap.size
 | [],_,_,h,b,hb=>by rw[show _= [] from h] at hb;cases hb
 | x::xs,cur,F,⟨c,rest,G,K,_,_,h3,h4,h5⟩,b,hb=>by
  subst h3;rcases aG hb with h | h
  ·exact R.own_live h4 b h
  ·exact h5.live b h
theorem OwnEls.at {w:World} : ∀ {xs:List α} {cur F},OwnEls R I w cur xs F->I.le J->(∀b,b∈F->J b=w.heap[b]?)-> ∀(i:Nat) x,xs[i]? =some x-> ∃c:List Value,c.length=R.size/\(∀j,j<R.size->cur[i*R.size+j]? =c[j]?)/\R.rd J c x
 | [],_,_,_,_,_,i,x,a=>by grind
 | y::xs,cur,F,⟨c,rest,G,K,h1,h2,h3,h4,h5⟩,hJ,hB,i,x,a=>by
  subst h3;match i,a with
  | 0,a =>
   simp at a;subst a;exact ⟨c,h2,fun j f=>by grind,R.own_rd h4 hJ fun b e=>hB b (bj _ e)⟩
  | i+1,a =>
   have ⟨d,h,k,g⟩:=h5.at hJ (fun b e=>hB b (bp _ e)) i x (by grind);grind
theorem OwnEls.rest {w:World} : ∀ {xs:List α} {cur cur' F},OwnEls R I w cur xs F->cur'.take (xs.length*R.size)=cur.take (xs.length*R.size)->OwnEls R I w cur' xs F
 | [],_,_,_,h,_=>h
 | y::xs,cur,cur',F,⟨c,rest,G,K,h1,h2,h3,h4,h5⟩,h=>by
  subst h1;rw[ay,Nat.add_mul,Nat.one_mul,Nat.add_comm] at h;rw[List.take_append,List.take_of_length_le (l:=c) (by omega),h2,Nat.add_sub_cancel_left] at h;have a:cur'.take R.size=c:=by
   have:=congrArg (List.take R.size) h
   rw[List.take_take,Nat.min_eq_left (by omega),<-h2,List.take_left,h2] at this;exact this
  refine ⟨c,cur'.drop R.size,G,K,?_,h2,h3,h4,h5.rest ?_⟩
  ·rw[<-a,List.take_append_drop]
  ·have:=congrArg (List.drop R.size) h
   grind
theorem OwnEls.join {w:World} : ∀ {xs ys:List α} {cur rest F G},OwnEls R I w cur xs F->cur.length=xs.length*R.size->OwnEls R I w rest ys G->OwnEls R I w (cur++rest) (xs++ys) (F++G)
 | [],ys,cur,rest,F,G,h,hl,k=>by
  have:cur= []:=List.eq_nil_of_length_eq_zero (by grind)
  subst this;rw[show F= [] from h];exact k
 | x::xs,ys,cur,rest,F,G,⟨c,r,G1,K,h1,h2,h3,h4,h5⟩,hl,k=>by
  subst h1;subst h3;refine ⟨c,r++rest,G1,K++G,by simp,h2,by simp,h4,h5.join ?_ k⟩;grind
theorem OwnEls.parts {w:World} : ∀ {xs ys:List α} {cur F},OwnEls R I w cur (xs++ys) F-> ∃G K,F=G++K/\OwnEls R I w cur xs G/\OwnEls R I w (cur.drop (xs.length*R.size)) ys K
 | [],ys,cur,F,h=>⟨[],F,rfl,rfl,by simp_all⟩
 | x::xs,ys,cur,F,⟨c,r,G1,K,h1,h2,h3,h4,h5⟩=>by
  have ⟨G,a,b,d,e⟩:=h5.parts;subst h1;subst h3;subst b;refine ⟨G1++G,a,by simp,⟨c,r,G1,G,rfl,h2,rfl,h4,d⟩,?_⟩;simp_all[ay,Nat.add_mul,Nat.one_mul,Nat.add_comm,List.drop_append,List.drop_of_length_le,Nat.add_sub_cancel_left]
end
def ax {α:Type} (E:TypeId) (R:Rep α):Rep (List α) where
 size:=1
 rd I cs xs:= ∃ao cap,cs= [.slice ao xs.length cap] /\(xs.length<=lim/\xs.length<=cap)/\(xs= [] \/ ∃b off ccs t fr,ao=some ⟨b,off,none⟩/\I b=some (.cells ccs t fr) /\
  ∀i x,xs[i]? =some x-> ∃c:List Value,c.length=R.size/\(∀j,j<R.size->ccs.toList[off+i*R.size+j]? =c[j]?)/\R.rd I c x)
 own I w cs xs F:=xs.length<=lim/\((cs= [.slice none 0 0] /\xs= [] /\F= []) \/
  ∃g ofs cap cur K,cs= [.slice (some ⟨g,ofs,none⟩) xs.length cap] /\w.heap[g]? =some (.cells cur E (0,0))/\xs.length<=cap/\cap<=maxLen/\ofs+cap*R.size<=cur.size/\F=g::K/\OwnEls R I w (cur.toList.drop ofs) xs K)
 rd_len:=by rintro I cs xs ⟨ao,cap,rfl,_⟩;rfl
 rd_one:=by rintro I cs xs ⟨ao,cap,rfl,_⟩ u hu;simp at hu;subst hu;rfl
 rd_mono:=by
  rintro I J cs xs ⟨ao,cap,rfl,hl,h⟩ hJ
  refine ⟨ao,cap,rfl,hl,?_⟩
  rcases h with h | ⟨b,off,ccs,t,fr,h1,h2,h4⟩
  ·exact .inl h
  ·exact .inr ⟨b,off,ccs,t,fr,h1,hJ _ _ h2,fun i x hx=>let ⟨c,e1,e2,e3⟩:=h4 i x hx; ⟨c,e1,e2,R.rd_mono e3 hJ⟩⟩
 own_len:=by
  rintro I w cs xs F ⟨hl,h⟩
  rcases h with ⟨rfl,_⟩ | ⟨g,ofs,cap,cur,K,rfl,_⟩ <;> rfl
 own_one:=by
  rintro I w cs xs F ⟨hl,h⟩ u hu
  rcases h with ⟨rfl,_⟩ | ⟨g,ofs,cap,cur,K,rfl,_⟩ <;> (simp at hu;subst hu;rfl)
 own_mono:=by
  rintro I J w cs xs F ⟨hl,h⟩ hJ
  refine ⟨hl,?_⟩
  rcases h with h | ⟨g,ofs,cap,cur,K,h1,h2,h3,h4,h5,h6,h7⟩
  ·exact .inl h
  ·exact .inr ⟨g,ofs,cap,cur,K,h1,h2,h3,h4,h5,h6,h7.mono hJ⟩
 own_stay:=by
  rintro I w w' cs xs F ⟨hl,h⟩ hw
  refine ⟨hl,?_⟩
  rcases h with h | ⟨g,ofs,cap,cur,K,h1,h2,h3,h4,h5,rfl,h6⟩
  ·exact .inl h
  ·exact .inr ⟨g,ofs,cap,cur,K,h1,by rw[hw g (by simp)];exact h2,h3,h4,h5,rfl,h6.stay fun b hb=>hw b (by simp[hb])⟩
 own_live:=by
  rintro I w cs xs F ⟨hl,h⟩ b hb
  rcases h with ⟨_,_,rfl⟩ | ⟨g,ofs,cap,cur,K,h1,h2,h3,h4,h5,rfl,h6⟩
  ·cases hb
  ·rcases aE hb with rfl | hb
   ·exact (Array.getElem?_eq_some_iff.1 h2).1
   ·exact h6.live b hb
 own_rd:=by
  rintro I J w cs xs F ⟨hl,h⟩ hJ hB
  rcases h with ⟨rfl,rfl,rfl⟩ | ⟨g,ofs,cap,cur,K,rfl,h2,h3,h4,h5,rfl,h6⟩
  ·exact ⟨none,0,rfl,by simp,.inl rfl⟩
  ·refine ⟨some ⟨g,ofs,none⟩,cap,rfl,⟨hl,h3⟩,.inr ⟨g,ofs,cur,E,(0,0),rfl,by rw[hB g (by simp)];exact h2,fun i x hx=>?_⟩⟩
   obtain ⟨c,e1,e2,e3⟩:=h6.at hJ (fun b hb=>hB b (by simp[hb])) i x hx
   exact ⟨c,e1,fun j hj=>by rw[Nat.add_assoc,<-List.getElem?_drop];exact e2 j hj,e3⟩
structure Ch where
 holds:Hp->World->List Nat->Prop
 mono: ∀ {I J w F},holds I w F->I.le J->holds J w F
 stay: ∀ {I w w' F},holds I w F->(∀b,b∈F->w'.heap[b]? =w.heap[b]?)->holds I w' F
 live: ∀ {I w F},holds I w F-> ∀b,b∈F->b<w.heap.size
def Ch.own {α:Type} (R:Rep α) (cs:List Value) (a:α):Ch:=⟨fun I w F=>R.own I w cs a F,fun h=>R.own_mono h,fun h=>R.own_stay h,fun h=>R.own_live h⟩
def Ch.blk (g:Nat) (cs:List Value) (E:TypeId):Ch:=
 ⟨fun _ w F=>F= [g] /\w.heap[g]? =some (.cells cs.toArray E (0,0)),fun h _=>h,fun h hw=>⟨h.1,by rw[hw g (by rw[h.1];simp)];exact h.2⟩,fun h b hb=>by rw[h.1] at hb;simp at hb;subst hb;exact (Array.getElem?_eq_some_iff.1 h.2).1⟩
def Sep (I:Hp):List Ch->World->List Nat->Prop
 | [],_,F=>F= []
 | c::cs,w,F=> ∃G K,F=G++K/\c.holds I w G/\Sep I cs w K
section
variable {I J:Hp}
theorem Sep.stay {w w':World} : ∀ {a F},Sep I a w F->(∀b,b∈F->w'.heap[b]? =w.heap[b]?)->Sep I a w' F
 | [],_,h,_=>h
 | c::a,F,⟨G,K,h1,h2,h3⟩,h=>by
  subst h1;exact ⟨G,K,rfl,c.stay h2 fun b d=>h b (bj _ d),h3.stay fun b d=>h b (bp _ d)⟩
theorem Sep.mono {w:World} : ∀ {a F},Sep I a w F->I.le J->Sep J a w F
 | [],_,h,_=>h
 | c::a,F,⟨G,K,h1,h2,h3⟩,h=>⟨G,K,h1,c.mono h2 h,h3.mono h⟩
theorem Sep.live {w:World} : ∀ {a F},Sep I a w F-> ∀b,b∈F->b<w.heap.size
 | [],_,h,b,hb=>by rw[show _= [] from h] at hb;cases hb
 | c::a,F,⟨G,K,h1,h2,h3⟩,b,hb=>by
  subst h1;rcases aG hb with h | h
  ·exact c.live h2 b h
  ·exact h3.live b h
theorem Sep.append {w:World} : ∀ {b a F G},Sep I b w F->Sep I a w G->Sep I (b++a) w (F++G)
 | [],a,F,G,h,k=>by rw[show F= [] from h];exact k
 | c::b,a,F,G,⟨G1,K,h1,h2,h3⟩,k=>by
  subst h1;exact ⟨G1,K++G,by simp,h2,h3.append k⟩
theorem Sep.split {w:World} : ∀ {b a F},Sep I (b++a) w F-> ∃G K,F=G++K/\Sep I b w G/\Sep I a w K
 | [],a,F,h=>⟨[],F,rfl,rfl,h⟩
 | c::b,a,F,⟨G,K,h1,h2,h3⟩=>by
  have ⟨d,f,g,i,e⟩:=Sep.split h3;subst g;subst h1;exact ⟨G++d,f,by simp,⟨G,d,rfl,h2,i⟩,e⟩
theorem Sep.perm {w:World} {cs ds:List Ch} (h:cs.Perm ds): ∀ {F},Sep I cs w F-> ∃G,G.Perm F/\Sep I ds w G:=by
 induction h with
 | nil=>grind
 | cons c _ ih =>
  rintro F ⟨G,K,rfl,e,i⟩;have ⟨d,k,m⟩:=ih i;exact ⟨G++d,k.append_left G,G,d,rfl,e,m⟩
 | swap a b l =>
  rintro F ⟨G,K,rfl,e,⟨f,d,rfl,g,j⟩⟩;exact ⟨f++(G++d),List.perm_append_comm_assoc _ _ _,f,G++d,rfl,g,G,d,rfl,e,j⟩
 | trans _ _ ih1 ih2 =>
  grind
end
def St (I:Hp) (w0 w:World) (cs:List Ch):Prop:=
 (w.os=w0.os/\w.tape=w0.tape/\w.output=w0.output/\w0.heap.size<=w.heap.size)/\I.le (hp w)/\ ∃F,Sep I cs w F/\F.Nodup/\ ∀b,b∈F->I b=none
section
variable {I J:Hp} {w0 w w':World} {cs ds:List Ch}
theorem St.init (w:World):St (hp w) w w []:=⟨⟨rfl,rfl,rfl,aF _⟩,.rfl,[],rfl,List.nodup_nil,by simp⟩
theorem St.perm (h:St I w0 w cs) (hp:cs.Perm ds):St I w0 w ds:=by
 have ⟨e,i,F,g,d,f⟩:=h;have ⟨G,c,j⟩:=g.perm hp;exact ⟨e,i,G,j,c.nodup_iff.2 d,fun b a=>f b (c.mem_iff.1 a)⟩
theorem LM {α:Type} {l:List α} {c:α} : ∀ {i:Nat},l[i]? =some c->l.Perm (c::l.eraseIdx i):=by
 induction l with
 | nil=>grind
 | cons x l ih =>
  intro i h;cases i with
  | zero=>simp_all
  | succ i=>exact ((ih (by grind)).cons x).trans (.swap _ _ _)
theorem St.front (h:St I w0 w cs) {c:Ch} (i:Nat) (hi:cs[i]? =some c):St I w0 w (c::cs.eraseIdx i):=h.perm (LM hi)
theorem St.tail {c:Ch} (h:St I w0 w (c::cs)):St I w0 w cs:=by
 obtain ⟨d,i,F,⟨G,K,rfl,j,f⟩,e,g⟩:=h;exact ⟨d,i,K,f,(List.nodup_append.1 e).2.1,fun b a=>g b (bp _ a)⟩
theorem St.left (h:St I w0 w (cs++ds)):St I w0 w cs:=by
 have ⟨d,g,F,f,c,e⟩:=h;obtain ⟨G,K,rfl,i,j⟩:=f.split;exact ⟨d,g,G,i,(List.nodup_append.1 c).1,fun b a=>e b (bj _ a)⟩
theorem St.step {c:List Ch} {c':List Ch} (h:St I w0 w (c++cs)) (p:w'.os=w.os) (v:w'.tape=w.tape) (s:w'.output=w.output) (x:w.heap.size<=w'.heap.size)
  (hs: ∀F,Sep I c w F->F.Nodup->(∀b,b∈F->I b=none)->(∀b,b<w.heap.size->b∉F->w'.heap[b]? =w.heap[b]?)/\ ∃F',Sep I c' w' F'/\F'.Nodup/\ ∀b,b∈F'->b∈F\/w.heap.size<=b):St I w0 w' (c'++cs):=by
 have ⟨⟨t,C,A,M⟩,l,F,L,n,B⟩:=h;obtain ⟨G,K,rfl,E,e⟩:=L.split;have ⟨z,r,D⟩:=List.nodup_append.1 n;have ⟨k,H,y,u,j⟩:=hs G E z fun b d=>B b (bj _ d);have q:=fun b a=>k b (e.live b a) fun m=>D b m b a rfl;have g:=fun b o d=>(Array.getElem?_eq_some_iff.1 (l b o d)).1;refine ⟨⟨p.trans t,v.trans C,s.trans A,Nat.le_trans M x⟩,fun b o d=>?_,H++K,y.append (e.stay q),List.nodup_append.2 ⟨u,r,?_⟩,?_⟩
 ·show w'.heap[b]? =some o;rw[k b (g b o d) fun m=>by grind];exact l b o d
 ·rintro b i c f rfl;rcases j b i with h | h
  ·grind
  ·have:=e.live b f;omega
 ·intro b a;rcases aG a with h | h
  ·rcases j b h with h | h
   ·grind
   ·cases N:I b with
    | none=>rfl
    | some o=>grind
  grind
theorem St.drawn (h:St I w0 w cs) (d:w'.os=w.os) (e:w'.tape=w.tape) (a:w'.output=w.output) (f:w'.heap=w.heap):St I w0 w' cs:=by
 refine St.step (w:=w) (c:=[]) (c':=[]) h d e a (by grind) ?_;rintro F rfl - -;exact ⟨fun b g _=>by rw[f],[],rfl,List.nodup_nil,by simp⟩
theorem St.drew (h:St I w0 w cs):St I w0 w.drew cs:=h.drawn rfl rfl rfl rfl
def Ch.fr (I:Hp) (cs:List Ch):Ch:=⟨fun _ w F=>Sep I cs w F,fun h _=>h,fun h=>h.stay,fun h=>h.live⟩
def Ch.deep (c:Ch):Prop:= ∀ {I J w F},c.holds J w F->c.holds I w F
def Ch.deeps:List Ch->Prop
 | [] =>True
 | c::cs=>c.deep/\Ch.deeps cs
theorem Sep.deeps {w:World} : ∀ {cs F},Ch.deeps cs->Sep J cs w F->Sep I cs w F
 | [],_,_,h=>h
 | c::cs,F,hd,⟨G,K,h1,h2,h3⟩=>⟨G,K,h1,hd.1 h2,h3.deeps hd.2⟩
theorem St.lend {ls:List Ch} (h:St I w0 w (ls++cs)): ∃J,I.le J/\(∀ {α:Type} (R:Rep α) (v:List Value) (a:α),Ch.own R v a∈ls->R.rd J v a)/\(∀g l E,Ch.blk g l E∈ls->J g=some (.cells l.toArray E (0,0)))/\St J w0 w [Ch.fr I cs] /\
  ∀w' ds,Ch.deeps ds->St J w0 w' (ds++ [Ch.fr I cs])->St I w0 w' (ds++(ls++cs)):=by
 have ⟨r,P,F,T,A,h3⟩:=h;obtain ⟨G,K,rfl,m,B⟩:=T.split;have ⟨Z,M,n3⟩:=List.nodup_append.1 A;let J:=fun b=>if b∈G then w.heap[b]? else I b;have j:I.le J:=fun b o f=>by
  grind
 have k: ∀b,b∈G->J b=w.heap[b]? :=fun b f=>if_pos f;have s: ∀b,b∉G->J b=I b:=fun b f=>if_neg f;have i: ∀ {ls:List Ch} {G:List Nat} {c:Ch},Sep I ls w G->c∈ls-> ∃p,(∀b,b∈p->b∈G)/\c.holds I w p:=by
  intro ls;induction ls with
  | nil=>grind
  | cons d ls ih =>
   rintro G c ⟨G1,W,rfl,e,e'⟩ hc;grind
 refine ⟨J,j,fun R v a q=>?_,fun g l E q=>?_,⟨r,fun b o f=>?_,K,⟨K,[],by simp,B,rfl⟩,M,fun b f=>?_⟩,?_⟩
 ·have ⟨p,x,y⟩:=i m q;exact R.own_rd y j fun b r=>k b (x b r)
 ·have ⟨p,x,y,f3⟩:=i m q;grind
 ·by_cases n:b∈G
  ·rw[k b n] at f;exact f
  ·rw[s b n] at f;exact P b o f
 ·grind
 ·rintro w' ds C ⟨D,z,U,N,Y,V⟩;obtain ⟨H,X,rfl,Q,S,F4,rfl,O,rfl⟩:=N.split;have t:=m.live;have u: ∀b,b∈G->w'.heap[b]? =w.heap[b]? :=fun b n=>by
   have ⟨o,L⟩: ∃o,w.heap[b]? =some o:=⟨_,Array.getElem?_eq_getElem (t b n)⟩;rw[L];exact z b o (by grind)
  refine ⟨D,j.trans z,H++(G++S),(Q.deeps C).append ((m.stay u).append O),?_,fun b f=>?_⟩
  ·grind
  grind
theorem St.freeze {α:Type} {R:Rep α} {v:List Value} {a:α} (h:St I w0 w (Ch.own R v a::cs)): ∃J,I.le J/\R.rd J v a/\St J w0 w cs:=by
 obtain ⟨i,j,F,⟨G,K,rfl,k,f⟩,e,m⟩:=h;have ⟨l,g,n⟩:=List.nodup_append.1 e;refine ⟨fun b=>if b∈G then w.heap[b]? else I b,fun b o c=>?_,R.own_rd k (fun b o c=>?_) fun b c=>if_pos c,i,fun b o c=>?_,K,f.mono fun b o c=>?_,g,fun b c=>?_⟩
 ·grind
 ·grind
 ·have d:(if b∈G then w.heap[b]? else I b)=some o:=c;split at d
  ·exact d
  ·exact j b o d
 ·grind
 grind
theorem St.freeze_blk {g:Nat} {l:List Value} {E:TypeId} (h:St I w0 w (Ch.blk g l E::cs)): ∃J,I.le J/\J g=some (.cells l.toArray E (0,0))/\St J w0 w cs:=by
 obtain ⟨i,j,F,⟨G,K,rfl,⟨rfl,k⟩,e⟩,d,n⟩:=h;have ⟨m,f,p⟩:=List.nodup_append.1 d;refine ⟨fun b=>if b ∈ [g] then w.heap[b]? else I b,fun b o c=>?_,(if_pos (by simp)).trans k,i,fun b o c=>?_,K,e.mono fun b o c=>?_,f,fun b c=>?_⟩
 ·grind
 ·have a:(if b ∈ [g] then w.heap[b]? else I b)=some o:=c;split at a
  ·exact a
  ·exact j b o a
 ·grind
 grind
theorem St.heap (h:St I w0 w cs) {g:Nat} {l:List Value} {E:TypeId} (i:Nat) (hi:cs[i]? =some (Ch.blk g l E)):w.heap[g]? =some (.cells l.toArray E (0,0)):=by
 have ⟨f,_,F,⟨G,K,e,a,c⟩,b,d⟩:=h.front i hi;exact a.2
theorem St.alloc (h:St I w0 w cs) (l:List Value) (E:TypeId):St I w0 (w.alloc (.cells l.toArray E)) (Ch.blk w.heap.size l E::cs):=by
 refine St.step (w:=w) (c:=[]) (c':=[Ch.blk w.heap.size l E]) (w':=w.alloc (.cells l.toArray E)) h rfl rfl rfl (by simp) ?_;rintro F rfl - -;refine ⟨fun b a _=>?_,[w.heap.size],⟨[w.heap.size],[],rfl,⟨rfl,heap_alloc_new w _⟩,rfl⟩,by simp,by simp⟩;show (w.heap.push _)[b]? =_;grind
theorem gS {w:World} {g o:Nat} {v:Value} {cur:Array Value} {E:TypeId} {a:Nat×Nat} (h:w.heap[g]? =some (.cells cur E a)):(w.setCell ⟨g,o,none⟩ v).heap[g]? =some (.cells (cur.setIfInBounds o v) E a):=by
 simp[World.setCell,Array.getElem?_modify,h]
theorem St.set {g:Nat} {l:List Value} {E:TypeId} (h:St I w0 w (Ch.blk g l E::cs)) (j:Nat) (v:Value):St I w0 (w.setCell ⟨g,j,none⟩ v) (Ch.blk g (l.set j v) E::cs):=by
 refine St.step (c:=[Ch.blk g l E]) (c':=[Ch.blk g (l.set j v) E]) (w':=w.setCell ⟨g,j,none⟩ v) h rfl rfl rfl (by simp) ?_;rintro F ⟨G,K,rfl,⟨rfl,a⟩,rfl⟩ - -;refine ⟨fun b e d=>Below.heap_setCell _ _ _ _ (by grind),[g],⟨[g],[],rfl,⟨rfl,?_⟩,rfl⟩,by simp,by simp⟩;rw[gS a];simp
end
def evL (L:List (Nat×Value)):Operand->Value
 | .tmp t=>(L.lookup t).getD undef
 | .const v=>v
 | .global g=>.pointer (some ⟨g,0,none⟩)
 | .func f=>.func (.func f) #[] #[]
def Nj (L:List (Nat×Value)):Operand->Bool
 | .tmp t=>(L.lookup t).isSome
 | _=>true
def xj (L:List (Nat×Value)) (o:Oper):Bool:=o.op.operands.toList.all (Nj L)
def Agr (n:Nat) (a:Act) (L:List (Nat×Value)):Prop:=a.defers= [] /\a.tmps.size=n/\ ∀t v,L.lookup t=some v->a.tmps.getD t undef=v
def Nc (d:Option Tmp) (v:Value) (L:List (Nat×Value)):List (Nat×Value):=
 match d with
 | some d=>(d,v)::L
 | none=>L
def dstOk (n:Nat):Option Tmp->Bool
 | some d=>decide (d<n)
 | none=>true
section
variable {n:Nat} {a:Act} {L L':List (Nat×Value)}
theorem Agr.eval (h:Agr n a L) {x:Operand} (b:Nj L x=true):a.eval x=evL L x:=by
 cases x with
 | tmp t =>
  have ⟨v,hv⟩:=Option.isSome_iff_exists.1 b;simp only[Act.eval,evL,hv];exact h.2.2 t v hv
 | _=>rfl
theorem xk {l:Array Value} {d:Nat} {v x:Value} (h:d<l.size):(l.setIfInBounds d v).getD d x=v:=by
 simp_all
theorem getD_set_ne {l:Array Value} {d t:Nat} {v x:Value} (h:d≠t):(l.setIfInBounds d v).getD t x=l.getD t x:=by
 simp_all
theorem Agr.put (h:Agr n a L) {d:Option Tmp} (v:Value) (c:dstOk n d=true):Agr n (a.put d v) (Nc d v L):=by
 cases d with
 | none=>exact h
 | some d =>
  have c:d<n:=by simpa [dstOk] using c
  refine ⟨h.1,by simp[Act.put,h.2.1],fun t u b=>?_⟩;simp[Nc,List.lookup_cons] at b;by_cases e:t=d
  ·subst e;simp at b;subst b;exact xk (by rw[h.2.1];exact c)
  ·have:(t==d)=false:=by simpa using e
   rw[this] at b;show (a.tmps.setIfInBounds d v).getD t undef=u;rw[getD_set_ne (fun f=>e f.symm)];exact h.2.2 t u b
theorem Agr.sub (h:Agr n a L) (hs: ∀t v,L'.lookup t=some v->L.lookup t=some v):Agr n a L':=⟨h.1,h.2.1,fun t v hv=>h.2.2 t v (hs t v hv)⟩
theorem Agr.pick (h:Agr n a L) (L':List (Nat×Value)) (hs: ∀p∈L',L.lookup p.1=some p.2):Agr n a L':=by
 refine h.sub fun t v hv=>?_
 have: ∀(M:List (Nat×Value)),(∀p∈M,L.lookup p.1=some p.2)->M.lookup t=some v->L.lookup t=some v:=by
  intro M;induction M with
  | nil=>grind
  | cons p M ih =>
   grind
 grind
theorem Agr.start {args:Array Value} {m:Nat} (L:List (Nat×Value)) (e:args.size+m=n) (hs: ∀p∈L,args[p.1]? =some p.2):Agr n { tmps:=args++Array.replicate m undef,defers:=[] } L:=by
 have d:Agr n { tmps:=args++Array.replicate m undef,defers:=[] } (args.toList.zipIdx.map fun p=>(p.2,p.1)):=by
  refine ⟨rfl,by grind,fun t v hv=>?_⟩;have key: ∀(l:List Value) (k:Nat),((l.zipIdx k).map fun p=>(p.2,p.1)).lookup t=some v->k<=t/\l[t - k]? =some v:=by
   intro l;induction l with
   | nil=>grind
   | cons x l ih =>
    grind[List.zipIdx_cons]
  obtain ⟨-,c⟩:=key _ 0 hv;rw[Nat.sub_zero,Array.getElem?_toList] at c;have b:=(Array.getElem?_eq_some_iff.1 c).1;rw[Array.getD_eq_getD_getElem?,Array.getElem?_append_left b,c];rfl
 refine d.pick L fun p hp=>?_;have key: ∀(l:List Value) (k:Nat),k<=p.1->l[p.1 - k]? =some p.2->((l.zipIdx k).map fun p=>(p.2,p.1)).lookup p.1=some p.2:=by
  intro l;induction l with
  | nil=>grind
  | cons x l ih =>
   grind[List.zipIdx_cons]
 grind
end
def Upon (P:Program) (ok:Value->World->Prop):Result Next->Prop
 | .ok (.value v) w'=>ok v w'
 | .ok .skip w'=>ok undef w'
 | .ok (.enter f args) w'=>Calls P f args w' fun e w''=> ∃v,e= .returned v/\ok v w''
 | _=>False
def OpT (P:Program) (I:Hp) (w0:World) (o:Oper) (ev:Operand->Value) (rn:List Ch) (fact:Value->Prop) (gv:Value->List Ch):Prop:=
 ∀w C,St I w0 w (rn++C)->Upon P (fun v w'=>fact v/\St I w0 w' (gv v++C)) ((execOp ev o).run P w)
theorem Upon.wp {P:Program} {o:Oper} {a:Act} {w:World} {ok:Value->World->Prop} {K:Act->World->Prop} {Q:Exit->Act->World->Prop} (b:Upon P ok ((execOp a.eval o).run P w)) (d: ∀v c,ok v c->K (a.put o.dst v) c):o.wp P a w K Q:=by
 unfold Oper.wp;generalize (execOp a.eval o).run P w=r at b;cases r with
 | halt h c=>exact b.elim
 | ok x c =>
  cases x <;> first | exact b.elim | exact d _ _ b | skip
  refine Calls.mono b ?_;grind
def noSelect (o:Oper):Bool:=match o.op with | .select .. =>false | _=>true
theorem rL {ρ ρ':Operand->Value} {o:Oper} (hs:noSelect o=true) (h: ∀x∈o.op.operands,ρ x=ρ' x):execOp ρ o=execOp ρ' o:=
 execOp_congr o (fun a b e=>by grind[noSelect]) h
section
variable {P:Program} {I:Hp} {w0 w:World} {n:Nat} {a:Act} {L:List (Nat×Value)} {C0 C rn:List Ch} {ops:Array Oper} {Q:Exit->Act->World->Prop} {o:Oper} {rest:List Oper}
theorem Up {fact:Value->Prop} {gv:Value->List Ch} (g:Agr n a L) (hs:St I w0 w C0) (l:o.guard=none) (b:OpT P I w0 o (evL L) rn fact gv) (hp:C0.Perm (rn++C)) (f:(xj L o&&dstOk n o.dst&&noSelect o)=true)
  (k: ∀v a w,fact v->Agr n a (Nc o.dst v L)->St I w0 w (gv v++C)->wpList P ops Q rest a w):wpList P ops Q (o::rest) a w:=by
 simp[aj] at f;have ⟨⟨d,e⟩,c⟩:=f;refine wpList_plain l fun K i=>?_;have j:=rL c fun x p=>g.eval ((List.all_eq_true.1 d) x (by grind));have h:=b w C (hs.perm hp);rw[<-j] at h;exact h.wp fun v m hv=>i _ _ (k v _ m hv.1 (g.put v e) hv.2)
end
structure OpRec where
 reads:List Nat
 needs:List Nat
 gives:List Nat
 deps:List Nat
 fact:List Value->Prop
 src:List (Nat×Option Nat)
structure ResRec where
 deps:List Nat
 ch:List Value->Ch
structure Plan where
 ops:List OpRec
 res:List ResRec
 base:List Nat
 pre:List (List Nat)
 fin:List (Nat×Option Nat)
 left:List Nat
def upd (vs:Nat->Value) (i:Nat) (v:Value):Nat->Value:=fun j=>if j=i then v else vs j
theorem iF {vs:Nat->Value} {i:Nat} {v:Value} :upd vs i v i=v:=by simp[upd]
theorem JU {vs:Nat->Value} {i j:Nat} {v:Value} (h:j≠i):upd vs i v j=vs j:=by simp[upd,h]
namespace Plan
def op (p:Plan) (i:Nat):OpRec:=p.ops.getD i ⟨[],[],[],[],fun _=>True,[]⟩
def chunk (p:Plan) (r:Nat) (vs:Nat->Value):Ch:=
 match p.res[r]? with
 | some x=>x.ch (x.deps.map vs)
 | none=>Ch.fr (fun _=>none) []
def fact (p:Plan) (i:Nat) (vs:Nat->Value):Prop:=(p.op i).fact ((p.op i).deps.map vs)
end Plan
def edgesOf (o:Oper):List Nat:=(o.after.toList.filter (Region.binds .any)).map (·.on)
def slotsOf (ops:Array Oper) (o:Oper):List Nat:=o.looksAt ops
def LN (o:Oper) (vs:Nat->Value):Option Bool:=
 match o.guard with
 | none=>some true
 | some (g,want)=>match vs g with
  | .bool b=>some (b==want)
  | _=>some false
section
variable {p:Plan} {C:List Ch} {P:Program} {I:Hp} {w0:World} {n:Nat} {L:List (Nat×Value)} {ops:List Oper} {S:Nat->Bool} {vs:Nat->Value} {a:Act} {w:World} {i:Nat} {o:Oper}
theorem mem_ready {ops:Array Oper} {listed:Array Bool} {i:Nat} :i∈Region.ready .any ops listed↔i<ops.size/\listed.getD i true=false/\ ∀o,ops[i]? =some o-> ∀j,j∈edgesOf o->listed.getD j false=true:=by
 unfold Region.ready;rw[List.mem_filter,List.mem_range];constructor
 ·grind[Array.all_eq_true',edgesOf]
 ·rintro ⟨c,d,f⟩;refine ⟨c,?_⟩;simp only[aj,Bool.not_eq_true'];refine ⟨d,?_⟩;have b:=Array.getElem?_eq_getElem c;rw[b];simp only[Option.map_some,Option.getD_some,Array.all_eq_true',Bool.or_eq_true,Bool.not_eq_true'];intro e h;cases g:Region.binds .any e with
  | false=>grind
  | true =>
   refine .inr (f _ b _ ?_);grind[edgesOf]
def leftOf (m:Nat) (listed:Array Bool):Nat:=((List.range m).filter fun i=> !listed.getD i false).length
end
end D
namespace D
open Go.RowKit
def YU:TypeDesc->Bool
 | .struct _ | .array _ _=>true
 | _=>false
def TI (P:Program) (T:TypeId) (agg:Bool) (n:Nat):Prop:=(∃d,P.underlying T=some d/\YU d=agg)/\(P.info? T).map (·.size)=some n
def TZ (P:Program) (T:TypeId) (z:Value) (n bytes:Nat):Prop:=(P.info? T).map (fun i=>(i.zero,i.size,i.bytes))=some (some z,n,bytes)
def TF (P:Program) (T:TypeId) (f off n:Nat):Prop:= ∃fs fd,P.underlying T=some (.struct fs)/\fs[f]? =some fd/\fd.offset=off/\(P.info? fd.type).map (·.size)=some (n+1)
section
variable {P:Program}
theorem TI.run_agg {T:TypeId} {agg:Bool} {n:Nat} (h:TI P T agg n) (w:World):(isAgg T).run P w= .ok agg w:=by
 obtain ⟨⟨d,a,rfl⟩,-⟩:=h;unfold isAgg;rw[Sem.run_bind,run_underlying a w];cases d <;> rfl
theorem TI.run_size {T:TypeId} {agg:Bool} {n:Nat} (h:TI P T agg n) (w:World):(sizeOf T).run P w= .ok n w:=by
 obtain ⟨-,h⟩:=h;cases a:P.info? T with
 | none=>grind
 | some i =>
  simp_all[sizeOf,typeInfo]
theorem TZ.run_zero {T:TypeId} {z:Value} {n b:Nat} (h:TZ P T z n b) (w:World):(zeroValue T).run P w= .ok z w:=by
 have ⟨i,c,a,d,e⟩:=info_parts h;simp[zeroValue,typeInfo,c,a]
variable {I:Hp} {w0:World} {o:Oper} {ev:Operand->Value}
theorem bB {v:Value} (h: ∀w,(execOp ev o).run P w= .ok (.value v) w):OpT P I w0 o ev [] (· =v) (fun _=>[]):=by
 intro w C a;rw[h];exact ⟨rfl,a⟩
theorem Rp {x:Operand} {v:Value} (a:o.op= .move x) (hv:ev x=v):OpT P I w0 o ev [] (· =v) (fun _=>[]):=
 bB fun w=>by simp_all[execOp]
theorem LO {x:Operand} {v:Value} (a:o.op= .assign x) (hv:ev x=v):OpT P I w0 o ev [] (· =v) (fun _=>[]):=
 bB fun w=>by simp_all[execOp]
theorem JV {c x y:Operand} {b:Bool} {v:Value} (d:o.op= .pick c x y) (a:ev c= .bool b) (hv:(if b then ev x else ev y)=v):OpT P I w0 o ev [] (· =v) (fun _=>[]):=
 bB fun w=>by simp_all[execOp,asBool]
theorem Bf {x:Operand} {vs:Array Value} {i:Nat} {v:Value} (b:o.op= .extract x i) (a:ev x= .tuple vs) (hv:vs[i]? =some v):OpT P I w0 o ev [] (· =v) (fun _=>[]):=
 bB fun w=>by simp_all[execOp,Instr.extract,Result.andThen]
theorem Nk {x:Operand} {t:TypeId} {b:Bool} (c:o.op= .unOp .not t x) (a:ev x= .bool b):OpT P I w0 o ev [] (· = .bool (!b)) (fun _=>[]):=
 bB fun w=>by simp[execOp,c,a];rfl
theorem VN {x:Operand} {t:TypeId} {n:Int} (b:o.op= .unOp .neg t x) (a:ev x= .int .i64 n):OpT P I w0 o ev [] (· = .int .i64 (i64.wrap (-n))) (fun _=>[]):=
 bB fun w=>by simp[execOp,b,a,Op.unary,Op.intArith,Result.andThen]
def YV:BinOp->Bool
 | .eql | .neq | .lss | .leq | .gtr | .geq=>true
 | _=>false
def aaX:BinOp->Int->Int->Bool
 | .eql,a,b=>a==b
 | .neq,a,b=>a !=b
 | .lss,a,b=>decide (a<b)
 | .leq,a,b=>decide (a<=b)
 | .gtr,a,b=>decide (a>b)
 | _,a,b=>decide (a≥b)
theorem wx {x y:Operand} {b:BinOp} {t u:TypeId} {k:IntKind} {m n:Int} {c:Bool} (f:o.op= .binOp b t x y u) (a:ev x= .int k m) (g:ev y= .int k n) (e:YV b=true) (d:aaX b m n=c):OpT P I w0 o ev [] (· = .bool c) (fun _=>[]):=
 bB fun w=>by
  subst d;simp[execOp,f,a,g];cases b <;> first | exact absurd e (by decide) | (cases k <;> rfl)
theorem VO {x y:Operand} {t u:TypeId} {m n:Int} (b:o.op= .binOp .add t x y u) (a:ev x= .int .i64 m) (c:ev y= .int .i64 n):OpT P I w0 o ev [] (· = .int .i64 (i64.wrap (m+n))) (fun _=>[]):=
 bB fun w=>by simp[execOp,b,a,c];rfl
theorem VP {x y:Operand} {t u:TypeId} {m n:Int} (b:o.op= .binOp .sub t x y u) (a:ev x= .int .i64 m) (c:ev y= .int .i64 n):OpT P I w0 o ev [] (· = .int .i64 (i64.wrap (m - n))) (fun _=>[]):=
 bB fun w=>by simp[execOp,b,a,c];rfl
theorem VQ {x y:Operand} {t u:TypeId} {m n:Int} (b:o.op= .binOp .mul t x y u) (a:ev x= .int .i64 m) (c:ev y= .int .i64 n):OpT P I w0 o ev [] (· = .int .i64 (i64.wrap (m*n))) (fun _=>[]):=
 bB fun w=>by simp[execOp,b,a,c];rfl
def Gp (m n:Int):Int:=i64.wrap (m.tdiv n)
theorem VR {x y:Operand} {t u:TypeId} {m n:Int} (b:o.op= .binOp .quo t x y u) (a:ev x= .int .i64 m) (d:ev y= .int .i64 n) (c:n≠0):OpT P I w0 o ev [] (· = .int .i64 (Gp m n)) (fun _=>[]):=
 bB fun w=>by simp_all[execOp,eqGuard,binOp,Op.intDiv,Result.andThen,Gp]
theorem VS {x y:Operand} {t u:TypeId} {m n:Int} (b:o.op= .binOp .rem t x y u) (a:ev x= .int .i64 m) (d:ev y= .int .i64 n) (c:n≠0):OpT P I w0 o ev [] (· = .int .i64 (m.tmod n)) (fun _=>[]):=
 bB fun w=>by simp_all[execOp,eqGuard,binOp,Op.intDiv,Result.andThen]
def C7 (m n:Int):Int:=i64.wrap (m*2 ^ (min n.toNat 64))
def pU (m n:Int):Int:=m.fdiv (2 ^ (min n.toNat 64))
theorem VT {x y:Operand} {t u:TypeId} {m n:Int} (b:o.op= .binOp .shl t x y u) (a:ev x= .int .i64 m) (c:ev y= .int .i64 n) (d:0<=n):OpT P I w0 o ev [] (· = .int .i64 (C7 m n)) (fun _=>[]):=
 bB fun w=>by simp[execOp,b,a,c,eqGuard,binOp,Op.shift,show¬n<0 from by omega,Result.andThen,C7,IntKind.bits]
theorem VU {x y:Operand} {t u:TypeId} {m n:Int} (b:o.op= .binOp .shr t x y u) (a:ev x= .int .i64 m) (c:ev y= .int .i64 n) (d:0<=n):OpT P I w0 o ev [] (· = .int .i64 (pU m n)) (fun _=>[]):=
 bB fun w=>by simp[execOp,b,a,c,eqGuard,binOp,Op.shift,show¬n<0 from by omega,Result.andThen,pU,IntKind.bits]
def rM (m n:Int):Int:=i64.wrap ((BitVec.ofInt 64 m &&& BitVec.ofInt 64 n).toNat:Nat)
def orI (m n:Int):Int:=i64.wrap ((BitVec.ofInt 64 m ||| BitVec.ofInt 64 n).toNat:Nat)
def aaY (m n:Int):Int:=i64.wrap ((BitVec.ofInt 64 m ^^^ BitVec.ofInt 64 n).toNat:Nat)
theorem VV {x y:Operand} {t u:TypeId} {m n:Int} (b:o.op= .binOp .and t x y u) (a:ev x= .int .i64 m) (c:ev y= .int .i64 n):OpT P I w0 o ev [] (· = .int .i64 (rM m n)) (fun _=>[]):=
 bB fun w=>by simp[execOp,b,a,c];rfl
theorem YW {x y:Operand} {t u:TypeId} {m n:Int} (b:o.op= .binOp .or t x y u) (a:ev x= .int .i64 m) (c:ev y= .int .i64 n):OpT P I w0 o ev [] (· = .int .i64 (orI m n)) (fun _=>[]):=
 bB fun w=>by simp[execOp,b,a,c];rfl
theorem VW {x y:Operand} {t u:TypeId} {m n:Int} (b:o.op= .binOp .xor t x y u) (a:ev x= .int .i64 m) (c:ev y= .int .i64 n):OpT P I w0 o ev [] (· = .int .i64 (aaY m n)) (fun _=>[]):=
 bB fun w=>by simp[execOp,b,a,c];rfl
theorem Bg {t:TypeId} {b c:Bool} (a:P.underlying t=some .bool) (w:World):(Op.equal t (.bool b) (.bool c)).run P w= .ok (b==c) w:=by
 unfold Op.equal Op.maxDepth;rw[Op.equalIn,Sem.run_bind,run_underlying a];rfl
theorem VX {x y:Operand} {t u:TypeId} {b c:Bool} (a:P.underlying t=some .bool) (f:o.op= .binOp .eql t x y u) (d:ev x= .bool b) (g:ev y= .bool c):OpT P I w0 o ev [] (· = .bool (b==c)) (fun _=>[]):=
 bB fun w=>by
  have e:eqGuard .eql t x y (.bool b) (.bool c)=pure ():=rfl;have h:binOp .eql t (.bool b) (.bool c)=(do pure (.bool (<-Op.equal t (.bool b) (.bool c)))):=rfl;simp_all[execOp,Sem.run_bind,Sem.run_pure,Bg,Result.andThen_ok]
theorem VY {x y:Operand} {t u:TypeId} {b c:Bool} (a:P.underlying t=some .bool) (f:o.op= .binOp .neq t x y u) (d:ev x= .bool b) (g:ev y= .bool c):OpT P I w0 o ev [] (· = .bool (b !=c)) (fun _=>[]):=
 bB fun w=>by
  have e:eqGuard .neq t x y (.bool b) (.bool c)=pure ():=rfl;have h:binOp .neq t (.bool b) (.bool c)=(do pure (.bool (!(<-Op.equal t (.bool b) (.bool c))))):=rfl;simp only[execOp,f,d,g,e,h,Sem.run_bind,Sem.run_pure,Bg a,Result.andThen_ok];rfl
theorem nr {x:Operand} {T:TypeId} {f g off b n:Nat} (m:TF P T f off n) (d:o.op= .fieldAddr T x f) (l:ev x= .pointer (some ⟨g,b,none⟩)):OpT P I w0 o ev [] (· = .pointer (some ⟨g,b+off,none⟩)) (fun _=>[]):=by
 have ⟨fs,h,p,c,j,e⟩:=m;refine bB fun w=>?_;cases a:P.info? h.type with
 | none=>grind
 | some i =>
  have k:i.size=n+1:=by simpa [a] using e
  simp[execOp,d,l,Instr.fieldAt,Instr.sureAddr,run_underlying p,c,fieldPlace,sizeOf,typeInfo,a,k,j,Result.andThen,Addr.add_mid]
theorem xl {x:Operand} {T:TypeId} {E:TypeId} {a:Option Addr} {n c:Nat} (b:P.underlying T=some (.slice E)) (e:o.op= .call { callee:=.builtin .len,args:= #[x],argTypes:= #[T] }) (d:ev x= .slice a n c):OpT P I w0 o ev [] (· = .int .i64 n) (fun _=>[]):=
 bB fun w=>by simp[execOp,e,d,resolve,invoke,builtin,Builtin.len_,run_underlying b,Result.andThen,goInt]
theorem Ip {x:Operand} {T:TypeId} {s:ByteArray} (a:P.underlying T=some .string) (c:o.op= .call { callee:=.builtin .len,args:= #[x],argTypes:= #[T] }) (b:ev x= .string s):OpT P I w0 o ev [] (· = .int .i64 s.size) (fun _=>[]):=
 bB fun w=>by simp[execOp,c,b,resolve,invoke,builtin,Builtin.len_,run_underlying a,Result.andThen,goInt]
theorem Ew {f:Fn} {first captured:Array Operand} {v:Value} (b:o.op= .makeFunc f first captured) (hv:Value.func f (first.toList.map ev).toArray (captured.toList.map ev).toArray=v):OpT P I w0 o ev [] (· =v) (fun _=>[]):=
 bB fun w=>by
  have c:first.map ev=(first.toList.map ev).toArray:=by grind
  have a:captured.map ev=(captured.toList.map ev).toArray:=by grind
  simp[execOp,b,<-hv,c,a];rfl
end
section
variable {P:Program} {I:Hp} {w0 w w':World} {cs:List Ch}
theorem Upon.imp {ok a:Value->World->Prop} {r:Result Next} (h:Upon P ok r) (k: ∀v w,ok v w->a v w):Upon P a r:=by
 cases r with
 | halt x w=>exact h
 | ok x w =>
  cases x <;> first | exact h | exact k _ _ h | skip
  exact Calls.mono h fun e w' ⟨v,c,b⟩=>⟨v,c,k _ _ b⟩
def bk:Value->Nat
 | .pointer (some a)=>a.block
 | _=>0
def abw (v:Value):Prop:= ∃g,v= .pointer (some ⟨g,0,none⟩)
variable {o:Oper} {ev:Operand->Value}
theorem Gu {T:TypeId} {z:Value} {n b:Nat} {l:List Value} (f:TZ P T z n b) (d:z.cells=l.toArray) (e:o.op= .alloc T):OpT P I w0 o ev [] abw (fun v=>[Ch.blk (bk v) l T]):=by
 intro w C c;have a:(execOp ev o).run P w= .ok (.value (.pointer (some ⟨w.heap.size,0,none⟩))) (w.alloc (.cells l.toArray T)):=by
  simp[execOp,e,Instr.alloc,Sem.run_bind,f.run_zero,Result.andThen_ok];simp[newVar,newRow,d,Result.andThen]
 rw[a];exact ⟨⟨_,rfl⟩,c.alloc l T⟩
theorem VZ {T:TypeId} {x:Operand} {u:Value} {l:List Value} (a:ev x=u) (d:u.cells=l.toArray) (e:o.op= .box T x):OpT P I w0 o ev [] abw (fun v=>[Ch.blk (bk v) l T]):=by
 intro w C c;have b:(execOp ev o).run P w= .ok (.value (.pointer (some ⟨w.heap.size,0,none⟩))) (w.alloc (.cells l.toArray T)):=by
  simp[execOp,e,Instr.box,a,Sem.run_bind];simp[newVar,newRow,d,Result.andThen]
 rw[b];exact ⟨⟨_,rfl⟩,c.alloc l T⟩
def Lds (agg:Bool) (d:List Value) (u:Value):Prop:=if agg then u= .agg d.toArray else d= [u]
theorem Nl {T:TypeId} {agg:Bool} {n b off:Nat} {d:List Value} (c:TI P T agg n) (h:d.length=n) (f:agg=false->n=1) (e:w.rangeAt b off d): ∃u,(Instr.loadAt T (.pointer (some ⟨b,off,none⟩))).run P w= .ok u w/\Lds agg d u:=by
 cases agg with
 | true =>
  have ⟨⟨t,i,g⟩,j⟩:=c;exact ⟨_,run_loadAt_mid w b off T d t e i (by cases t <;> first | rfl | cases g) (by grind),rfl⟩
 | false =>
  obtain ⟨u,rfl⟩:=List.length_eq_one_iff.1 (h.trans (f rfl));refine ⟨u,?_,rfl⟩;have a:=e 0 u rfl;rw[Nat.add_zero] at a;simp[Instr.loadAt,Instr.sureAddr,loadVar,Sem.run_bind,c.run_agg,load,Sem.run,a,Result.andThen]
theorem Ex {T:TypeId} {x:Operand} {agg:Bool} {n b off:Nat} {d:List Value} {rn:List Ch} (h:TI P T agg n) (c:o.op= .load T x) (i:ev x= .pointer (some ⟨b,off,none⟩)) (e:d.length=n) (g:agg=false->n=1) (j: ∀w C,St I w0 w (rn++C)->w.rangeAt b off d):OpT P I w0 o ev rn (Lds agg d) (fun _=>rn):=by
 intro w C a;have ⟨u,k,f⟩:=Nl h e g (j w C a);simp[execOp,c,i,Sem.run_bind,k,Result.andThen_ok];exact ⟨f,a⟩
theorem Nm {g off:Nat} {l d:List Value} {E:TypeId} {C:List Ch} (h:St I w0 w (Ch.blk g l E::C)) (b:(l.drop off).take d.length=d):w.rangeAt g off d:=by
 intro j v a;have c:=h.heap 0 rfl;grind[World.cell?]
theorem Gv {T:TypeId} {x:Operand} {agg:Bool} {n g off:Nat} {l d:List Value} {E:TypeId} {u:Value} (c:TI P T agg n) (b:o.op= .load T x) (f:ev x= .pointer (some ⟨g,off,none⟩)) (m:(agg || n==1)=true) (j:(l.drop off).take n=d) (a:d.length=n) (k:(if agg then Value.agg d.toArray else d.getD 0 undef)=u) :
  OpT P I w0 o ev [Ch.blk g l E] (· =u) (fun _=>[Ch.blk g l E]):=by
 intro w C i;refine (Ex (rn:=[Ch.blk g l E]) c b f a (fun e=>by grind) (fun w C h=>Nm h (by grind)) w C i).imp fun v w hv=>⟨?_,hv.2⟩
 grind[Lds]
theorem zW {T:TypeId} {x:Operand} {agg:Bool} {n g off:Nat} {l d:List Value} {E:TypeId} {b:Nat×Nat} {u:Value} (i:I g=some (.cells l.toArray E b)) (f:TI P T agg n) (c:o.op= .load T x) (k:ev x= .pointer (some ⟨g,off,none⟩)) (s:(agg || n==1)=true) (q:(l.drop off).take n=d) (a:d.length=n) (r:(if agg then Value.agg d.toArray else d.getD 0 undef)=u) :
  OpT P I w0 o ev [] (· =u) (fun _=>[]):=by
 intro w C m;refine (Ex (rn:=[]) f c k a (fun e=>by grind) (fun w C h j v p=>?_) w C m).imp fun v w hv=>⟨?_,hv.2⟩
 ·have t:w.heap[g]? =some (.cells l.toArray E b):=h.2.1 g _ i;grind[World.cell?]
 grind[Lds]
def Fld {α β:Type} (R:Rep α) (off:Nat) (S:Rep β) (f:α->β):Prop:= ∀I c x,R.rd I c x-> ∃d,(c.drop off).take S.size=d/\S.rd I d (f x)
theorem Fld.self {α:Type} {R:Rep α} :Fld R 0 R (fun x=>x):=fun I c x h=>⟨c,by rw[<-R.rd_len h];simp,h⟩
theorem Fld.fst {α β γ:Type} {A:Rep α} {B:Rep β} {S:Rep γ} {off:Nat} {f:α->γ} (h:Fld A off S f):Fld (tf A B) off S (fun x=>f x.1):=by
 rintro I c x ⟨e,k,rfl,a,g⟩;have ⟨d,j,b⟩:=h I e x.1 a;have i:=S.rd_len b;grind[aq,a7,List.drop_append]
theorem Fld.snd {α β γ:Type} {A:Rep α} {B:Rep β} {S:Rep γ} {off:Nat} {f:β->γ} (h:Fld B off S f):Fld (tf A B) (A.size+off) S (fun x=>f x.2):=by
 rintro I c x ⟨j,i,rfl,a,b⟩;have ⟨d,e,g⟩:=h I i x.2 b;refine ⟨d,?_,g⟩;rw[List.drop_append,List.drop_of_length_le (by rw[A.rd_len a];omega),A.rd_len a,Nat.add_sub_cancel_left];exact e
def ptB:Value->Nat
 | .slice (some a) _ _=>a.block
 | _=>0
def ptO:Value->Nat
 | .slice (some a) _ _=>a.off
 | _=>0
def pt (v:Value) (o:Nat):Value:=.pointer (some ⟨ptB v,ptO v+o,none⟩)
def aU {α:Type} (xs:List α) (i:Int):Option α:=if 0<=i then xs[i.toNat]? else none
def inI {α:Type} (xs:List α) (i:Int):Prop:=0<=i/\i.toNat<xs.length
theorem Ey {α:Type} {xs:List α} {i:Int} {x:α} (h:aU xs i=some x):inI xs i:=by
 unfold aU at h;split at h
 ·exact ⟨‹_›,(List.getElem?_eq_some_iff.1 h).1⟩
 grind
theorem wz {α:Type} {xs:List α} {i:Int} {x:α} (h:aU xs i=some x):xs[i.toNat]? =some x:=by
 grind[aU]
def Hd (v:Value) (n:Nat):Prop:= ∃ao cap,v= .slice ao n cap/\(0<n-> ∃b off,ao=some ⟨b,off,none⟩)/\n<=cap
theorem Hd.of_rd {α:Type} {E:TypeId} {R:Rep α} {v:Value} {xs:List α} (h:(ax E R).rd I [v] xs):Hd v xs.length:=by
 have ⟨b,cap,hv,a,h⟩:=h;refine ⟨b,cap,by grind,fun hp=>?_,a.2⟩;grind
theorem Hd.of_own {α:Type} {E:TypeId} {R:Rep α} {v:Value} {xs:List α} {F:List Nat} (h:(ax E R).own I w [v] xs F):Hd v xs.length:=by
 have ⟨c,h⟩:=h;rcases h with ⟨hv,rfl,rfl⟩ | ⟨g,a,cap,cur,K,hv,_,b,_⟩
 ·exact ⟨none,0,by grind,by simp,aF _⟩
 ·exact ⟨_,cap,by grind,fun _=>⟨g,a,rfl⟩,by omega⟩
theorem St.hd {α:Type} {E:TypeId} {R:Rep α} {v:Value} {xs:List α} (h:St I w0 w cs) (i:Nat) (hi:cs[i]? =some (Ch.own (ax E R) [v] xs)):Hd v xs.length/\xs.length<=lim:=by
 have ⟨f,_,F,⟨G,K,e,a,c⟩,b,d⟩:=h.front i hi;exact ⟨Hd.of_own (I:=I) (w:=w) (E:=E) (R:=R) (F:=G) a,a.1⟩
theorem DC {x:Operand} {T E:TypeId} {v:Value} {n:Nat} (h:Hd v n) (a:P.underlying T=some (.slice E)) (c:o.op= .call { callee:=.builtin .len,args:= #[x],argTypes:= #[T] }) (b:ev x=v):OpT P I w0 o ev [] (· = .int .i64 n) (fun _=>[]):=by
 obtain ⟨d,cap,rfl,_⟩:=h;exact xl a c b
theorem tv {α:Type} {x y:Operand} {T E:TypeId} {v:Value} {xs:List α} {i:Int} {n:Nat} {agg:Bool} (h:Hd v xs.length) (e:P.underlying T=some (.slice E)) (g:TI P E agg n) (c:o.op= .indexAddr T x y) (f:ev x=v) (d:ev y= .int .i64 i) (hi:inI xs i):OpT P I w0 o ev [] (· =pt v (i.toNat*n)) (fun _=>[]):=by
 obtain ⟨j,cap,rfl,hp,-⟩:=h;obtain ⟨b,off,rfl⟩:=hp (by have:=hi.2;omega);refine bB fun w=>?_;have a:i<(xs.length:Int):=by have:=hi.2;omega
 simp[execOp,c,f,d,Instr.indexAt,asIntOf,run_underlying e,g.run_size,hi.1,a,Result.andThen,pt,ptB,ptO,Addr.add_mid]
theorem zX {x:Operand} {T:TypeId} {f off n b:Nat} {v:Value} (c:TF P T f off n) (d:o.op= .fieldAddr T x f) (a:ev x=pt v b):OpT P I w0 o ev [] (· =pt v (b+off)) (fun _=>[]):=by
 have:=nr (I:=I) (w0:=w0) c d a
 rw[Nat.add_assoc] at this;exact this
theorem Iq {α β:Type} {E T:TypeId} {R:Rep α} {S:Rep β} {off n k:Nat} {f:α->β} {x:Operand} {v:Value} {xs:List α} {a:α} {i:Int} {agg:Bool} (D:(ax E R).rd I [v] xs) (A:aU xs i=some a) (J:Fld R off S f) (y:TI P T agg n) (p:S.size=n) (M:(agg || n==1)=true) (q:o.op= .load T x) (B:ev x=pt v (i.toNat*k+off)) (L:R.size=k) :
  OpT P I w0 o ev [] (fun u=> ∃d,S.rd I d (f a)/\Lds agg d u) (fun _=>[]):=by
 have ⟨O,cap,hv,N,h⟩:=D;have s:=wz A;rcases h with rfl | ⟨b,F,g,t,r,rfl,z,l⟩
 ·grind
 have ⟨c,U,V,G⟩:=l i.toNat a s;have ⟨d,Q,m⟩:=J I c a G;intro w C H;refine (Ex (rn:=[]) y q B ((S.rd_len m).trans p) (fun e=>by grind) (fun w C h j u K=>?_) w C H).imp fun u w hv=>⟨⟨d,m,hv.1⟩,hv.2⟩
 have W:w.heap[b]? =some (.cells g t r):=h.2.1 b _ z;grind[List.getElem?_eq_some_iff,ptB,ptO,World.cell?]
def Rep.Sh {α:Type} (R:Rep α):Prop:= ∀ {I w cs a F},R.own I w cs a F->F= [] /\R.rd I cs a
theorem Ez {α:Type} {enc:α->Value} {h1: ∀a,(enc a).oneCell'=true} :(me α enc h1).Sh:=fun h=>h
theorem V0 {α β:Type} {R:Rep α} {S:Rep β} (h:R.Sh) (k:S.Sh):(tf R S).Sh:=by
 rintro I w cs a F ⟨c,d,G,K,rfl,rfl,g,b⟩;have ⟨i,f⟩:=h g;have ⟨j,e⟩:=k b;exact ⟨by grind,c,d,rfl,f,e⟩
theorem YX {α:Type} {R:Rep α} :(yP R).Sh:=fun h=>h
theorem V1:Io.Sh:=Ez
theorem YY:Nb.Sh:=Ez
theorem OwnEls.sh {α:Type} {R:Rep α} (a:R.Sh): ∀ {xs:List α} {cur F},OwnEls R I w cur xs F->F= []
 | [],_,_,h=>h
 | x::xs,cur,F,⟨c,rest,G,K,h1,h2,h3,h4,h5⟩=>by rw[h3,(a h4).1,h5.sh a];rfl
def qy (w:World) (g:Nat):Nat->List Value->World
 | _,[] =>w
 | o,v::vs=>qy (w.setCell ⟨g,o,none⟩ v) g (o+1) vs
theorem tw {g:Nat} : ∀(vs:List Value) (w:World) (o i:Nat),(∀j,j<vs.length->(w.cell? ⟨g,o+i+j,none⟩).isSome=true)->(∀j,w.frozen? ⟨g,o+j,none⟩=false)->(∀v,v∈vs->v.oneCell'=true)->
  (storeCells ⟨g,o,none⟩ vs i).run P w= .ok () (qy w g (o+i) vs)
 | [],w,o,i,_,_,_=>by rfl
 | v::vs,w,o,i,hc,hf,h1=>by
  have d:=tw vs (w.setCell ⟨g,o+i,none⟩ v) o (i+1) (fun j c=>by
   have:=hc (j+1) (by grind)
   rw[Option.isSome_iff_exists] at this⊢;have ⟨u,b⟩:=this;simp[World.cell?,World.setCell,Array.getElem?_modify] at b⊢;cases e:w.heap[g]? with
   | none=>grind
   | some ob=>grind) (fun j=>by
   simp_all) (fun u b=>h1 u (by grind))
  have hv:=h1 v (by simp);simp[storeCells,Sem.run_bind,Addr.add_mid,store];have a:(Sem.store .plain ⟨g,o+i,none⟩ v (.pure ())).run P w= .ok () (w.setCell ⟨g,o+i,none⟩ v):=by
   cases v <;> first | grind[Sem.run] | (simp[Value.oneCell'] at hv)
  grind[Result.andThen_ok,qy]
theorem JW {T:TypeId} {agg:Bool} {n g o:Nat} {u:Value} {l:List Value} (a:TI P T agg n) (b:u.cells=l.toArray) (e:l.length=n) (d: ∀j,j<n->(w.cell? ⟨g,o+j,none⟩).isSome=true) (c: ∀j,w.frozen? ⟨g,o+j,none⟩=false) (h1: ∀v,v∈l->v.oneCell'=true) :
  (Instr.storeAt T (.pointer (some ⟨g,o,none⟩)) u).run P w= .ok () (qy w g o l):=by
 have:=tw (P:=P) (g:=g) l w o 0 (by grind) c h1
 simp[Instr.storeAt,Instr.sureAddr,storeVar,Sem.run_bind,Sem.run_pure,Result.andThen_ok,a.run_size,b];grind
def spl (l:List Value):Nat->List Value->List Value
 | _,[] =>l
 | o,v::vs=>spl (l.set o v) (o+1) vs
theorem yR: ∀(vs l:List Value) (o:Nat),(spl l o vs).length=l.length
 | [],l,o=>rfl
 | v::vs,l,o=>by rw[spl,yR vs,List.length_set]
theorem St.sets {g:Nat} {E:TypeId} : ∀(vs l:List Value) (o:Nat) {w:World},St I w0 w (Ch.blk g l E::cs)->St I w0 (qy w g o vs) (Ch.blk g (spl l o vs) E::cs)
 | [],l,o,w,h=>h
 | v::vs,l,o,w,h=>St.sets vs (l.set o v) (o+1) (h.set o v)
theorem EA {T:TypeId} {x y:Operand} {agg:Bool} {n g off:Nat} {l d:List Value} {E:TypeId} {u:Value} (h:TI P T agg n) (b:o.op= .store T x y) (k:ev x= .pointer (some ⟨g,off,none⟩)) (e:ev y=u) (f:u.cells=d.toArray) (c:d.length=n) (h1:d.all (·.oneCell')=true) (q:off+n<=l.length) :
  OpT P I w0 o ev [Ch.blk g l E] (fun _=>True) (fun _=>[Ch.blk g (spl l off d) E]):=by
 intro w C a;have i:=a.heap 0 rfl;have m:=JW (P:=P) (w:=w) h (g:=g) (o:=off) f c (fun j p=>by
  grind[World.cell?]) (fun j=>by simp[World.frozen?,i]) (fun v hv=>List.all_eq_true.1 h1 v hv)
 simp only[execOp,b,k,e,Sem.run_bind,m,Result.andThen_ok];exact ⟨trivial,St.sets d l off a⟩
end
section
variable {P:Program} {I:Hp} {w0 w w':World} {cs:List Ch} {o:Oper} {ev:Operand->Value} {α:Type} {R:Rep α} {E:TypeId}
theorem Nn: ∀(l:List Value) (k:Nat) (cells:Array Value),k+l.length<=cells.size->((l.toArray.zipIdx).foldl (fun cs (c,j)=>cs.setIfInBounds (k+j) c) cells).toList=cells.toList.take k++l++cells.toList.drop (k+l.length):=by
 intro l k cells h;have key: ∀(l:List Value) (i:Nat) (cells:Array Value),k+i+l.length<=cells.size->((l.zipIdx i).foldl (fun cs (p:Value×Nat)=>cs.setIfInBounds (k+p.2) p.1) cells).toList=cells.toList.take (k+i)++l++cells.toList.drop (k+i+l.length):=by
  intro l;induction l with
  | nil=>simp_all
  | cons x l ih =>
   intro i cells h;rw[ay] at h;rw[List.zipIdx_cons,List.foldl_cons,ih (i+1) _ (by grind),Array.toList_setIfInBounds];have d:cells.toList.length=cells.size:=Array.length_toList;have a:(cells.toList.set (k+i) x).take (k+i+1)=cells.toList.take (k+i)++ [x]:=by
    rw[List.take_add_one,List.take_set_of_le (aF _),List.getElem?_set_self (by omega)];rfl
   have b:(cells.toList.set (k+i) x).drop (k+(i+1)+l.length)=cells.toList.drop (k+(i+1)+l.length):=List.drop_set_of_lt (by omega);rw[b,show k+(i+1)=k+i+1 from rfl,a,ay,show k+i+(l.length+1)=k+i+1+l.length from by omega];simp
 grind
theorem Gw (size:Nat): ∀(us:List (Value×List Value)) (k:Nat) (cells:Array Value),(∀u∈us,u.1.cells=u.2.toArray/\u.2.length=size)->(k+us.length)*size<=cells.size->
  ∃c,Instr.fill (fun i=>some (i*size,size)) cells ((us.zipIdx k).map fun p=>(p.2,p.1.1))=some c/\c.toList=cells.toList.take (k*size)++us.flatMap (·.2)++cells.toList.drop ((k+us.length)*size)
 | [],k,cells,_,_=>⟨cells,rfl,by simp⟩
 | (u,l)::us,k,cells,h,hs=>by
  have ⟨f,q⟩:=h (u,l) (by simp);simp only at f q;have e:(k+1+us.length)*size<=cells.size:=by rw[show k+1+us.length=k+(us.length+1) from by omega];exact hs
  have d:(k+1)*size<=cells.size:=Nat.le_trans (Nat.mul_le_mul_right _ (by omega)) e;rw[Nat.add_mul,Nat.one_mul] at d;have j:=Nn l (k*size) cells (by omega);have b:((l.toArray.zipIdx).foldl (fun cs (p:Value×Nat)=>cs.setIfInBounds (k*size+p.2) p.1) cells).size=cells.size:=by
   rw[<-Array.length_toList,j];simp[az,aq,a7,Array.length_toList];omega
  obtain ⟨c,s,r⟩:=Gw size us (k+1) _ (fun u f=>h u (by grind)) (by rw[b];exact e);refine ⟨c,?_,?_⟩
  ·grind[List.zipIdx_cons,Instr.fill]
  ·rw[r,j];have n:(k+1)*size=k*size+l.length:=by grind
   have g:(k+1+us.length)*size=k*size+l.length+us.length*size:=by grind
   have m:(k+(us.length+1))*size=k*size+l.length+us.length*size:=by rw[<-g];congr 1;omega
   have a:(cells.toList.take (k*size)).length=k*size:=by rw[aq,Array.length_toList];omega
   rw[n,g,ay,m,List.flatMap_cons];rw[aC,aC,aC];rw[List.take_append,a,List.take_of_length_le (by omega),Nat.add_sub_cancel_left,List.take_left];rw[List.drop_append,a,List.drop_of_length_le (by omega),List.drop_append,show k*size+l.length+us.length*size - k*size - l.length=us.length*size from by omega,List.drop_of_length_le (by omega),List.drop_drop];simp
theorem Rq {T:TypeId} (f:P.underlying T=some (.slice E)) {agg:Bool} {n:Nat} (i:TI P E agg n) (b:o.op= .buildSlice T 0 #[]):OpT P I w0 o ev [] (fun _=>True) (fun v=>[Ch.own (ax E R) [v] []]):=by
 intro w C j;have a:(execOp ev o).run P w= .ok (.value (.slice (some ⟨w.heap.size,0,none⟩) 0 0)) (w.alloc (.cells #[] E)):=by
  simp[execOp,b,Instr.buildSlice,run_underlying f,i.run_size,Instr.fill,newRow,Result.andThen];grind
 rw[a];refine ⟨trivial,?_⟩;obtain ⟨d,g,F,⟨G,K,rfl,⟨rfl,h⟩,a⟩,e,c⟩:=j.alloc [] E;exact ⟨d,g,[w.heap.size] ++K,⟨[w.heap.size],K,rfl,⟨by simp,.inr ⟨w.heap.size,0,0,#[],[],rfl,h,by simp,by simp,by simp,rfl,rfl⟩⟩,a⟩,e,c⟩
def Gx (R:Rep α):List (List Value)->List α->List Ch
 | c::ls,x::xs=>Ch.own R c x::Gx R ls xs
 | _,_=>[]
theorem JX: ∀ {ls:List (List Value)} {xs:List α} {F},ls.length=xs.length->Sep I (Gx R ls xs) w F->OwnEls R I w (ls.flatMap (fun l=>l)) xs F
 | [],[],F,_,h=>h
 | l::ls,x::xs,F,he,⟨G,K,h1,h2,h3⟩=>⟨l,ls.flatMap (fun l=>l),G,K,by simp,R.own_len h2,h1,h2,JX (by grind) h3⟩
 | [],_::_,F,he,h=>by grind
 | _::_,[],F,he,h=>by grind
theorem JY {n:Nat} : ∀us:List (Value×List Value),(∀u∈us,u.2.length=n)->(us.flatMap (·.2)).length=us.length*n
 | [],_=>by simp
 | u::us,h=>by rw[List.flatMap_cons,az,ay,Nat.add_mul,h u (by simp),JY us fun v hv=>h v (by grind)];omega
theorem No {T:TypeId} {z:Value} {n b m:Nat} {parts:Array (Nat×Operand)} (us:List (Value×List Value)) (xs:List α) (A:P.underlying T=some (.slice E)) (L:TZ P E z n b) (d:0<n) (W:R.size=n) (t:0<m) (q:m*n<=16777216) (j:o.op= .buildSlice T m parts) (hp:parts.toList.map (fun p=>(p.1,ev p.2))=(us.zipIdx 0).map fun p=>(p.2,p.1.1)) (Q:us.length=m) (H:xs.length=m)
  (l: ∀u∈us,u.1.cells=u.2.toArray/\u.2.length=n):OpT P I w0 o ev (Gx R (us.map (·.2)) xs) (fun _=>True) (fun v=>[Ch.own (ax E R) [v] xs]):=by
 intro w C M;have ⟨r,f,s,X,O⟩:=info_parts L;have i:((Array.range (m*n)).map (z.cells[· % z.cells.size]!)).size=m*n:=by simp
 have ⟨c,S,U⟩:=Gw n us 0 ((Array.range (m*n)).map (z.cells[· % z.cells.size]!)) l (by grind);have N:=Nat.mul_pos t d;have e:(execOp ev o).run P w= .ok (.value (.slice (some ⟨w.heap.size,0,none⟩) m m)) (w.alloc (.cells c E)):=by
  simp[execOp,j,Sem.run_bind];rw[run_buildSlice w T E m _ c r z A f s (by grind) (by grind) (by simp_all)]
  rfl
 rw[e];refine ⟨trivial,?_⟩;have J:c=(us.flatMap (·.2)).toArray:=by grind
 rw[J];obtain ⟨g,B,F,⟨G,K,rfl,⟨rfl,D⟩,e⟩,V,k⟩:=M.alloc (us.flatMap (·.2)) E;obtain ⟨a,h,rfl,x,y⟩:=e.split;refine ⟨g,B,(w.heap.size::a)++h,⟨w.heap.size::a,h,rfl,⟨by unfold lim;have:m<=m*n:=Nat.le_mul_of_pos_right _ d;omega,.inr ⟨w.heap.size,0,m,_,a,by rw[H],D,by omega,?_,?_,rfl,?_⟩⟩,y⟩,by grind,fun b g=>k b (by grind)⟩
 ·unfold maxLen;have:m<=m*n:=Nat.le_mul_of_pos_right _ d;omega
 ·grind[JY]
 ·have:=JX (R:=R) (I:=I) (w:=w.alloc (.cells (us.flatMap (·.2)).toArray E)) (ls:=us.map (·.2)) (xs:=xs) (by grind) x
  grind[List.flatMap_map]
theorem fF {t ty e:TypeId} {i:TypeInfo} (f:P.underlying t=some (.slice e)) (hi:P.info? e=some i) {ao:Option Addr} {n c:Nat} (b:n<=c) {a:Option Addr} {d:Nat} :(Builtin.append_ #[t,t] ty #[.slice ao n c,.slice a 0 d]).run P w= .ok (.slice ao n c) w:=by
 have g:(Builtin.firstCells i.size 0 (.slice a 0 d)).run P w= .ok #[] w:=by
  cases a <;> simp[Builtin.firstCells,loadCells,loadCellsFrom]
 simp[Builtin.append_,run_underlying f,sizeOf,typeInfo,hi,Builtin.lenOf,g,b,Result.andThen];cases ao <;> simp[storeCells]
theorem YZ {a:Array Value} {off:Nat} : ∀ {xs:List α},(∀i x,xs[i]? =some x-> ∃c:List Value,c.length=R.size/\(∀j,j<R.size->a.toList[off+i*R.size+j]? =c[j]?)/\R.rd I c x)->
  ∃news:List Value,news.length=xs.length*R.size/\(∀j u,news[j]? =some u->a.toList[off+j]? =some u)/\(∀u∈news,u.oneCell'=true)/\OwnEls (yP R) I w news xs []:=by
 intro xs;induction xs generalizing off with
 | nil=>intro _;exact ⟨[],by simp,by simp,by simp,rfl⟩
 | cons x xs ih =>
  intro h;have ⟨c,d,g,b⟩:=h 0 x rfl;have ⟨news,n,l,p,e⟩:=ih (off:=off+R.size) fun i y m=>by
   have ⟨c,d,g,b⟩:=h (i+1) y (by grind);grind
  refine ⟨c++news,by grind,fun j u k=>?_,fun u f=>?_,⟨c,news,[],[],rfl,d,rfl,⟨rfl,b⟩,e⟩⟩
  ·grind
  ·rcases aG f with h | h
   ·exact R.rd_one b u h
   grind
def OffRow (w:World) (E:TypeId) (n:Nat) (v:Value) (len:Nat) (cells:List Value):Prop:=cells.length=len*n/\((v= .slice none 0 0/\len=0)\/ ∃g ofs cap cur,v= .slice (some ⟨g,ofs,none⟩) len cap/\w.heap[g]? =some (.cells cur E (0,0))/\len<=cap/\cap<=maxLen/\ofs+cap*n<=cur.size/\(cur.toList.drop ofs).take (len*n)=cells)
theorem OffRow.of_owns {b n len:Nat} {v:Value} {cells:List Value} (h:w.ownsRow b E n v len cells):OffRow w E n v len cells:=
 ⟨h.1,h.2.imp (fun h=>h) fun ⟨g,cap,cur,e,_,f,d,c,i,a⟩=>⟨g,0,cap,cur,e,f,d,c,by omega,a⟩⟩
theorem qz (g:Nat): ∀(d:List Value) (o:Nat) (w:World),(w.setCells g o d).os=w.os/\(w.setCells g o d).tape=w.tape/\(w.setCells g o d).output=w.output/\(w.setCells g o d).heap.size=w.heap.size/\ ∀b,b≠g->(w.setCells g o d).heap[b]? =w.heap[b]?
 | [],_,_=>⟨rfl,rfl,rfl,rfl,fun _ _=>rfl⟩
 | v::d,o,w=>by
  have ⟨h,f,c,i,e⟩:=qz g d (o+1) (w.setCell ⟨g,o,none⟩ v);exact ⟨h,f,c,i.trans (by simp_all),fun b a=>(e b a).trans (Below.heap_setCell _ _ _ _ a)⟩
theorem tx {g:Nat} {a:Nat×Nat} : ∀(d:List Value) (o:Nat) (w:World) (cur:Array Value),o+d.length<=cur.size->w.heap[g]? =some (.cells cur E a)->(w.setCells g o d).heap[g]? =some (.cells (cur.toList.take o++d++cur.toList.drop (o+d.length)).toArray E a)
 | [],o,w,cur,_,h=>by simpa [World.setCells] using h
 | v::d,o,w,cur,hs,h=>by
  rw[ay] at hs
  have:=tx d (o+1) (w.setCell ⟨g,o,none⟩ v) (cur.setIfInBounds o v) (by grind) (gS h)
  rw[World.setCells,this,Array.toList_setIfInBounds];have b:cur.toList.length=cur.size:=Array.length_toList;have c:(cur.toList.set o v).take (o+1)=cur.toList.take o++ [v]:=by
   rw[List.take_add_one,List.take_set_of_le (aF _),List.getElem?_set_self (by omega)];rfl
  grind[List.drop_set_of_lt,ay]
theorem C8 {t ty:TypeId} {z:Value} {n b:Nat} {i:TypeInfo} (K:P.underlying t=some (.slice E)) (hi:P.info? E=some i) (Q:i.zero=some z) (l:i.size=n) (y:i.bytes=b) (F:z.cells.size=n) (O:0<n)
  {v:Value} {len:Nat} {cells:List Value} (D:OffRow w E n v len cells) (a:Addr) (m c:Nat) (news:List Value) (S:news.length=m*n) (p: ∀j u,news[j]? =some u->w.cell? (a.add j)=some u) (r: ∀u∈news,u.oneCell'=true) (B:len+m<=maxLen) (T:(len+m)*b<=140737488355328) :
  ∃s w',(Builtin.append_ #[t,t] ty #[v,.slice (some a) m c]).run P w= .ok s w'/\OffRow w' E n s (len+m) (cells++news)/\w.grownBy w' v.ownBlock/\(s.ownBlock=v.ownBlock\/ ∃G,s.ownBlock=some G/\w.heap.size<=G):=by
 have ⟨M,h⟩:=D;have C:(cells++news).length=(len+m)*n:=by grind
 rcases h with ⟨rfl,rfl⟩ | ⟨g,q,cap,cur,rfl,N,h3,W,h5,h6⟩
 ·obtain rfl:cells= []:=List.eq_nil_of_length_eq_zero (by omega);obtain ⟨s,w',d,H,x,-,V⟩:=run_append_own_at (P:=P) (w:=w) 0 t ty E i z n b K hi Q l y F O (.slice none 0 0) 0 [] (World.ownsRow_nil w _ E n) a m c news S p r B T (by omega);exact ⟨s,w',d,.of_owns H,x,V.imp (fun h=>h) fun h=>⟨_,h,aF _⟩⟩
 ·by_cases f:len+m<=cap
  ·have A:q+len*n+news.length<=cur.size:=by
    have:(len+m)*n<=cap*n:=Nat.mul_le_mul_right _ f
    rw[Nat.add_mul] at this;omega
   have d:=run_append_room_cells (P:=P) w t ty E i K hi g q len cap a m c news (by grind) p r f (fun j U=>by
    simp[World.cell?,N,Option.isSome_none,Bool.false_eq_true,ite_false];grind) (fun j _=>by simp[World.frozen?,N])
   rw[l] at d;have ⟨o1,X,Z,o4,Y⟩:=qz g news (q+len*n) w;refine ⟨_,_,d,⟨C,.inr ⟨g,q,cap,_,rfl,tx news _ w cur A N,f,W,?_,?_⟩⟩,⟨o1,X,Z,by omega,fun k _ J=>Y k fun e=>J (by rw[e];rfl)⟩,.inl rfl⟩
   ·grind
   grind
  ·have ⟨s,w',d,H,x⟩:=run_append_arg_grows (P:=P) w t ty E i z n b K hi Q l y F O ⟨g,q,none⟩ len cap cells M (fun j u U=>by
    grind[Addr.add_mid,World.cell?]) a m c news S p (by omega) B T
   refine ⟨s,w',d,.of_owns H,⟨x.os,x.tape,x.output,x.size,fun k J _=>x.block k J (by simp)⟩,.inr ?_⟩;rcases H.2 with ⟨_,h0⟩ | ⟨G,cp,cu,rfl,L,-⟩
   ·omega
   ·exact ⟨G,rfl,L⟩
theorem St.append_cells {t ty:TypeId} {z:Value} {n b:Nat} (ht:P.underlying t=some (.slice E)) (hE:TZ P E z n b) (hzs:z.cells.size=n) (hn:0<n) (hR:R.size=n)
  {v:Value} {xs ys:List α} {news:List Value} {K2:List Nat} {a:Addr} {cap:Nat} {C:List Ch} (hs:St I w0 w (Ch.own (ax E R) [v] xs::C))
  (L: ∃G U,(∃F,(ax E R).own I w [v] xs G/\Sep I C w F/\U=K2++F/\(G++U).Nodup/\ ∀b,b∈G++U->I b=none)) (l:OwnEls R I w news ys K2)
  (s: ∀j u,news[j]? =some u->w.cell? (a.add j)=some u) (S: ∀u∈news,u.oneCell'=true) (hl:news.length=ys.length*n) (c:(xs.length+ys.length)*b<=140737488355328) (hb1:1<=b) :
  ∃X w',(Builtin.append_ #[t,t] ty #[v,.slice (some a) ys.length cap]).run P w= .ok X w'/\St I w0 w' (Ch.own (ax E R) [X] (xs++ys)::C):=by
 have ⟨i,hi,hz,x,Z⟩:=info_parts hE;obtain ⟨G,U,F,⟨hlx,Q⟩,hC,rfl,hnd,hI⟩:=L;have hlen:=Nat.le_trans (Nat.le_mul_of_pos_right _ hb1) c;have old: ∃h cells,OffRow w E n v xs.length cells/\OwnEls R I w cells xs h/\cells.length=xs.length*n /\
   ((G=h/\v.ownBlock=none)\/ ∃g,G=g::h/\v.ownBlock=some g/\g<w.heap.size):=by
  rcases Q with ⟨hv,rfl,rfl⟩ | ⟨g,k,cp,cur,h,hv,hg,h3,h4,h5,rfl,h6⟩
  ·obtain rfl:v= .slice none 0 0:=by grind
   exact ⟨[],[],.of_owns (World.ownsRow_nil w 0 E n),rfl,by simp,.inl ⟨rfl,rfl⟩⟩
  ·obtain rfl:v= .slice (some ⟨g,k,none⟩) xs.length cp:=by grind
   have q:=(Array.getElem?_eq_some_iff.1 hg).1;rw[hR] at h5;have y:xs.length*n<=cur.size - k:=by have:=Nat.mul_le_mul_right n h3;omega
   have K:((cur.toList.drop k).take (xs.length*n)).length=xs.length*n:=by rw[aq,a7,Array.length_toList];exact Nat.min_eq_left y
   exact ⟨h,(cur.toList.drop k).take (xs.length*n),⟨K,.inr ⟨g,k,cp,cur,rfl,hg,h3,h4,h5,rfl⟩⟩,h6.rest (by grind),K,.inr ⟨g,rfl,rfl,q⟩⟩
 have ⟨h,cells,N,p,Y,W⟩:=old;have ⟨X,w',J,r,d,hat⟩:=C8 (P:=P) (w:=w) (ty:=ty) ht hi hz x Z hzs hn N a ys.length cap news hl s S
  (by unfold maxLen;omega) c
 refine ⟨X,w',J,?_⟩;obtain ⟨⟨b1,b2,b3,b4⟩,D,-⟩:=hs;have q:=fun b o c=>(Array.getElem?_eq_some_iff.1 (D b o c)).1;have hK1:=p.live;have hK2:=l.live;have hF:=hC.live;have m: ∀b,b∈h\/b∈K2\/b∈F->some b≠v.ownBlock:=by
  rcases W with ⟨rfl,hv⟩ | ⟨g,rfl,hv,_⟩
  ·grind
  ·grind
 have B: ∀b o,I b=some o->some b≠v.ownBlock:=by
  intro b o c e;rcases W with ⟨rfl,hv⟩ | ⟨g,rfl,hv,_⟩
  ·grind
  ·grind
 have f:=fun b h1 h2=>d.block b h1 h2;have hnd':(h++(K2++F)).Nodup:=by
  rcases W with ⟨rfl,_⟩ | ⟨g,rfl,_,_⟩
  ·omega
  ·grind
 have hI': ∀b,b∈h++(K2++F)->I b=none:=by
  intro b c;rcases W with ⟨rfl,_⟩ | ⟨g,rfl,_,_⟩
  ·grind
  ·grind
 have H:=p.stay fun b c=>f b (hK1 b c) (m b (.inl c));have T:=l.stay fun b c=>f b (hK2 b c) (m b (.inr (.inl c)));have hj:=H.join (by grind) T;have A:=hC.stay fun b c=>f b (hF b c) (m b (.inr (.inr c)));have ⟨hr1,hr2⟩:=r;refine ⟨⟨d.os.trans b1,d.tape.trans b2,d.output.trans b3,Nat.le_trans b4 d.size⟩,fun b o c=>?_,?_⟩
 ·show w'.heap[b]? =some o;rw[f b (q b o c) (B b o c)];exact D b o c
 rcases hr2 with ⟨rfl,h0⟩ | ⟨V,M,cp',O,rfl,hg2,hg3,hg4,hg5,hg6⟩
 ·have hx0:xs= []:=List.eq_nil_of_length_eq_zero (by omega);have hy0:ys= []:=List.eq_nil_of_length_eq_zero (by omega);subst hx0;subst hy0;have e1:=p;have e2:=l;subst e1;exact ⟨F,⟨[],F,rfl,⟨by simp,.inl ⟨rfl,rfl,rfl⟩⟩,A⟩,by grind,fun b c=>hI' b (by grind)⟩
 ·have hnew: ∀b,b∈h++(K2++F)->b≠V:=by
   intro b c e;subst e;have hb':b∈h\/b∈K2\/b∈F:=by simpa using c
   rcases hat with e | ⟨g1,e,hge⟩
   ·exact m b hb' (by rw[<-e];rfl)
   ·grind[Value.ownBlock]
  refine ⟨(V::(h++K2))++F,⟨V::(h++K2),F,rfl,⟨by grind[az,lim],.inr ⟨V,M,cp',O,h++K2,by grind,hg2,by grind,hg4,by grind,rfl,hj.rest ?_⟩⟩,A⟩,?_,fun b c=>?_⟩
  ·grind
  ·grind
  ·rw[List.cons_append,aC] at c;rcases aE c with rfl | c
   ·cases hIb:I b with
    | none=>rfl
    | some o =>
     grind[absurd,Value.ownBlock]
   grind
def Cpy (S R:Rep α):Prop:= ∀ {I w c a},S.rd I c a->R.own I w c a []
theorem xm {enc:α->Value} {h1: ∀a,(enc a).oneCell'=true} :Cpy (me α enc h1) (me α enc h1):=fun h=>⟨rfl,h⟩
theorem JZ:Cpy Io Io:=xm
theorem Np:Cpy Nb Nb:=xm
theorem Rr {R:Rep α} :Cpy (yP R) (yP R):=fun h=>⟨rfl,h⟩
theorem Rs {α β:Type} {A b:Rep α} {B f:Rep β} (h:Cpy A b) (k:Cpy B f):Cpy (tf A B) (tf b f):=by
 rintro I w c a ⟨d,e,rfl,i,g⟩;exact ⟨d,e,[],[],rfl,rfl,h i,k g⟩
theorem St.free {R:Rep α} {c:List Value} {x:α} (h:St I w0 w cs) (a:R.own I w c x []):St I w0 w (Ch.own R c x::cs):=by
 have ⟨d,g,F,f,b,e⟩:=h;exact ⟨d,g,F,⟨[],F,rfl,a,f⟩,b,e⟩
theorem St.frees {R:Rep α} : ∀ {ls:List (List Value)} {xs:List α},St I w0 w cs->(∀p,p∈ls.zip xs->R.own I w p.1 p.2 [])->St I w0 w (Gx R ls xs++cs)
 | [],_,h,_=>h
 | _::_,[],h,_=>h
 | c::ls,x::xs,h,hx=>(St.frees h fun p hp=>hx p (by simp[hp])).free (hx (c,x) (by simp))
theorem Ir {S:Rep α} {T:TypeId} {z:Value} {n b m:Nat} {parts:Array (Nat×Operand)} (us:List (Value×List Value)) (xs:List α) (j:Cpy S R) (k: ∀p,p∈(us.map (·.2)).zip xs->S.rd I p.1 p.2) (h:P.underlying T=some (.slice E)) (q:TZ P E z n b) (e:0<n) (l:R.size=n) (g:0<m) (a:m*n<=16777216) (c:o.op= .buildSlice T m parts) (hp:parts.toList.map (fun p=>(p.1,ev p.2))=(us.zipIdx 0).map fun p=>(p.2,p.1.1)) (f:us.length=m) (i:xs.length=m)
  (d: ∀u∈us,u.1.cells=u.2.toArray/\u.2.length=n):OpT P I w0 o ev [] (fun _=>True) (fun v=>[Ch.own (ax E R) [v] xs]):=by
 intro w C r;exact No (R:=R) us xs h q e l g a c hp f i d w C (St.frees r fun p hp=>j (k p hp))
theorem eN {T:TypeId} {x y:Operand} {s u v:Value} (c:o.op= .call { callee:=.builtin .append,args:= #[x,y],argTypes:= #[T,T] }) (a:ev x=s) (d:ev y=u) (b:(Builtin.append_ #[T,T] o.type #[s,u]).run P w= .ok v w'):(execOp ev o).run P w= .ok (.value v) w':=by
 simp[execOp,c,resolve,invoke,builtin,Sem.run_bind,Sem.run_pure,Result.andThen_ok,List.map_toArray,List.map_cons,List.map_nil,a,d,b]
theorem LP {T:TypeId} {z:Value} {n b:Nat} {x y:Operand} {s u:Value} {xs ys:List α} (hT:P.underlying T=some (.slice E)) (Q:TZ P E z n b) (J:z.cells.size=n) (hn:0<n) (W:R.size=n) (L:1<=b) (S:o.op= .call { callee:=.builtin .append,args:= #[x,y],argTypes:= #[T,T] }) (O:ev x=s) (U:ev y=u) (N:(xs.length+ys.length)*b<=140737488355328) :
  OpT P I w0 o ev [Ch.own (ax E R) [s] xs,Ch.own (ax E R) [u] ys] (fun _=>True) (fun v=>[Ch.own (ax E R) [v] (xs++ys)]):=by
 intro w C X;have A:=X;obtain ⟨hb0,hi,F,⟨G,K,rfl,V,K1,K2,rfl,⟨hly,e2⟩,e3⟩,t,hI⟩:=X;have B:St I w0 w (Ch.own (ax E R) [s] xs::C):=(A.perm (List.Perm.swap _ _ _)).tail;rcases e2 with ⟨hv,rfl,rfl⟩ | ⟨g,d,cap,cur,r,hv,k1,k2,k3,k4,rfl,Z⟩
 ·obtain rfl:u= .slice none 0 0:=by grind
  have ⟨i,hi',hz,H,Y⟩:=info_parts Q;have e:(Builtin.append_ #[T,T] o.type #[s,.slice none 0 0]).run P w= .ok s w:=by
   rcases V.2 with ⟨D,_⟩ | ⟨g,d,cap,cur,K,D,_,h3,_⟩
   ·simp_all[fF,aF]
   ·grind[fF]
  rw[eN S O U e];refine ⟨trivial,?_⟩;grind
 ·obtain rfl:u= .slice (some ⟨g,d,none⟩) ys.length cap:=by grind
  have hln:cap*n<=(cur.toList.drop d).length:=by rw[a7,Array.length_toList];rw[W] at k4;omega
  have M:ys.length*n<=cap*n:=Nat.mul_le_mul_right _ k2;have k:((cur.toList.drop d).take (ys.length*n)).length=ys.length*n:=by rw[aq];omega
  have m:OwnEls R I w ((cur.toList.drop d).take (ys.length*n)) ys r:=Z.rest (by grind);have p: ∀v∈(cur.toList.drop d).take (ys.length*n),v.oneCell'=true:=by
   have: ∀ {ys:List α} {l:List Value} {F},OwnEls R I w l ys F-> ∀v∈l.take (ys.length*R.size),v.oneCell'=true:=by
    intro ys;induction ys with
    | nil=>simp_all
    | cons y ys ih =>
     rintro l F ⟨c,rest,G,K,rfl,h2,h3,h4,h5⟩ v hv;rw[ay,Nat.add_mul,Nat.one_mul,Nat.add_comm,List.take_append,List.take_of_length_le (by omega),h2,Nat.add_sub_cancel_left] at hv;rcases aG hv with h | h
     ·exact R.own_one h4 v h
     grind
   grind
  have f:(G++(r++K2)).Nodup:=by
   exact t.sublist (List.Sublist.append_left (List.sublist_cons_self _ _) _)
  have ⟨v',w',e,q⟩:=St.append_cells (ty:=o.type) hT Q J hn W (a:=⟨g,d,none⟩) (cap:=cap) (K2:=r) (ys:=ys) (news:=(cur.toList.drop d).take (ys.length*n)) B
   ⟨G,r++K2,K2,V,e3,rfl,f,fun b N=>hI b (by grind)⟩
   m (fun j u hj=>by
    grind[Addr.add_mid,World.cell?]) p k N L
  rw[eN S O U e];exact ⟨trivial,q⟩
theorem C9 {S:Rep α} {E' T:TypeId} {z:Value} {n b:Nat} {x y:Operand} {s u:Value} {xs ys:List α} (hc:Cpy S R) (A:S.size=n) (hr:(ax E' S).rd I [u] ys) (hT:P.underlying T=some (.slice E)) (N:TZ P E z n b) (D:z.cells.size=n) (hn:0<n) (V:R.size=n) (H:1<=b) (O:o.op= .call { callee:=.builtin .append,args:= #[x,y],argTypes:= #[T,T] }) (M:ev x=s) (Q:ev y=u) (Y:(xs.length+ys.length)*b<=140737488355328) :
  OpT P I w0 o ev [Ch.own (ax E R) [s] xs] (fun _=>True) (fun v=>[Ch.own (ax E R) [v] (xs++ys)]):=by
 intro w C W;have k:=W;obtain ⟨hb0,hi,F,⟨G,K,rfl,U,e3⟩,f,hI⟩:=W;have ⟨J,cap,hv,hl,h⟩:=hr;obtain rfl:u= .slice J ys.length cap:=by grind
 rcases h with rfl | ⟨g,off,q,t,fr,rfl,Z,m⟩
 ·have ⟨i,hi',hz,r,X⟩:=info_parts N;have d:(Builtin.append_ #[T,T] o.type #[s,.slice J 0 cap]).run P w= .ok s w:=by
   rcases U.2 with ⟨p,_⟩ | ⟨g,ofs,cap,cur,K,p,_,L,_⟩
   ·simp_all[fF,aF]
   ·grind[fF]
  rw[eN O M Q d];refine ⟨trivial,?_⟩;grind
 ·have ⟨news,n1,n2,n3,n4⟩:=YZ (R:=S) (I:=I) (w:=w) m;have B:OwnEls R I w news ys []:=by
   have: ∀ {ys:List α} {l:List Value},OwnEls (yP S) I w l ys [] ->OwnEls R I w l ys []:=by
    intro ys;induction ys with
    | nil=>intro l h;exact h
    | cons y ys ih =>
     rintro l ⟨c,rest,G,K,h1,h2,L,⟨rfl,h4⟩,h5⟩
     have:K= []:=by simpa using L.symm
     subst this;exact ⟨c,rest,[],[],h1,by rw[V,<-A];exact h2,rfl,hc h4,ih h5⟩
   exact this n4
  have hw:w.heap[g]? =some (.cells q t fr):=hi g _ Z;have ⟨v',w',d,e⟩:=St.append_cells (ty:=o.type) hT N D hn V (a:=⟨g,off,none⟩) (cap:=cap) (K2:=[]) (ys:=ys) (news:=news) k
   ⟨G,K,K,U,e3,rfl,f,hI⟩ B (fun j u hj=>by
    grind[Addr.add_mid,World.cell?]) n3 (by grind) Y H
  rw[eN O M Q d];exact ⟨trivial,e⟩
theorem Bh {T:TypeId} {z:Value} {n b:Nat} {x y:Operand} {s u:Value} {xs ys:List α} (M:R.Sh) (hc:Cpy R R) (hT:P.underlying T=some (.slice E)) (Q:TZ P E z n b) (H:z.cells.size=n) (hn:0<n) (X:R.size=n) (L:1<=b) (U:o.op= .call { callee:=.builtin .append,args:= #[x,y],argTypes:= #[T,T] }) (O:ev x=s) (V:ev y=u) (hb:(xs.length+ys.length)*b<=140737488355328) :
  OpT P I w0 o ev [Ch.own (ax E R) [s] xs,Ch.own (ax E R) [u] ys] (fun _=>True) (fun v=>[Ch.own (ax E R) [v] (xs++ys),Ch.own (ax E R) [u] ys]):=by
 intro w C Z;have t:=Z;obtain ⟨hb0,hi,F,⟨G,K,rfl,W,K1,K2,rfl,J,e3⟩,q,hI⟩:=Z;have ⟨B,e2⟩:=J;rcases e2 with ⟨hv,rfl,rfl⟩ | ⟨g,d,cap,cur,K3,hv,k1,Y,k3,S,rfl,r⟩
 ·obtain rfl:u= .slice none 0 0:=by grind
  have ⟨i,hi',hz,D,hby⟩:=info_parts Q;have e:(Builtin.append_ #[T,T] o.type #[s,.slice none 0 0]).run P w= .ok s w:=by
   rcases W.2 with ⟨A,_⟩ | ⟨g,d,cap,cur,K,A,_,h3,_⟩
   ·simp_all[fF,aF]
   ·grind[fF]
  rw[eN U O V e];refine ⟨trivial,?_⟩;grind
 ·obtain rfl:u= .slice (some ⟨g,d,none⟩) ys.length cap:=by grind
  have:=r.sh M
  subst this;have hln:cap*n<=(cur.toList.drop d).length:=by rw[a7,Array.length_toList];rw[X] at S;omega
  have N:ys.length*n<=cap*n:=Nat.mul_le_mul_right _ Y;have f:((cur.toList.drop d).take (ys.length*n)).length=ys.length*n:=by rw[aq];omega
  have k:OwnEls R I w ((cur.toList.drop d).take (ys.length*n)) ys []:=r.rest (by grind);have m: ∀v∈(cur.toList.drop d).take (ys.length*n),v.oneCell'=true:=by
   have: ∀ {ys:List α} {l:List Value} {F},OwnEls R I w l ys F-> ∀v∈l.take (ys.length*R.size),v.oneCell'=true:=by
    intro ys;induction ys with
    | nil=>simp_all
    | cons y ys ih =>
     rintro l F ⟨c,rest,G,K,rfl,h2,h3,h4,h5⟩ v hv;rw[ay,Nat.add_mul,Nat.one_mul,Nat.add_comm,List.take_append,List.take_of_length_le (by omega),h2,Nat.add_sub_cancel_left] at hv;rcases aG hv with h | h
     ·exact R.own_one h4 v h
     grind
   grind
  have ⟨v',w',e,p⟩:=St.append_cells (ty:=o.type) hT Q H hn X (a:=⟨g,d,none⟩) (cap:=cap) (K2:=[]) (ys:=ys) (news:=(cur.toList.drop d).take (ys.length*n)) t
   ⟨G,[g] ++K2,[g] ++K2,W,⟨[g],K2,rfl,⟨B,.inr ⟨g,d,cap,cur,[],hv,k1,Y,k3,S,rfl,r⟩⟩,e3⟩,rfl,q,hI⟩
   k (fun j u hj=>by
    grind[Addr.add_mid,World.cell?]) m f hb L
  rw[eN U O V e];exact ⟨trivial,p⟩
end
inductive Out (R S:Type) where
 | nxt (s:S)
 | brk (s:S)
 | ret (r:R)
def al {R S:Type} (f:S->Option (Out R S)):Nat->S->Option (Out R S)
 | 0,_=>none
 | k+1,s=>match f s with
  | none=>none
  | some (.nxt s')=>al f k s'
  | some (.brk s')=>some (.brk s')
  | some (.ret r)=>some (.ret r)
def aW:Nat:=1180591620717411303424
def bA {α:Type} (b:Nat) (xs ys:List α):Option (List α):=if (xs.length+ys.length)*b<=140737488355328 then some (xs++ys) else none
def chk (p:Prop) [Decidable p] :Option Unit:=if p then some () else none
theorem bind_some {α β:Type} {x:Option α} {f:α->Option β} {r:β} (h:(x.bind f)=some r): ∃a,x=some a/\f a=some r:=Option.bind_eq_some_iff.1 h
theorem xn {α:Type} {b:Nat} {xs ys zs:List α} (h:bA b xs ys=some zs):zs=xs++ys/\(xs.length+ys.length)*b<=140737488355328:=by
 unfold bA at h;split at h
 ·exact ⟨(ae h).symm,‹_›⟩
 ·cases h
theorem bM {p:Prop} [Decidable p] {u:Unit} (h:chk p=some u):p:=by
 unfold chk at h;split at h
 ·assumption
 ·cases h
section
variable {P:Program} {I J:Hp} {w0 w w':World} {cs C:List Ch} {n:Nat} {a:Act} {L:List (Nat×Value)} {Q:Exit->Act->World->Prop}
def Con (P:Program) (k:FuncId) (args:Array Value) (I:Hp) (w0:World) (rn:List Ch) (fact:Value->Prop) (gv:Value->List Ch):Prop:=
 ∀w C,St I w0 w (rn++C)->Calls P k args w fun e w'=> ∃v,e= .returned v/\fact v/\St I w0 w' (gv v++C)
theorem pX {o:Oper} {ev:Operand->Value} {k:FuncId} {f:Operand} {xs:Array Operand} {ts:Array TypeId} {first captured args:Array Value} {rn:List Ch} {fact:Value->Prop} {gv:Value->List Ch} (d:Enters P k) (b:o.op= .call { callee:=.value f,args:=xs,argTypes:=ts }) (h:ev f= .func (.func k) first captured) (c:first.toList++xs.toList.map ev++captured.toList=args.toList) (e:Con P k args I w0 rn fact gv):OpT P I w0 o ev rn fact gv:=by
 intro w C i;have j:(first++xs.map ev)++captured=args:=by
  apply Array.ext';rw[<-c];simp
 have g:(execOp ev o).run P w= .ok (.enter k args) w:=by
  simp only[execOp,b,resolve,h,Deferred.ofValue,Sem.run_bind,Sem.run_pure,Result.andThen_ok,invoke,j];exact d args w
 rw[g];exact e w C i
theorem Con.imp {k:FuncId} {args:Array Value} {rn:List Ch} {fact b:Value->Prop} {gv c:Value->List Ch} (h:Con P k args I w0 rn fact gv) (i: ∀v,fact v->b v) (g: ∀v,fact v-> ∀w C,St I w0 w (gv v++C)->St I w0 w (c v++C)):Con P k args I w0 rn b c :=
 fun w C j=>(h w C j).mono fun e w' ⟨v,l,d,f⟩=>⟨v,l,i v d,g v d _ _ f⟩
def Rep.Dp {α:Type} (R:Rep α):Prop:= ∀ {I J:Hp} {w:World} {v:List Value} {x:α} {F:List Nat},R.own J w v x F->R.own I w v x F
theorem Bi {α:Type} {enc:α->Value} {h1: ∀a,(enc a).oneCell'=true} :(me α enc h1).Dp:=fun h=>h
theorem V2:Io.Dp:=Bi
theorem Y0:Nb.Dp:=Bi
theorem V3 {α β:Type} {R:Rep α} {S:Rep β} (h:R.Dp) (k:S.Dp):(tf R S).Dp:=by
 rintro I J w v x F ⟨c,d,G,K,g,e,f,b⟩;exact ⟨c,d,G,K,g,e,h f,k b⟩
theorem EB {α:Type} {E:TypeId} {R:Rep α} (h:R.Dp):(ax E R).Dp:=by
 intro I J w v x F l;have key: ∀ {b:List α} {cur F},OwnEls R J w cur b F->OwnEls R I w cur b F:=by
  intro b;induction b with
  | nil=>intro cur F h;exact h
  | cons x b ih =>
   rintro cur F ⟨c,rest,G,K,k,d,f,e,i⟩;exact ⟨c,rest,G,K,k,d,f,h e,ih i⟩
 refine ⟨l.1,l.2.imp (fun h=>h) ?_⟩;rintro ⟨g,j,cap,cur,K,k,d,f,e,i,m,o⟩;exact ⟨g,j,cap,cur,K,k,d,f,e,i,m,key o⟩
theorem Bj {α:Type} {R:Rep α} (h:R.Dp) {v:List Value} {x:α} :(Ch.own R v x).deep:=fun b=>h b
theorem Uq {g:Nat} {l:List Value} {E:TypeId} :(Ch.blk g l E).deep:=fun b=>b
def Is (P:Program) (a:Act) (w:World):ResultVar->Value->Prop
 | .tmp t,v=>a.tmps.getD t undef=v
 | .cell p T,v=> ∃A,a.tmps.getD p undef= .pointer (some A)/\(loadVar T A).run P w= .ok v w
theorem V4 (b:Agr n a L) {t:Nat} {v:Value} (h:L.lookup t=some v):Is P a w (.tmp t) v:=b.2.2 t v h
theorem Rt (p:Agr n a L) {t g:Nat} {T E:TypeId} {l:List Value} {m:Nat} {cs:List Ch} (h:L.lookup t=some (.pointer (some ⟨g,0,none⟩))) (hs:St I w0 w cs) (i:Nat) (hi:cs[i]? =some (Ch.blk g l E)) (e:TI P T true m) (c:l.length=m):Is P a w (.cell t T) (.agg l.toArray):=by
 refine ⟨_,p.2.2 t _ h,?_⟩;obtain ⟨⟨d,o,b⟩,f⟩:=e;refine run_loadVar_mid w g 0 T l d (fun j v hv=>?_) o (by cases d <;> first | rfl | cases b) (by rw[f,c]);have k:=hs.heap i hi;rw[Nat.zero_add];simp[World.cell?,k,hv]
theorem Ru {c:Operand} {x y:Code} {b:Bool} (f:Agr n a L) (d:Nj L c=true) (hv:evL L c= .bool b) (e:b=true) (h:x.wp P Q a w):(Code.cond c x y).wp P Q a w:=
 wp_cond_true (by rw[f.eval d,hv,e]) h
theorem Nq {c:Operand} {x y:Code} {b:Bool} (f:Agr n a L) (d:Nj L c=true) (hv:evL L c= .bool b) (e:b=false) (h:y.wp P Q a w):(Code.cond c x y).wp P Q a w:=
 wp_cond_false (by rw[f.eval d,hv,e]) h
theorem Y1 {id:Nat} (h:Q .normal a w):Exit.inBlock id Q (.exit id) a w:=by
 show if id=id then Q .normal a w else Q (.exit id) a w;rw[if_pos rfl];exact h
theorem Y2 {id b:Nat} (c:b≠id) (h:Q (.exit b) a w):Exit.inBlock id Q (.exit b) a w:=by
 show if b=id then Q .normal a w else Q (.exit b) a w;rw[if_neg c];exact h
theorem Rv {R S:Type} {c:Code} {f:S->Option (Out R S)} {k:Nat} {s:S} {o:Out R S} (Inv:S->Act->World->Prop) (h:al f k s=some o) (D:Inv s a w)
  (round: ∀s o',f s=some o'->((∀m,o'≠ .nxt m)->o'=o)-> ∀a w,Inv s a w->c.wp P (Exit.then (fun a w=> ∃m,o'= .nxt m/\Inv m a w) Q) a w):(Code.loop c).wp P Q a w:=by
 intro b it cs;have key: ∀k s a w,al f k s=some o->Inv s a w-> ∃e z w',Q e z w'/\Arrives P (lone (b.at a (.code c:: .inLoop c::it)) cs w) b it cs e z w':=by
  intro k;induction k with
  | zero=>intro s a w h;cases h
  | succ k ih =>
   intro s a w h E;rw[al] at h;cases A:f s with
   | none=>rw[A] at h;cases h
   | some o' =>
    rw[A] at h;obtain ⟨e,g,i,p,d⟩:=round s o' A (fun B=>by
     cases o' with
     | nxt m=>exact absurd rfl (B m)
     | brk m=>exact ae h
     | ret r=>exact ae h) a w E b (.inLoop c::it) cs
    cases e with
    | normal =>
     obtain ⟨m,rfl,t⟩:=p;obtain ⟨u,v,y,q,j⟩:=ih m g i h t;exact ⟨u,v,y,q,.of_steps (Steps.trans d (.one step_inLoop)) j⟩
    | exit id=>exact ⟨_,g,i,p,.pass (x:=.inLoop c) rfl (fun _ _=>.inl (by simp)) d⟩
    | goto l=>exact ⟨_,g,i,p,.pass (x:=.inLoop c) rfl (fun _ _=>.inl (by simp)) d⟩
    | ret=>exact ⟨_,g,i,p,.pass (x:=.inLoop c) rfl (fun _ _=>.inl (by simp)) d⟩
    | panic ch=>exact ⟨_,g,i,p,.pass (x:=.inLoop c) rfl (fun _ _=>.inl (by simp)) d⟩
    | outgrown=>exact ⟨_,g,i,p,.pass (x:=.inLoop c) rfl (fun _ _=>.inl (by simp)) d⟩
 obtain ⟨e,z,w',p,d⟩:=key k s a w h D;exact ⟨e,z,w',p,.of_steps (.one step_loop) d⟩
theorem Rw {ops:Array Oper} {o:Oper} {rest:List Oper} {g d:Nat} {want b:Bool} (e:Agr n a L) (hs:St I w0 w C) (l:o.guard=some (g,want)) (i:((ops[g]?).bind (·.dst))=some d) (hv:L.lookup d=some (.bool b)) (f:b= !want) (j:dstOk n o.dst=true)
  (k: ∀a,Agr n a (Nc o.dst undef L)->wpList P ops Q rest a w):wpList P ops Q (o::rest) a w:=by
 refine wpList_skip ?_ (k _ (e.put undef j));have h:=e.2.2 d _ hv;unfold Region.wanted yielded;rw[l];simp only;rw[i];simp only[aa];rw[Array.getD_eq_getD_getElem?] at h;cases c:a.tmps[d]? with
 | none=>rw[c] at h;cases h
 | some u =>
  rw[c] at h;simp only[Option.getD_some] at h;rw[h];simp only[f];cases want <;> rfl
theorem Rx {ops:Array Oper} {o:Oper} {rest:List Oper} {g d:Nat} {want b:Bool} {l rn:List Ch} {fact:Value->Prop} {gv:Value->List Ch} (j:Agr n a L) (hs:St I w0 w l) (z:o.guard=some (g,want)) (q:((ops[g]?).bind (·.dst))=some d) (hv:L.lookup d=some (.bool b)) (t:b=want) (c:OpT P I w0 o (evL L) rn fact gv) (hp:l.Perm (rn++C)) (m:(xj L o&&dstOk n o.dst&&noSelect o)=true)
  (k: ∀v a w,fact v->Agr n a (Nc o.dst v L)->St I w0 w (gv v++C)->wpList P ops Q rest a w):wpList P ops Q (o::rest) a w:=by
 simp only[aj] at m;obtain ⟨⟨f,i⟩,e⟩:=m;have s:Region.wanted o (yielded ops a.tmps)=true:=by
  have h:=j.2.2 d _ hv;unfold Region.wanted yielded;rw[z];simp only;rw[q];simp only[aa];rw[Array.getD_eq_getD_getElem?] at h;cases p:a.tmps[d]? with
  | none=>rw[p] at h;cases h
  | some u =>
   rw[p] at h;simp only[Option.getD_some] at h;rw[h];simp[t]
 refine BigFrame.wpList_want s fun K r=>?_;have y:execOp a.eval o=execOp (evL L) o:=rL e fun x A=>j.eval ((List.all_eq_true.1 f) x (by simpa using A));have h:=c w C (hs.perm hp);rw[<-y] at h;exact h.wp fun v w' hv=>r _ _ (k v _ w' hv.1 (j.put v i) hv.2)
end
section
variable {P:Program} {I J:Hp} {w0 w w':World} {cs C:List Ch} {n:Nat} {a:Act} {L L':List (Nat×Value)} {Q:Exit->Act->World->Prop} {o:Oper} {ev:Operand->Value}
theorem nrm {K:Act->World->Prop} (h:K a w):Exit.then K Q .normal a w:=h
theorem ac9 {id:Nat} (h:Q .normal a w):Exit.inBlock id Q .normal a w:=h
theorem V5 {K:Act->World->Prop} {id:Nat} (h:Q (.exit id) a w):Exit.then K Q (.exit id) a w:=h
theorem V6 {K:Act->World->Prop} (h:Q .ret a w):Exit.then K Q .ret a w:=h
theorem acz {id:Nat} (h:Q .ret a w):Exit.inBlock id Q .ret a w:=h
theorem two (b:Bool):b=false\/b=true:=by cases b <;> simp
theorem Hd.one {v:Value} {n:Nat} (h:Hd v n):v.oneCell'=true:=by obtain ⟨_,_,rfl,_⟩:=h;rfl
def Iu (place:Nat->Option (Nat×Nat)) (cells:List Value):List (Nat×List Value)->Option (List Value)
 | [] =>some cells
 | (i,l)::rest=>match place i with
  | none=>none
  | some (off,size)=>if l.length=size/\off+size<=cells.length then Iu place (cells.take off++l++cells.drop (off+size)) rest else none
theorem Ur {place:Nat->Option (Nat×Nat)} : ∀ {parts:List (Nat×Value)} {ls:List (Nat×List Value)} {cells r:List Value},parts.map (fun p=>(p.1,p.2.cells))=ls.map (fun p=>(p.1,p.2.toArray))->Iu place cells ls=some r->Instr.fill place cells.toArray parts=some r.toArray
 | [],[],cells,r,_,h=>by grind[Iu,Instr.fill,ae]
 | [],_::_,cells,r,b,h=>by grind
 | _::_,[],cells,r,b,h=>by grind
 | (i,u)::parts,(j,l)::ls,cells,r,b,h=>by
  simp[List.map_cons,List.cons.injEq,Prod.mk.injEq] at b;obtain ⟨⟨rfl,d⟩,b⟩:=b;rw[Iu] at h;rw[Instr.fill];cases hp:place i with
  | none=>grind
  | some q =>
   have ⟨off,size⟩:=q;rw[hp] at h;simp only at h⊢;split at h
   ·rename_i f;rw[d];rw[if_neg (by grind)];have g:=Nn l off cells.toArray (by grind);have e:(l.toArray.zipIdx.foldl (fun cs (c,j)=>cs.setIfInBounds (off+j) c) cells.toArray)=(cells.take off++l++cells.drop (off+size)).toArray:=by
     rw[<-f.1];apply Array.ext';rw[g]
    rw[e];exact Ur b h
   grind
def TB (P:Program) (T:TypeId) (pl:List (Nat×Nat)):Prop:= ∃fs,P.underlying T=some (.struct fs)/\fs.toList.mapM (fun f=>(P.info? f.type).map fun i=>(f.offset,i.size))=some pl
def peq:List (Nat×Value)->List (Nat×List Value)->Prop
 | [],[] =>True
 | (i,u)::p,(j,l)::q=>i=j/\u.cells=l.toArray/\peq p q
 | _,_=>False
theorem Nr: ∀ {p:List (Nat×Value)} {q:List (Nat×List Value)},peq p q->p.map (fun p=>(p.1,p.2.cells))=q.map (fun p=>(p.1,p.2.toArray))
 | [],[],_=>rfl
 | (i,u)::p,(j,l)::q,h=>by
  obtain ⟨rfl,b,c⟩:=h;rw[List.map_cons,List.map_cons,Nr c,b]
 | [],_::_,h=>h.elim
 | _::_,[],h=>h.elim
theorem Ns {T:TypeId} {z:Value} {m b:Nat} {parts:Array (Nat×Operand)} {e r:List Value} (ls:List (Nat×List Value)) {d:List (Nat×Nat)} (h:TB P T d) (g:TZ P T z m b) (f:z.cells=e.toArray) (l:o.op= .build T parts)
  (c:peq (parts.toList.map fun p=>(p.1,ev p.2)) ls) (s:Iu (d[·]?) e ls=some r):OpT P I w0 o ev [] (· = .agg r.toArray) (fun _=>[]):=by
 refine bB fun w=>?_;have ⟨fs,u,k⟩:=h;obtain ⟨i,q,j,-,-⟩:=info_parts g;have t:=Ur (place:=fun i=>d.toArray[i]?) (cells:=e) (r:=r) (parts:=(parts.map fun (i,x)=>(i,ev x)).toList) (by rw[Array.toList_map];exact Nr c) (by grind);simp_all[Program.built,execOp,Sem.run_bind,run_build]
def aO {R S T:Type} (x:Option (Out R S)) (kr:R->Option T) (k:S->Option T):Option T:=
 match x with
 | some (.brk s)=>k s
 | some (.ret r)=>kr r
 | _=>none
theorem LQ {R S T:Type} {x:Option (Out R S)} {b:R->Option T} {k:S->Option T} {t:T} (h:aO x b k=some t): ∃o,x=some o/\((∃s,o= .brk s/\k s=some t)\/ ∃r,o= .ret r/\b r=some t):=by
 unfold aO at h;grind
def yS {S T:Type} (x:Option (T ⊕ S)) (k:S->Option T):Option T:=
 match x with
 | some (.inr s)=>k s
 | some (.inl t)=>some t
 | none=>none
theorem DD {S T:Type} {x:Option (T ⊕ S)} {k:S->Option T} {t:T} (h:yS x k=some t): ∃o,x=some o/\((∃s,o= .inr s/\k s=some t)\/o= .inl t):=by
 unfold yS at h;grind
def vg:Value->List Nat->Value
 | v,[] =>v
 | .tuple vs,i::l=>vg (vs.getD i undef) l
 | .agg cs,i::l=>vg (cs.getD i undef) l
 | .func _ _ cs,i::l=>vg (cs.getD i undef) l
 | _,_::_=>undef
theorem St.nil {α:Type} {R:Rep α} {E:TypeId} (h:St I w0 w cs):St I w0 w (Ch.own (ax E R) [.slice none 0 0] ([] :List α)::cs):=
 h.free ⟨by simp,.inl ⟨rfl,rfl,rfl⟩⟩
theorem Us {α:Type} {R:Rep α} {E:TypeId} :(ax E R).rd I [.slice none 0 0] ([] :List α):=⟨none,0,rfl,by simp,.inl rfl⟩
theorem OwnEls.stay' {α:Type} {R:Rep α} (c:R.Sh) (b:Cpy R R): ∀ {xs:List α} {cur:List Value},OwnEls R I w cur xs [] ->OwnEls R I w' cur xs []
 | [],_,h=>h
 | x::xs,cur,⟨d,rest,G,K,h1,h2,h3,h4,h5⟩=>by
  have e:K= []:=by simp at h3;exact h3.2
  subst e;exact ⟨d,rest,[],[],h1,h2,rfl,b (c h4).2,h5.stay' c b⟩
def Upd {α β:Type} (R:Rep α) (off:Nat) (S:Rep β) (u:α->β->α):Prop:= ∀I c x d y,R.rd I c x->S.rd I d y->R.rd I (spl c off d) (u x y)
theorem DE: ∀(d c:List Value) (off:Nat),off+d.length<=c.length->spl c off d=c.take off++d++c.drop (off+d.length)
 | [],c,off,h=>by simp[spl]
 | v::d,c,off,h=>by
  rw[ay] at h;rw[spl,DE d _ _ (by grind)];have b:(c.set off v).take (off+1)=c.take off++ [v]:=by
   rw[List.take_add_one,List.take_set_of_le (aF _),List.getElem?_set_self (by omega)];rfl
  grind[List.drop_set_of_lt,ay]
theorem Upd.self {α:Type} {R:Rep α} :Upd R 0 R (fun _ y=>y):=by
 intro I c x d y h k;rw[DE _ _ _ (by rw[R.rd_len h,R.rd_len k];omega),R.rd_len k,<-R.rd_len h];grind
theorem xo: ∀(d c e:List Value) (off:Nat),off+d.length<=c.length->spl (c++e) off d=spl c off d++e
 | [],c,e,off,h=>rfl
 | v::d,c,e,off,h=>by
  rw[ay] at h;rw[spl,spl,List.set_append_left _ _ (by omega),xo d _ e _ (by grind)]
theorem qW: ∀(d c e:List Value) (off:Nat),spl (c++e) (c.length+off) d=c++spl e off d
 | [],c,e,off=>rfl
 | v::d,c,e,off=>by
  rw[spl,spl,List.set_append_right _ _ (by omega),Nat.add_sub_cancel_left,show c.length+off+1=c.length+(off+1) from by omega,qW d]
theorem J4 {d c:List Value} {o off:Nat} (h:o<=c.length):(spl c (o+off) d).drop o=spl (c.drop o) off d:=by
 have:=qW d (c.take o) (c.drop o) off
 simp_all
theorem Upd.fst {α β γ:Type} {A:Rep α} {B:Rep β} {S:Rep γ} {off:Nat} {u:α->γ->α} (hs:off+S.size<=A.size) (h:Upd A off S u):Upd (tf A B) off S (fun x y=>(u x.1 y,x.2)):=by
 rintro I c x d y ⟨e,g,rfl,b,f⟩ k;rw[xo _ _ _ _ (by rw[A.rd_len b,S.rd_len k];exact hs)];exact ⟨_,g,rfl,h I e x.1 d y b k,f⟩
theorem Upd.snd {α β γ:Type} {A:Rep α} {B:Rep β} {S:Rep γ} {off:Nat} {u:β->γ->β} (h:Upd B off S u):Upd (tf A B) (A.size+off) S (fun x y=>(x.1,u x.2 y)):=by
 rintro I c x d y ⟨e,g,rfl,b,f⟩ k;rw[<-A.rd_len b,qW];exact ⟨e,_,rfl,b,h I g x.2 d y f k⟩
theorem OwnEls.set {α:Type} {R:Rep α} (g:R.Sh) (f:Cpy R R) {c:List Value} {y:α} (l:R.rd I c y): ∀ {xs:List α} {cur b:List Value} {k:Nat},OwnEls R I w cur xs [] ->k<xs.length->b.length=cur.length->(∀j,j<R.size->b[k*R.size+j]? =c[j]?)->(∀j,j<k*R.size\/k*R.size+R.size<=j->b[j]? =cur[j]?)->OwnEls R I w' b (xs.set k y) []
 | [],_,_,k,_,hk,_,_,_=>by rfl
 | x::xs,cur,b,0,⟨d,rest,G,K,h1,h2,h3,h4,h5⟩,hk,hl,h6,h7=>by
  have i:K= []:=by simp at h3;exact h3.2
  subst i;subst h1;have h:=R.rd_len l;refine ⟨c,b.drop R.size,[],[],?_,h,rfl,f l,?_⟩
  ·apply List.ext_getElem?;grind
  ·have e:b.drop R.size=rest:=by
    apply List.ext_getElem?;intro j;rw[List.getElem?_drop,h7 _ (.inr (by omega)),List.getElem?_append_right (by omega)];congr 1;omega
   rw[e];exact h5.stay' g f
 | x::xs,cur,b,k+1,⟨d,rest,G,K,h1,h2,h3,h4,h5⟩,hk,hl,h6,h7=>by
  have i:K= []:=by simp at h3;exact h3.2
  subst i;subst h1;have p:(k+1)*R.size=k*R.size+R.size:=by grind
  refine ⟨d,b.drop R.size,[],[],?_,h2,rfl,f (g h4).2,?_⟩
  ·apply List.ext_getElem?;grind
  ·refine OwnEls.set g f l (cur:=rest) h5 (by simpa using hk) ?_ (fun j m=>?_) (fun j m=>?_)
   ·rw[a7,hl,az];omega
   ·rw[List.getElem?_drop,<-h6 j m];congr 1;omega
   ·rw[List.getElem?_drop,h7 _ (by omega),List.getElem?_append_right (by omega)];congr 1;omega
theorem Nt {c d:List Value} {off j:Nat} (h:off+d.length<=c.length):(spl c off d)[j]? =if off<=j/\j<off+d.length then d[j - off]? else c[j]? :=by
 grind[DE,aq]
theorem Gy {α β:Type} {E T:TypeId} {R:Rep α} {S:Rep β} {agg:Bool} {n k off:Nat} {f:α->β->α} {x y:Operand} {v u:Value} {xs:List α} {a:α} {b:β} {i:Int} {d:List Value} (Y:R.Sh) (hc:Cpy R R) (ha:aU xs i=some a) (hU:Upd R off S f) (hT:TI P T agg n) (ho:o.op= .store T x y) (hx:ev x=pt v (i.toNat*k+off)) (hy:ev y=u) (hu:u.cells=d.toArray) (h1:d.all (·.oneCell')=true) (hd:d.length=n) (X:R.size=k) (hS:off+n<=k) (q:S.rd I d b) :
  OpT P I w0 o ev [Ch.own (ax E R) [v] xs] (fun _=>True) (fun _=>[Ch.own (ax E R) [v] (xs.set i.toNat (f a b))]):=by
 intro w C hs;have V:=wz ha;have A:=(List.getElem?_eq_some_iff.1 V).1;obtain ⟨p,hi,F,⟨G,K,rfl,⟨hl,e2⟩,e3⟩,m,hI⟩:=hs;rcases e2 with ⟨hv,rfl,rfl⟩ | ⟨g,l,cap,cur,K1,hv,M,k2,k3,k4,rfl,t⟩
 ·grind
 obtain rfl:v= .slice (some ⟨g,l,none⟩) xs.length cap:=by grind
 have:=t.sh Y
 subst this;have ⟨c,c1,c2,c3⟩:=t.at Hp.le.rfl (by simp) i.toNat a V;have U:l+(i.toNat*k+k)<=cur.size:=by
  have O:=k4;rw[X] at O
  have:(i.toNat+1)*k<=cap*k:=Nat.mul_le_mul_right _ (by omega)
  rw[Nat.add_mul,Nat.one_mul] at this;omega
 have hln:cur.toList.length=cur.size:=Array.length_toList;have hld:(cur.toList.drop l).length=cur.size - l:=by grind
 have hr:=JW (P:=P) (w:=w) hT (g:=g) (o:=l+(i.toNat*k+off)) hu hd (fun j H=>by
  simp[World.cell?,M,Option.isSome_none,Bool.false_eq_true,ite_false];grind) (fun j=>by simp[World.frozen?,M]) (fun v hv=>List.all_eq_true.1 h1 v hv)
 simp only[execOp,ho,hx,hy,pt,ptB,ptO,Sem.run_bind,hr,Result.andThen_ok];refine ⟨trivial,?_⟩;have B: ∀(d:List Value) (o:Nat) (w:World),(qy w g o d).os=w.os/\(qy w g o d).tape=w.tape/\(qy w g o d).output=w.output/\(qy w g o d).heap.size=w.heap.size/\ ∀b,b≠g->(qy w g o d).heap[b]? =w.heap[b]? :=by
  intro d;induction d with
  | nil=>intro o w;exact ⟨rfl,rfl,rfl,rfl,fun _ _=>rfl⟩
  | cons v d ih =>
   intro o w;have ⟨i1,i2,i3,i4,i5⟩:=ih (o+1) (w.setCell ⟨g,o,none⟩ v);exact ⟨i1,i2,i3,i4.trans (by simp_all),fun b q=>(i5 b q).trans (Below.heap_setCell _ _ _ _ q)⟩
 have r: ∀(d:List Value) (o:Nat) (w:World) (cur:Array Value),w.heap[g]? =some (.cells cur E (0,0))->(qy w g o d).heap[g]? =some (.cells (spl cur.toList o d).toArray E (0,0)):=by
  intro d;induction d with
  | nil=>simp_all[qy,spl]
  | cons v d ih =>
   intro o w cur h
   have:=ih (o+1) (w.setCell ⟨g,o,none⟩ v) (cur.setIfInBounds o v) (gS h)
   rw[Array.toList_setIfInBounds] at this;exact this
 have ⟨Z,q2,q3,q4,W⟩:=B d (l+(i.toNat*k+off)) w;have z:g∉K:=by rw[List.cons_append] at m;simpa using (List.nodup_cons.1 m).1
 have hcl:c.length=k:=by omega
 have N:=hU I c a d b c3 q;refine ⟨⟨Z.trans p.1,q2.trans p.2.1,q3.trans p.2.2.1,by omega⟩,fun b o s=>?_,[g] ++K,⟨[g],K,rfl,⟨by grind,.inr ⟨g,l,cap,_,[],by grind,r d _ w cur M,by grind,k3,by grind[List.size_toArray,yR],rfl,?_⟩⟩,e3.stay fun b q=>W b fun e=>z (e ▸ q)⟩,m,hI⟩
 ·show (qy w g (l+(i.toNat*k+off)) d).heap[b]? =some o;rw[W b fun e=>by grind];exact hi b o s
 ·have D: ∀j,(spl (cur.toList.drop l) (i.toNat*k+off) d)[j]? =if i.toNat*k+off<=j/\j<i.toNat*k+off+d.length then d[j - (i.toNat*k+off)]? else (cur.toList.drop l)[j]? :=fun j=>Nt (by omega);rw[J4 (by omega)];refine OwnEls.set (w:=w) Y hc N (cur:=cur.toList.drop l) t A (by rw[yR]) (fun j H=>?_) (fun j H=>?_)
  ·rw[X] at H⊢;rw[D,Nt (by omega)];by_cases h:off<=j/\j<off+d.length
   ·rw[if_pos h,if_pos (by omega)];congr 1;omega
   grind
  grind
def mkI {α:Type} (b:Nat) (n:Int) (z:α):Option (List α):=if 0<=n/\n.toNat*b<=140737488355328 then some (List.replicate n.toNat z) else none
theorem V7 {α:Type} {E T:TypeId} {R:Rep α} {z:Value} {n b:Nat} {x y:Operand} {s u:Value} {xs ys zs:List α} (h:bA b xs ys=some zs) (j:P.underlying T=some (.slice E)) (m:TZ P E z n b) (d:z.cells.size=n) (g:0<n) (l:R.size=n) (c:1<=b) (e:o.op= .call { callee:=.builtin .append,args:= #[x,y],argTypes:= #[T,T] }) (k:ev x=s) (f:ev y=u) :
  OpT P I w0 o ev [Ch.own (ax E R) [s] xs,Ch.own (ax E R) [u] ys] (fun _=>True) (fun v=>[Ch.own (ax E R) [v] zs]):=by
 obtain ⟨rfl,i⟩:=xn h;grind[LP]
theorem wA {α:Type} {E T E':TypeId} {R S:Rep α} {z:Value} {n b:Nat} {x y:Operand} {s u:Value} {xs ys zs:List α} (h:bA b xs ys=some zs) (m:Cpy S R) (d:S.size=n) (p:(ax E' S).rd I [u] ys) (k:P.underlying T=some (.slice E)) (r:TZ P E z n b) (e:z.cells.size=n) (i:0<n) (q:R.size=n) (c:1<=b) (f:o.op= .call { callee:=.builtin .append,args:= #[x,y],argTypes:= #[T,T] }) (l:ev x=s) (g:ev y=u) :
  OpT P I w0 o ev [Ch.own (ax E R) [s] xs] (fun _=>True) (fun v=>[Ch.own (ax E R) [v] zs]):=by
 obtain ⟨rfl,j⟩:=xn h;grind[C9]
theorem Gz {α:Type} {E T:TypeId} {R:Rep α} {z:Value} {n b:Nat} {x y:Operand} {s u:Value} {xs ys zs:List α} (h:bA b xs ys=some zs) (d:R.Sh) (m:Cpy R R) (k:P.underlying T=some (.slice E)) (q:TZ P E z n b) (e:z.cells.size=n) (i:0<n) (p:R.size=n) (c:1<=b) (f:o.op= .call { callee:=.builtin .append,args:= #[x,y],argTypes:= #[T,T] }) (l:ev x=s) (g:ev y=u) :
  OpT P I w0 o ev [Ch.own (ax E R) [s] xs,Ch.own (ax E R) [u] ys] (fun _=>True) (fun v=>[Ch.own (ax E R) [v] zs,Ch.own (ax E R) [u] ys]):=by
 obtain ⟨rfl,j⟩:=xn h;grind[Bh]
theorem Iv {v:Value} (h:abw v):v= .pointer (some ⟨bk v,0,none⟩):=by obtain ⟨g,rfl⟩:=h;rfl
theorem OpT.hdk {rn:List Ch} {fact:Value->Prop} {gv:Value->List Ch} {α:Type} {E:TypeId} {R:Rep α} {xs:List α} (u:Value->Value) (k:Nat) (c: ∀v,(gv v)[k]? =some (Ch.own (ax E R) [u v] xs)) (h:OpT P I w0 o ev rn fact gv):OpT P I w0 o ev rn (fun v=>fact v/\Hd (u v) xs.length) gv:=by
 intro w C d;refine (h w C d).imp fun v w hv=>⟨⟨hv.1,?_⟩,hv.2⟩
 have b:=(List.getElem?_eq_some_iff.1 (c v)).1;exact (hv.2.hd k (by rw[List.getElem?_append_left b];exact c v)).1
theorem LR {ops:Array Oper} {rest:List Oper} {g d:Nat} {want:Bool} (b:Agr n a L) (hs:St I w0 w C) (i:o.guard=some (g,want)) (e:((ops[g]?).bind (·.dst))=some d) (hv:L.lookup d=some undef) (c:dstOk n o.dst=true)
  (k: ∀a,Agr n a (Nc o.dst undef L)->wpList P ops Q rest a w):wpList P ops Q (o::rest) a w:=by
 refine wpList_skip ?_ (k _ (b.put undef c));have h:=b.2.2 d _ hv;unfold Region.wanted yielded;rw[i];simp only;rw[e];simp only[aa];rw[Array.getD_eq_getD_getElem?] at h;cases f:a.tmps[d]? with
 | none=>rfl
 | some u =>
  rw[f] at h;simp[Option.getD_some] at h;rw[h];rfl
theorem V8 {x y:Operand} {t u:TypeId} {a b:ByteArray} (d:o.op= .binOp .eql t x y u) (c:ev x= .string a) (e:ev y= .string b):OpT P I w0 o ev [] (· = .bool (a==b)) (fun _=>[]):=
 bB fun w=>by rw[beq_toListBytes];simp[execOp,d,c,e];rfl
theorem V9 {x y:Operand} {t u:TypeId} {a b:ByteArray} (d:o.op= .binOp .neq t x y u) (c:ev x= .string a) (e:ev y= .string b):OpT P I w0 o ev [] (· = .bool (a !=b)) (fun _=>[]):=
 bB fun w=>by unfold bne;rw[beq_toListBytes];simp[execOp,d,c,e];rfl
def EqT (P:Program) (t:TypeId) (x y:Value) (b:Bool) (w:World):Prop:=(Op.equal t x y).run P w= .ok b w/\(eqGuard .eql t (.const x) (.const y) x y).run P w= .ok () w/\(eqGuard .neq t (.const x) (.const y) x y).run P w= .ok () w
theorem Wa {x y:Operand} {t u:TypeId} {e d:Array Value} {b:Bool} (h: ∀w,EqT P t (.agg e) (.agg d) b w) (g:o.op= .binOp .eql t x y u) (l:ev x= .agg e) (i:ev y= .agg d) {c:Bool} (m:b=c):OpT P I w0 o ev [] (· = .bool c) (fun _=>[]):=
 bB fun w=>by
  have ⟨p,f,k⟩:=h w;have j:binOp .eql t (.agg e) (.agg d)=(do pure (.bool (<-Op.equal t (.agg e) (.agg d)))):=rfl;simp_all[eqGuard,execOp,Sem.run_bind,Sem.run_pure,Result.andThen_ok]
theorem Wb {x y:Operand} {t u:TypeId} {e d:Array Value} {b:Bool} (h: ∀w,EqT P t (.agg e) (.agg d) b w) (g:o.op= .binOp .neq t x y u) (l:ev x= .agg e) (i:ev y= .agg d) {c:Bool} (m:(!b)=c):OpT P I w0 o ev [] (· = .bool c) (fun _=>[]):=
 bB fun w=>by
  have ⟨p,f,k⟩:=h w;have j:binOp .neq t (.agg e) (.agg d)=(do pure (.bool (!(<-Op.equal t (.agg e) (.agg d))))):=rfl;simp_all[eqGuard,execOp,Sem.run_bind,Sem.run_pure,Result.andThen_ok]
theorem EC {d:Nat} {xs ys:Array Value} (w:World):(Op.eqFields d xs ys []).run P w= .ok true w:=rfl
theorem j9 {d:Nat} {xs ys:Array Value} {f:Field} {fs:List Field} {b e:Value} {r c:Bool} {w:World} (j:(f.name != "_")=true) (g:(part f.type xs f.offset).run P w= .ok b w) (h:(part f.type ys f.offset).run P w= .ok e w) (i:(Op.equalIn d f.type b e).run P w= .ok r w) (k:(Op.eqFields d xs ys fs).run P w= .ok c w):(Op.eqFields d xs ys (f::fs)).run P w= .ok (r&&c) w:=by
 rw[Op.eqFields,if_pos (by grind)];simp[Sem.run_bind,g,h,i,Result.andThen_ok];cases r
 ·rfl
 grind
theorem iy {T:TypeId} {cs:Array Value} {off:Nat} {v:Value} {w:World} (b:TI P T false 1) (h:cs[off]? =some v):(part T cs off).run P w= .ok v w:=by
 unfold part;rw[Sem.run_bind,b.run_agg];simp_all
theorem J5 {t:TypeId} {fs:Array Field} {xs ys:Array Value} {b:Bool} (w:World) (d:P.underlying t=some (.struct fs)) (hp:P.stoodInHeld t=false) (c:P.eqGuardType P.depth t=false) (h:(Op.eqFields 9999 xs ys fs.toList).run P w= .ok b w):EqT P t (.agg xs) (.agg ys) b w:=by
 have e:P.fieldsOf t=fs:=by unfold Program.fieldsOf;rw[d]
 refine ⟨?_,run_eqGuard_agg w _ _ _ _ _ _ c,run_eqGuard_agg w _ _ _ _ _ _ c⟩;grind[Op.equal,Op.maxDepth,run_equalIn_agg]
end
section
variable {P:Program} {I J:Hp} {w0 w w':World} {cs C:List Ch} {n:Nat} {a:Act} {L L':List (Nat×Value)} {o:Oper} {ev:Operand->Value}
theorem Wc {Q:Exit->Act->World->Prop} {ops:Array Oper} {rest:List Oper} {C:List Ch} {fact:Value->Prop} (d:Agr n a L) (hs:St I w0 w C) (b:OpT P I w0 o (evL L) [] fact (fun _=>[])) (e:o.guard=none) (c:(xj L o&&dstOk n o.dst&&noSelect o)=true)
  (k: ∀v a w,fact v->Agr n a (Nc o.dst v L)->St I w0 w C->wpList P ops Q rest a w):wpList P ops Q (o::rest) a w:=
 Up d hs e b (List.Perm.refl _) c k
end
def Bun (I:Hp) (ls:List Ch) {α:Type} (R:Rep α) (cs:List Value) (x:α):Prop:= ∀w F,Sep I ls w F->R.own I w cs x F
section
variable {P:Program} {I J:Hp} {w0 w w':World} {cs C:List Ch} {n:Nat} {a:Act} {L L':List (Nat×Value)} {o:Oper} {ev:Operand->Value}
theorem Nu {α:Type} {R:Rep α} {c:List Value} {x:α} :Bun I [Ch.own R c x] R c x:=by
 rintro w F ⟨G,K,rfl,b,rfl⟩;rw[List.append_nil];exact b
theorem Wd {α:Type} {E:TypeId} {R:Rep α} :Bun I [] (ax E R) [.slice none 0 0] []:=fun w F h=>⟨Nat.zero_le _,.inl ⟨rfl,rfl,h⟩⟩
theorem Y3 {α:Type} {R:Rep α} {c:List Value} {x:α} (h:R.rd I c x):Bun I [] (yP R) c x:=fun w F k=>⟨k,h⟩
theorem Ry {α β:Type} {R:Rep α} {S:Rep β} {l m:List Ch} {c d:List Value} {x:α} {y:β} (h:Bun I l R c x) (k:Bun I m S d y):Bun I (l++m) (tf R S) (c++d) (x,y):=by
 intro w F e;obtain ⟨G,K,rfl,f,b⟩:=e.split;exact ⟨c,d,G,K,rfl,rfl,h w G f,k w K b⟩
def qX (I:Hp) (l m:List Ch):Prop:= ∀w F,Sep I l w F->Sep I m w F
theorem xp:qX I [] []:=fun _ _ h=>h
theorem tz {α:Type} {R:Rep α} {l m b:List Ch} {c:List Value} {x:α} (h:Bun I l R c x) (k:qX I m b):qX I (l++m) (Ch.own R c x::b):=by
 intro w F e;obtain ⟨G,K,rfl,f,d⟩:=e.split;exact ⟨G,K,rfl,h w G f,k w K d⟩
theorem OpT.pre {c ls b:List Ch} {fact:Value->Prop} {gv:Value->List Ch} (k:qX I c b) (e:c=ls) (h:OpT P I w0 o ev b fact gv):OpT P I w0 o ev ls fact gv:=by
 subst e;intro w C m;refine h w C ?_;have ⟨p,d,F,i,g,j⟩:=m;obtain ⟨G,K,rfl,f,l⟩:=i.split;exact ⟨p,d,G++K,(k w G f).append l,g,j⟩
def UpdO {α β:Type} (R:Rep α) (off:Nat) (S:Rep β) (u:α->β->α):Prop:= ∀I w c x G d y K,R.own I w c x G->S.own I w d y K-> ∃G' D,R.own I w (spl c off d) (u x y) G'/\(G'++D).Perm (G++K)
theorem UpdO.self {α:Type} {R:Rep α} :UpdO R 0 R (fun _ y=>y):=by
 intro I w c x G d y K h k;rw[DE _ _ _ (by rw[R.own_len h,R.own_len k];omega),R.own_len k,<-R.own_len h];grind[List.perm_append_comm]
theorem UpdO.fst {α β γ:Type} {A:Rep α} {B:Rep β} {S:Rep γ} {off:Nat} {u:α->γ->α} (hs:off+S.size<=A.size) (h:UpdO A off S u):UpdO (tf A B) off S (fun x y=>(u x.1 y,x.2)):=by
 rintro I w c x F d y K ⟨j,l,m,b,rfl,rfl,f,g⟩ k;rw[xo _ _ _ _ (by rw[A.own_len f,S.own_len k];exact hs)];have ⟨e,D,i,p⟩:=h I w j x.1 m d y K f k;refine ⟨e++b,D,⟨_,l,e,b,rfl,rfl,i,g⟩,?_⟩;grind[aC,List.Perm.append_left,List.perm_append_comm,trans]
theorem UpdO.snd {α β γ:Type} {A:Rep α} {B:Rep β} {S:Rep γ} {off:Nat} {u:β->γ->β} (h:UpdO B off S u):UpdO (tf A B) (A.size+off) S (fun x y=>(x.1,u x.2 y)):=by
 rintro I w c x F d y K ⟨j,l,b,m,rfl,rfl,f,g⟩ k;rw[<-A.own_len f,qW];have ⟨e,D,i,p⟩:=h I w l x.2 m d y K g k;refine ⟨b++e,D,⟨j,_,b,e,rfl,rfl,f,i⟩,?_⟩;grind
theorem OwnEls.setO {α β:Type} {R:Rep α} {S:Rep β} {off:Nat} {f:α->β->α} (l:UpdO R off S f) {d:List Value} {y:β} {j:List Nat} (h:S.own I w d y j) (b:off+S.size<=R.size) :
  ∀ {xs:List α} {cur:List Value} {F:List Nat} {k:Nat} {x:α},OwnEls R I w cur xs F->xs[k]? =some x-> ∃g D,OwnEls R I w (spl cur (k*R.size+off) d) (xs.set k (f x y)) g/\(g++D).Perm (F++j)
 | [],_,_,k,_,_,hk=>by grind
 | z::xs,cur,F,0,x,⟨c,rest,G,K,h1,h2,h3,h4,h5⟩,hk=>by
  simp at hk;subst hk;subst h1;have ⟨m,D,i,p⟩:=l I w c z G d y j h4 h;rw[Nat.zero_mul,Nat.zero_add,xo _ _ _ _ (by rw[h2,S.own_len h];omega)];refine ⟨m++K,D,⟨_,rest,m,K,rfl,by rw[yR];exact h2,rfl,i,h5⟩,?_⟩;grind[aC,List.Perm.append_left,List.perm_append_comm,trans]
 | z::xs,cur,F,k+1,x,⟨c,rest,G,K,h1,h2,h3,h4,h5⟩,hk=>by
  subst h1;obtain ⟨g,D,i,p⟩:=OwnEls.setO l h b h5 (k:=k) (by simpa using hk);have e:(k+1)*R.size+off=c.length+(k*R.size+off):=by rw[h2,Nat.add_mul,Nat.one_mul];omega
  rw[e,qW];refine ⟨G++g,D,⟨c,_,G,g,rfl,h2,rfl,h4,i⟩,?_⟩;grind
theorem ED {α β:Type} {E T:TypeId} {R:Rep α} {S:Rep β} {ls:List Ch} {agg:Bool} {n k off:Nat} {f:α->β->α} {x y:Operand} {v u:Value} {xs:List α} {a:α} {b:β} {i:Int} {d:List Value} (hB:Bun I ls S d b) (ha:aU xs i=some a) (hU:UpdO R off S f) (hT:TI P T agg n) (ho:o.op= .store T x y) (hx:ev x=pt v (i.toNat*k+off)) (hy:ev y=u) (hu:u.cells=d.toArray) (h1:d.all (·.oneCell')=true) (hd:d.length=n) (hSn:S.size=n) (Z:R.size=k) (hS:off+n<=k) :
  OpT P I w0 o ev (Ch.own (ax E R) [v] xs::ls) (fun _=>True) (fun _=>[Ch.own (ax E R) [v] (xs.set i.toNat (f a b))]):=by
 intro w C hs;have X:=wz ha;have hlt:=(List.getElem?_eq_some_iff.1 X).1;obtain ⟨s,hi,F,⟨G,K,rfl,⟨hl,e2⟩,e3⟩,M,hI⟩:=hs;obtain ⟨Q,p,rfl,e4,e5⟩:=Sep.split e3;rcases e2 with ⟨hv,rfl,rfl⟩ | ⟨g,c,cap,cur,K1,hv,U,k2,k3,k4,rfl,k5⟩
 ·grind
 obtain rfl:v= .slice (some ⟨g,c,none⟩) xs.length cap:=by grind
 have W:c+(i.toNat*k+k)<=cur.size:=by
  have V:=k4;rw[Z] at V
  have:(i.toNat+1)*k<=cap*k:=Nat.mul_le_mul_right _ (by omega)
  rw[Nat.add_mul,Nat.one_mul] at this;omega
 have hln:cur.toList.length=cur.size:=Array.length_toList;have hr:=JW (P:=P) (w:=w) hT (g:=g) (o:=c+(i.toNat*k+off)) hu hd (fun j hj=>by
  simp[World.cell?,U,Option.isSome_none,Bool.false_eq_true,ite_false];grind) (fun j=>by simp[World.frozen?,U]) (fun v hv=>List.all_eq_true.1 h1 v hv)
 simp only[execOp,ho,hx,hy,pt,ptB,ptO,Sem.run_bind,hr,Result.andThen_ok];refine ⟨trivial,?_⟩;have N: ∀(d:List Value) (o:Nat) (w:World),(qy w g o d).os=w.os/\(qy w g o d).tape=w.tape/\(qy w g o d).output=w.output/\(qy w g o d).heap.size=w.heap.size/\ ∀b,b≠g->(qy w g o d).heap[b]? =w.heap[b]? :=by
  intro d;induction d with
  | nil=>intro o w;exact ⟨rfl,rfl,rfl,rfl,fun _ _=>rfl⟩
  | cons v d ih =>
   intro o w;have ⟨i1,i2,i3,i4,i5⟩:=ih (o+1) (w.setCell ⟨g,o,none⟩ v);exact ⟨i1,i2,i3,i4.trans (by simp_all),fun b m=>(i5 b m).trans (Below.heap_setCell _ _ _ _ m)⟩
 have B: ∀(d:List Value) (o:Nat) (w:World) (cur:Array Value),w.heap[g]? =some (.cells cur E (0,0))->(qy w g o d).heap[g]? =some (.cells (spl cur.toList o d).toArray E (0,0)):=by
  intro d;induction d with
  | nil=>simp_all[qy,spl]
  | cons v d ih =>
   intro o w cur h
   have:=ih (o+1) (w.setCell ⟨g,o,none⟩ v) (cur.setIfInBounds o v) (gS h)
   rw[Array.toList_setIfInBounds] at this;exact this
 have ⟨q1,q2,q3,q4,O⟩:=N d (c+(i.toNat*k+off)) w;have ⟨q,D,Y,z2⟩:=OwnEls.setO hU (hB w Q e4) (by omega) k5 X;have l:((g::q++p)++D).Perm ((g::K1)++(Q++p)):=by
  have p1:((q++p)++D).Perm ((q++D)++p):=by
   rw[aC,aC];exact List.Perm.append_left _ List.perm_append_comm
  have p2:=p1.trans (z2.append_right p);simpa using p2
 have t:=(l.nodup_iff).2 M;have A: ∀b,b∈g::q++p->b∈(g::K1)++(Q++p):=fun b m=>l.mem_iff.1 (bj _ m);have r:=(List.nodup_append.1 t).1;have z:=(List.nodup_cons.1 (show (g::(q++p)).Nodup from r)).1;refine ⟨⟨q1.trans s.1,q2.trans s.2.1,q3.trans s.2.2.1,by omega⟩,fun b o H=>?_,(g::q)++p,⟨g::q,p,rfl,⟨by grind,.inr ⟨g,c,cap,_,q,by grind,B d _ w cur U,by grind,k3,by grind[List.size_toArray,yR],rfl,?_⟩⟩,e5.stay fun b m=>O b fun e=>z (bp _ (e ▸ m))⟩,r,fun b m=>hI b (A b m)⟩
 ·show (qy w g (c+(i.toNat*k+off)) d).heap[b]? =some o;rw[O b fun e=>by grind];exact hi b o H
 ·rw[Z] at Y;rw[J4 (by omega)];exact OwnEls.stay Y fun b m=>O b fun e=>z (bj _ (e ▸ m))
def Zro {α:Type} (R:Rep α) (cs:List Value) (z:α):Prop:= ∀(I:Hp) (w:World),R.own I w cs z []
theorem AS {α:Type} {enc:α->Value} {h1: ∀a,(enc a).oneCell'=true} {x:α} :Zro (me α enc h1) [enc x] x:=fun I w=>⟨rfl,rfl⟩
theorem We {α:Type} {E:TypeId} {R:Rep α} :Zro (ax E R) [.slice none 0 0] []:=fun I w=>⟨Nat.zero_le _,.inl ⟨rfl,rfl,rfl⟩⟩
theorem Rz {α β:Type} {R:Rep α} {S:Rep β} {c d:List Value} {x:α} {y:β} (h:Zro R c x) (k:Zro S d y):Zro (tf R S) (c++d) (x,y):=fun I w=>⟨c,d,[],[],rfl,rfl,h I w,k I w⟩
theorem Wf {α:Type} {R:Rep α} {c:List Value} {x:α} (h: ∀I,R.rd I c x):Zro (yP R) c x:=fun I w=>⟨rfl,h I⟩
theorem Y4 {α:Type} {E T:TypeId} {R:Rep α} {c:Value} {n b:Nat} {x y:Operand} {l:Int} {z:α} {xs:List α} (u:Zro R c.cells.toList z) (S:P.underlying T=some (.slice E)) (Z:TZ P E c n b) (B:o.op= .makeSlice T x y) (Y:R.size=n) (hn:0<n) (O:1<=b) (X:ev x= .int .i64 l) (M:ev y= .int .i64 l) (h:mkI b l z=some xs):OpT P I w0 o ev [] (fun _=>True) (fun v=>[Ch.own (ax E R) [v] xs]):=by
 intro w C hs;unfold mkI at h;split at h
 ·rename_i t;have ⟨i,U,r,f,D⟩:=info_parts Z;have d:c.cells.size=n:=by have:=R.own_len (u I w);rw[Array.length_toList,Y] at this;exact this
  have N:=Nat.le_trans (Nat.le_mul_of_pos_right _ O) t.2;have A:=run_make (P:=P) w T E i c S U r .i64 .i64 l l t.1 (Int.le_refl _) (by grind) (by omega);rw[f] at A;simp only[execOp,B,X,M,Sem.run_bind,A,Result.andThen_ok];refine ⟨trivial,?_⟩;have k:=hs.alloc (madeCells c.cells (l.toNat*n)).toList E;obtain ⟨p,s,F,⟨G,K,rfl,⟨rfl,V⟩,q⟩,Q,H⟩:=k;refine ⟨p,s,[w.heap.size] ++K,⟨[w.heap.size],K,rfl,⟨by grind[List.length_replicate,lim],.inr ⟨w.heap.size,0,l.toNat,_,[],by grind,V,by grind,by unfold maxLen;omega,by grind[madeCells],rfl,?_⟩⟩,q⟩,Q,H⟩;have key: ∀(W:World) (m:Nat),OwnEls R I W (madeCells c.cells (m*n)).toList (List.replicate m z) []:=by
   intro W m;induction m with
   | zero=>rfl
   | succ m ih =>
    refine ⟨c.cells.toList,(madeCells c.cells (m*n)).toList,[],[],?_,by grind,rfl,u I W,ih⟩;apply List.ext_getElem?;intro j;by_cases hj:j<n
    ·grind[madeCells,Nat.mod_eq_of_lt]
    ·rw[List.getElem?_append_right (by grind),Array.length_toList,d];by_cases e:j<(m+1)*n
     ·have g:j - n<m*n:=by rw[Nat.add_mul,Nat.one_mul] at e;omega
      simp[madeCells,e,g,d,Array.getElem?_range]
      conv=>lhs;rw[show j=(j - n)+n from by omega,Nat.add_mod_right]
     ·have g: ¬j - n<m*n:=by rw[Nat.add_mul,Nat.one_mul] at e;omega
      simp[madeCells,e,g]
  grind
 grind
end
section
variable {P:Program} {I J:Hp} {w0 w w':World} {cs C:List Ch} {n:Nat} {a:Act} {L L':List (Nat×Value)} {o:Oper} {ev:Operand->Value}
theorem OwnEls.cut2 {α:Type} {R:Rep α} : ∀ {ys zs:List α} {cur:List Value} {F:List Nat},OwnEls R I w cur (ys++zs) F-> ∃b f d e,cur=b++f/\b.length=ys.length*R.size/\F=d++e/\OwnEls R I w b ys d/\OwnEls R I w f zs e
 | [],zs,cur,F,h=>⟨[],cur,[],F,rfl,by simp,rfl,rfl,h⟩
 | y::ys,zs,cur,F,⟨c,rest,G,K,h1,h2,h3,h4,h5⟩=>by
  obtain ⟨b,f,d,e,rfl,g,rfl,j,i⟩:=OwnEls.cut2 (ys:=ys) h5;exact ⟨c++b,f,G++d,e,by rw[h1,aC],by rw[az,h2,g,ay,Nat.add_mul,Nat.one_mul,Nat.add_comm],by rw[h3,aC],⟨c,b,G,d,rfl,h2,rfl,h4,j⟩,i⟩
theorem OwnEls.glue {α:Type} {R:Rep α} : ∀ {ys zs:List α} {e b:List Value} {d K2:List Nat},e.length=ys.length*R.size->OwnEls R I w e ys d->OwnEls R I w b zs K2->OwnEls R I w (e++b) (ys++zs) (d++K2)
 | [],zs,e,b,d,K2,hl,h1,h2=>by
  rw[aD,Nat.zero_mul,List.length_eq_zero_iff] at hl;rw[hl,show d= [] from h1];exact h2
 | y::ys,zs,cur,b,F,K2,hl,⟨c,rest,G,K,h1,h2,h3,h4,h5⟩,h=>by
  subst h1;subst h3;rw[az,h2,ay,Nat.add_mul,Nat.one_mul] at hl;exact ⟨c,rest++b,G,K++K2,by rw[aC],h2,by rw[aC],h4,h5.glue (by omega) h⟩
end
def Reads {κ ε:Type} [DecidableEq κ] (lit:κ->Lit) (ok:κ->Bool) (elit:ε->Lit) (z:ε) (D:DataW Unit) (M:List (κ×ε)):Prop:=
 Maps.IsMap D/\ ∀x,ok x=true->Maps.has D (lit x)=(M.lookup x).isSome/\D.atKey (lit x) (.lit (elit z))= .lit (elit ((M.lookup x).getD z))
def lkM {κ ε:Type} [DecidableEq κ] (M:List (κ×ε)) (x:κ):Option ε:=M.lookup x
structure KeyOk (P:Program) (k:TypeId) {κ:Type} [DecidableEq κ] (val:κ->Value) (lit:κ->Lit) (ok:κ->Bool):Prop where
 keyed:Maps.Keyed P k
 inj: ∀x y,val x=val y->x=y
 key: ∀x,ok x=true->keyOf P k (val x)=some (lit x)
theorem KeyOk.linj {P:Program} {k:TypeId} {κ:Type} [DecidableEq κ] {val:κ->Value} {lit:κ->Lit} {a:κ->Bool} (K:KeyOk P k val lit a) {x y:κ} (b:a x=true) (c:a y=true) (h:lit x=lit y):x=y:=
 K.inj _ _ (K.keyed.inj (K.key x b) (by rw[h];exact K.key y c))
theorem KeyOk.isKey {P:Program} {k:TypeId} {κ:Type} [DecidableEq κ] {val:κ->Value} {lit:κ->Lit} {a:κ->Bool} (K:KeyOk P k val lit a) {x:κ} (b:a x=true):WideAt.IsKeyLit (lit x):=K.keyed.key (K.key x b)
structure EltOk (P:Program) (e:TypeId) {ε:Type} (enc:ε->Value) (elit:ε->Lit) (eok:ε->Bool) (z:ε):Prop where
 plain: ∀i,eok i=true->plainElem (H:=Unit) P e (enc i)=some (.lit (elit i),[])
 inv: ∀v y ps,plainElem (H:=Unit) P e v=some (.lit (elit y),ps)->v=enc y
 zero: ∀w,(zeroValue e).run P w= .ok (enc z) w
 zok:eok z=true
def Ch.mp (P:Program) (k e:TypeId) {κ ε:Type} [DecidableEq κ] (lit:κ->Lit) (ok:κ->Bool) (elit:ε->Lit) (z:ε) (v:Value) (M:List (κ×ε)):Ch where
 holds I w F:= ∃b,v= .map (some b)/\F= [b] /\ ∃n D,w.ownsMap P k (plainElem P e) b n D/\n<=M.length/\Reads lit ok elit z D M
 mono h _:=h
 stay:=by
  rintro I w w' F ⟨b,rfl,rfl,n,D,⟨es,clock,hb,h⟩,h2⟩ hw
  exact ⟨b,rfl,rfl,n,D,⟨es,clock,by rw[hw b (by simp)];exact hb,h⟩,h2⟩
 live:=by
  rintro I w F ⟨b,rfl,rfl,n,D,h,h2⟩ b' hb
  simp at hb;subst hb;exact h.lt
def Wg (n:Int):Lit:=.int .i64 n
def iOk (n:Int):Bool:=(Lit.int .i64 n).wf
def ada (b:Bool):Lit:=.bool b
def bOk (b:Bool):Bool:=true
theorem Y5 {P:Program} {k:TypeId} (h:P.underlying k=some (.int .i64)):KeyOk P k (fun n:Int=>Value.int .i64 n) Wg iOk:=⟨Maps.int_keyed h,fun x y h=>by simpa using h,fun x a=>Maps.keyOf_int_mk h a⟩
theorem Y6 {P:Program} {e:TypeId} (h:P.underlying e=some (.int .i64)) (b: ∀w,(zeroValue e).run P w= .ok (.int .i64 0) w):EltOk P e (fun n:Int=>Value.int .i64 n) Wg iOk 0:=
 ⟨fun i c=>plainElem_int h c,fun v y d hp=>by
  obtain ⟨a,rfl,e,-⟩:=plainElem_int_inv h hp
  have:y=a:=by simpa [Wg] using congrArg Prod.fst e
  rw[this],b,by decide⟩
def abx (x:Int×Int):Lit:=.string (keyBytes [.int .i64 x.1,.int .i64 x.2])
def adb (x:Int×Int):Bool:=(Lit.int .i64 x.1).wf&&(Lit.int .i64 x.2).wf
section
variable {P:Program} {I J:Hp} {w0 w w':World} {cs C:List Ch} {n:Nat} {a:Act} {L L':List (Nat×Value)} {o:Oper} {ev:Operand->Value}
variable {κ ε:Type} [DecidableEq κ] {lit:κ->Lit} {val:κ->Value} {ok:κ->Bool} {enc:ε->Value} {elit:ε->Lit} {eok:ε->Bool} {z:ε}
theorem Nv:Reads lit ok elit z (.map []) ([] :List (κ×ε)):=⟨Maps.isMap_empty,fun x _=>⟨rfl,rfl⟩⟩
theorem Reads.put {k:TypeId} (K:KeyOk P k val lit ok) {D:DataW Unit} {M:List (κ×ε)} (h:Reads lit ok elit z D M) (x:κ) (d:ok x=true) (i:ε):Reads lit ok elit z (D.put (lit x) (.lit (elit i))) ((x,i)::M):=by
 refine ⟨h.1.put _ _,fun y c=>?_⟩;by_cases e:y=x
 ·subst e;rw[List.lookup_cons_self];exact ⟨Maps.has_put_same h.1 (K.isKey c) _,Maps.atKey_put_same h.1 (K.isKey c) _ _⟩
 ·have b:lit y≠lit x:=fun h=>e (K.linj c d h);rw[List.lookup_cons,show (y==x)=false from by simp[e]];exact ⟨by rw[Maps.has_put_other b];exact (h.2 y c).1,by rw[Maps.atKey_put_other b];exact (h.2 y c).2⟩
theorem Iw {t k e:TypeId} (h:o.op= .makeMap t none):OpT P I w0 o ev [] (fun _=>True) (fun v=>[Ch.mp P k e lit ok elit z v []]):=by
 intro w C g;have f:(execOp ev o).run P w= .ok (.value (.map (some w.heap.size))) (w.alloc (.map #[] 0)):=by
  simp only[execOp,h];rfl
 rw[f];refine ⟨trivial,?_⟩;refine St.step (w:=w) (c:=[]) (c':=[Ch.mp P k e lit ok elit z (.map (some w.heap.size)) []]) (w':=w.alloc (.map #[] 0)) g rfl rfl rfl (by simp) ?_;rintro F rfl - -;refine ⟨fun b d _=>?_,[w.heap.size],⟨[w.heap.size],[],rfl,⟨_,rfl,rfl,0,.map [],World.ownsMap_made _ _ _ _,aF _,Nv⟩,rfl⟩,by simp,by simp⟩;show (w.heap.push _)[b]? =_;rw[Array.getElem?_push_lt d,Array.getElem?_eq_getElem d]
def Rg (M:List (κ×ε)) (ok:κ->Bool) (eok:ε->Bool) (x:κ) (i:ε):Option (List (κ×ε)):=if M.length<9223372036854775807/\ok x=true/\eok i=true then some ((x,i)::M) else none
theorem LS {t k e:TypeId} {m x y:Operand} {v:Value} {q:κ} {i:ε} {M S:List (κ×ε)} (K:KeyOk P k val lit ok) (E:EltOk P e enc elit eok z) (W:P.underlying t=some (.map k e))
  (j:o.op= .mapUpdate t m x y\/o.op= .insert t m x y) (N:ev m=v) (R:ev x=val q) (B:ev y=enc i) (h:Rg M ok eok q i=some S) :
  OpT P I w0 o ev [Ch.mp P k e lit ok elit z v M] (fun _=>True) (fun _=>[Ch.mp P k e lit ok elit z v S]):=by
 unfold Rg at h;split at h
 case isFalse=>cases h
 rename_i s;obtain rfl:=ae h;intro w C hs;obtain ⟨p,T,F,⟨G,A,rfl,⟨b,rfl,rfl,n,D,l,U,Z⟩,Q⟩,H,O⟩:=hs;obtain ⟨w',d,V,f⟩:=l.update K.keyed W (by unfold maxLen;omega) (K.key q s.2.1) (E.plain i s.2.2);have X:b∉A:=by simpa using (List.nodup_cons.1 H).1
 have Y:(execOp ev o).run P w= .ok .skip w':=by
  rcases j with j | j
  ·simp only[execOp,j,N,R,B,Sem.run_bind,d,Result.andThen_ok];rfl
  ·simp only[execOp,j,N,R,B,Sem.run_bind,d,Result.andThen_ok];rfl
 rw[Y];refine ⟨trivial,⟨f.os.trans p.1,f.tape.trans p.2.1,f.output.trans p.2.2.1,Nat.le_trans p.2.2.2 f.size⟩,fun c o g=>?_,[b] ++A,⟨[b],A,rfl,⟨b,rfl,rfl,n+1,_,V,by simpa using U,Z.put K q s.2.1 i⟩,Q.stay fun c g=>?_⟩,H,O⟩
 ·have r:c≠b:=fun e=>by rw[e,O b (by simp)] at g;cases g
  have:=T c o g
  have u:c<w.heap.size:=(Array.getElem?_eq_some_iff.1 this).1;show w'.heap[c]? =some o;rw[f.block c u (fun e=>r (ae e))];exact this
 ·exact f.block c (Q.live c g) (fun e=>X (ae e ▸ g))
theorem RA {t k e:TypeId} {b n:Nat} {D:DataW Unit} {q:κ} {M:List (κ×ε)} (K:KeyOk P k val lit ok) (E:EltOk P e enc elit eok z) (h:P.underlying t=some (.map k e)) (g:ok q=true) (c:w.ownsMap P k (plainElem P e) b n D) (j:Reads lit ok elit z D M) :
  (Instr.lookup t (.map (some b)) (val q) true).run P w= .ok (.tuple #[enc ((M.lookup q).getD z),.bool (M.lookup q).isSome]) w:=by
 obtain ⟨u,m,d,f⟩:=c.look_ok K.keyed h (E.zero w) (E.plain z E.zok) (K.key q g);obtain ⟨i,l⟩:=j.2 q g;rw[l] at f;obtain rfl:=E.inv _ _ _ f;rw[d,i]
theorem Ix {t k e:TypeId} {m x:Operand} {v:Value} {q:κ} {M:List (κ×ε)} (K:KeyOk P k val lit ok) (E:EltOk P e enc elit eok z) (s:ok q=true) (i:P.underlying t=some (.map k e))
  (h:o.op= .lookup t m x true) (j:ev m=v) (l:ev x=val q) :
  OpT P I w0 o ev [Ch.mp P k e lit ok elit z v M] (· = .tuple #[enc ((M.lookup q).getD z),.bool (M.lookup q).isSome]) (fun _=>[Ch.mp P k e lit ok elit z v M]):=by
 intro w C g;have f:=g;obtain ⟨O,u,F,⟨G,N,rfl,⟨b,rfl,rfl,n,D,c,A,r⟩,H⟩,y,B⟩:=g;have d:=RA K E i s c r;have p:(execOp ev o).run P w= .ok (.value (.tuple #[enc ((M.lookup q).getD z),.bool (M.lookup q).isSome])) w:=by
  simp only[execOp,h,j,l,Sem.run_bind,d,Result.andThen_ok];rfl
 rw[p];exact ⟨rfl,f⟩
theorem GB {t k e:TypeId} {m x:Operand} {v:Value} {q:κ} {M:List (κ×ε)} (K:KeyOk P k val lit ok) (E:EltOk P e enc elit eok z) (i:ok q=true) (l:P.underlying t=some (.map k e))
  (j:o.op= .lookup t m x false) (p:ev m=v) (r:ev x=val q) :
  OpT P I w0 o ev [Ch.mp P k e lit ok elit z v M] (· =enc ((M.lookup q).getD z)) (fun _=>[Ch.mp P k e lit ok elit z v M]):=by
 intro w C h;have f:=h;obtain ⟨U,B,F,⟨G,T,rfl,⟨b,rfl,rfl,n,D,c,N,y⟩,S⟩,H,R⟩:=h;obtain ⟨u,O,d,g⟩:=c.lookup K.keyed l (E.zero w) (E.plain z E.zok) (K.key q i);obtain ⟨Q,A⟩:=y.2 q i;rw[A] at g;obtain rfl:=E.inv _ _ _ g;have s:(execOp ev o).run P w= .ok (.value (enc ((M.lookup q).getD z))) w:=by
  simp only[execOp,j,p,r,Sem.run_bind,d,Result.andThen_ok];rfl
 rw[s];exact ⟨rfl,f⟩
end
section
variable {P:Program} {I J:Hp} {w0 w w':World} {o:Oper} {ev:Operand->Value}
theorem Wh {x y:Operand} {t u:TypeId} {m n:Int} (b:o.op= .binOp .add t x y u) (a:ev x= .int .u64 m) (c:ev y= .int .u64 n):OpT P I w0 o ev [] (· = .int .u64 (IntKind.u64.wrap (m+n))) (fun _=>[]):=
 bB fun w=>by simp only[execOp,b,a,c];rfl
theorem Wi {x y:Operand} {t u:TypeId} {m n:Int} (b:o.op= .binOp .sub t x y u) (a:ev x= .int .u64 m) (c:ev y= .int .u64 n):OpT P I w0 o ev [] (· = .int .u64 (IntKind.u64.wrap (m - n))) (fun _=>[]):=
 bB fun w=>by simp only[execOp,b,a,c];rfl
theorem Wj {x y:Operand} {t u:TypeId} {m n:Int} (b:o.op= .binOp .mul t x y u) (a:ev x= .int .u64 m) (c:ev y= .int .u64 n):OpT P I w0 o ev [] (· = .int .u64 (IntKind.u64.wrap (m*n))) (fun _=>[]):=
 bB fun w=>by simp only[execOp,b,a,c];rfl
def Rh (m n:Int):Int:=bits .and .u64 m n
theorem Wk {x y:Operand} {t u:TypeId} {m n:Int} (b:o.op= .binOp .and t x y u) (a:ev x= .int .u64 m) (c:ev y= .int .u64 n):OpT P I w0 o ev [] (· = .int .u64 (Rh m n)) (fun _=>[]):=
 bB fun w=>by simp only[execOp,b,a,c];rfl
theorem Wl {x y:Operand} {t u:TypeId} {m n:Int} (b:o.op= .binOp .shr t x y u) (a:ev x= .int .u64 m) (c:ev y= .int .u64 n) (d:0<=n):OpT P I w0 o ev [] (· = .int .u64 (pU m n)) (fun _=>[]):=
 bB fun w=>by simp[execOp,b,a,c,eqGuard,binOp,Op.shift,show¬n<0 from by omega,Result.andThen,pU,IntKind.bits]
theorem GC {x:Operand} {s d:TypeId} {k a:IntKind} {m:Int} (hs:P.underlying s=some (.int k)) (c:P.underlying d=some (.int a)) (e:o.op= .convert s d x) (b:ev x= .int k m):OpT P I w0 o ev [] (· = .int a (a.wrap m)) (fun _=>[]):=
 bB fun w=>by simp[execOp,e,b,convert,Conv.intToInt,run_underlying hs,run_underlying c,Result.andThen]
end
def sI (v:Value) (l h s:Nat):Value:=match v with
 | .slice a _ c=>sliced a l h c s
 | _=>v
section
variable {P:Program} {I J:Hp} {w0 w w':World} {o:Oper} {ev:Operand->Value}
theorem TI.size {T:TypeId} {agg:Bool} {n:Nat} (h:TI P T agg n) (w:World):(sizeOf T).run P w= .ok n w:=by
 obtain ⟨-,a⟩:=h;cases b:P.info? T with
 | none=>grind
 | some i=>simp_all[Program.cellsOf,sizeOf,typeInfo]
theorem wB {t e:TypeId} {x y:Operand} {v:Value} {len n:Nat} {l:Int} {agg:Bool} (b:P.underlying t=some (.slice e)) (k:TI P e agg n) (hv:Hd v len) (f:o.op= .slice t x (some y) none none) (j:ev x=v) (g:ev y= .int .i64 l) (h:0<=l/\l<=len) :
  OpT P I w0 o ev [] (· =sI v l.toNat len n) (fun _=>[]):=by
 obtain ⟨i,cap,rfl,-⟩:=hv;have c:P.elem t=e:=by simp[Program.elem,b]
 have a:P.underlying t=some (.slice (P.elem t)):=by rw[c];exact b
 refine bB fun w=>?_;have d:=TI.size k w;rw[<-c] at d;simp[execOp,f,j,Option.map_some,Option.map_none,g,Sem.run_bind,run_sliceAt_slice w t _ _ _ _ a,run_slice_l w t i len cap a .i64 l h.1 h.2,d,Result.andThen_ok]
 rfl
theorem wC {t e:TypeId} {x y:Operand} {v:Value} {len n:Nat} {l:Int} {agg:Bool} (b:P.underlying t=some (.slice e)) (k:TI P e agg n) (hv:Hd v len) (f:o.op= .slice t x none (some y) none) (j:ev x=v) (g:ev y= .int .i64 l) (h:0<=l/\l<=len) :
  OpT P I w0 o ev [] (· =sI v 0 l.toNat n) (fun _=>[]):=by
 obtain ⟨i,cap,rfl,-,m⟩:=hv;have c:P.elem t=e:=by simp[Program.elem,b]
 have a:P.underlying t=some (.slice (P.elem t)):=by rw[c];exact b
 refine bB fun w=>?_;have d:=TI.size k w;rw[<-c] at d;simp[execOp,f,j,Option.map_some,Option.map_none,g,Sem.run_bind,run_sliceAt_slice w t _ _ _ _ a,run_slice_h w t i len cap a .i64 l h.1 (by omega),d,Result.andThen_ok]
 rfl
theorem GD {t e:TypeId} {x y z:Operand} {v:Value} {len n:Nat} {l h:Int} {agg:Bool} (c:P.underlying t=some (.slice e)) (p:TI P e agg n) (hv:Hd v len) (g:o.op= .slice t x (some y) (some z) none) (m:ev x=v) (i:ev y= .int .i64 l) (j:ev z= .int .i64 h) (b:0<=l/\l<=h/\h<=len) :
  OpT P I w0 o ev [] (· =sI v l.toNat h.toNat n) (fun _=>[]):=by
 obtain ⟨k,cap,rfl,-,q⟩:=hv;have d:P.elem t=e:=by simp[Program.elem,c]
 have a:P.underlying t=some (.slice (P.elem t)):=by rw[d];exact c
 refine bB fun w=>?_;have f:=TI.size p w;rw[<-d] at f;simp[execOp,g,m,Option.map_some,Option.map_none,i,j,Sem.run_bind,run_sliceAt_slice w t _ _ _ _ a,run_slice_lh w t k len cap a .i64 .i64 l h b.1 b.2.1 (by omega),f,Result.andThen_ok]
 rfl
theorem J6 {α:Type} {E:TypeId} {R:Rep α} {v:Value} {xs:List α} {l h n:Nat} (q:(ax E R).rd I [v] xs) (h1:l<=h) (r:h<=xs.length) (s:R.size=n):(ax E R).rd I [sI v l h n] ((xs.take h).drop l):=by
 have ⟨g,cap,hv,⟨m,p⟩,e⟩:=q;obtain rfl:v= .slice g xs.length cap:=by grind
 have d:((xs.take h).drop l).length=h - l:=by rw[a7,aq];omega
 by_cases c:h=l
 ·subst c;have c:(xs.take h).drop h= []:=List.eq_nil_of_length_eq_zero (by omega);rw[c];exact ⟨_,_,by simp only[sI,sliced];rw[Nat.sub_self];rfl,⟨Nat.zero_le _,Nat.zero_le _⟩,.inl rfl⟩
 ·rcases e with rfl | ⟨b,off,a,t,f,rfl,k,j⟩
  ·grind
  ·refine ⟨some ⟨b,off+l*n,none⟩,cap - l,?_,⟨by omega,by omega⟩,.inr ⟨b,off+l*n,a,t,f,rfl,k,fun i x e=>?_⟩⟩
   ·grind[sI,sliced,Addr.add_mid]
   grind
theorem J7 {α:Type} {E:TypeId} {R:Rep α} {v:Value} {xs:List α} {l n:Nat} (a:(ax E R).rd I [v] xs) (h1:l<=xs.length) (b:R.size=n):(ax E R).rd I [sI v l xs.length n] (xs.drop l):=by
 have:=J6 a h1 (aF _) b
 grind
theorem RB {α:Type} {E:TypeId} {R:Rep α} {v:Value} {xs:List α} {h n:Nat} (a:(ax E R).rd I [v] xs) (h1:h<=xs.length) (b:R.size=n):(ax E R).rd I [sI v 0 h n] (xs.take h):=by
 have:=J6 a (Nat.zero_le h) h1 b
 grind
theorem lF {α:Type} {enc:α->Value} {h1: ∀a,(enc a).oneCell'=true} : ∀ {xs:List α} {cur:List Value} {K:List Nat},OwnEls (me α enc h1) I w cur xs K↔K= [] /\ ∃rest,cur=xs.map enc++rest
 | [],cur,K=>⟨fun h=>⟨h,cur,rfl⟩,fun h=>h.1⟩
 | x::xs,cur,K=>by
  constructor
  ·rintro ⟨c,rest,G,d,rfl,-,rfl,⟨rfl,rfl⟩,b⟩;obtain ⟨rfl,r,rfl⟩:=lF.1 b;simp_all
  ·rintro ⟨rfl,r,rfl⟩;exact ⟨[enc x],xs.map enc++r,[],[],rfl,rfl,rfl,⟨rfl,rfl⟩,lF.2 ⟨rfl,r,rfl⟩⟩
def Gq {α:Type} (xs:List α) (lo:Nat) (ys:List α):List α:=xs.take lo++(ys.take (xs.length - lo)++xs.drop (lo+min ys.length (xs.length - lo)))
def Src (w:World) (u:Value) (cs:List Value):Prop:= ∃ao cap,u= .slice ao cs.length cap/\(cs= [] \/ ∃a,ao=some a/\ ∀j v,cs[j]? =some v->w.cell? (a.add j)=some v)
theorem Src.take {u:Value} {cs:List Value} (h:Src w u cs) (n:Nat):n<=cs.length-> ∃b cap,u= .slice b cs.length cap/\(cs.take n= [] \/ ∃a,b=some a/\ ∀j v,(cs.take n)[j]? =some v->w.cell? (a.add j)=some v):=by
 have ⟨b,cap,d,c⟩:=h;grind
theorem Src.of_rd {α:Type} {E:TypeId} {enc:α->Value} {h1: ∀a,(enc a).oneCell'=true} {u:Value} {ys:List α} {f:List Ch} (hs:St I w0 w f) (h:(ax E (me α enc h1)).rd I [u] ys):Src w u (ys.map enc):=by
 obtain ⟨g,cap,p,-,h⟩:=h;obtain rfl:u= .slice g ys.length cap:=by grind
 refine ⟨g,cap,by simp,?_⟩;rcases h with rfl | ⟨b,off,d,t,i,rfl,l,e⟩
 ·grind
 ·refine .inr ⟨_,rfl,fun j v n=>?_⟩;cases k:ys[j]? with
  | none=>grind
  | some y =>
   have ⟨c,q,r,m⟩:=e j y k;obtain rfl:c= [enc y]:=m;have s:w.heap[b]? =some (.cells d t i):=hs.2.1 b _ l;simp_all[me,Nat.mul_one,Nat.add_zero,List.getElem?_cons_zero,Option.map_some,Option.some.injEq,Addr.add_mid,World.cell?]
theorem GE {dT sT ty elem:TypeId} {g o dLen dCap sLen sCap:Nat} {ao:Option Addr} {cur:Array Value} {t:TypeId} {cs:List Value}
  (d:P.underlying dT=some (.slice elem)) (hs:(P.info? elem).map (·.size)=some 1)
  (p:w.heap[g]? =some (.cells cur t (0,0))) (m:cs.length=Nat.min sLen dLen)
  (b:cs= [] \/ ∃a,ao=some a/\ ∀j v,cs[j]? =some v->w.cell? (a.add j)=some v) (k:o+cs.length<=cur.size) (h1: ∀v∈cs,v.oneCell'=true) :
  (Builtin.copy_ #[dT,sT] ty #[.slice (some ⟨g,o,none⟩) dLen dCap,.slice ao sLen sCap]).run P w =
   .ok (goInt cs.length) (w.setRow g (cur.toList.take o++cs++cur.toList.drop (o+cs.length)).toArray):=by
 rcases b with rfl | ⟨a,rfl,h⟩
 ·have f:=m.symm;have e:(w.setRow g (cur.toList.take o++ [] ++cur.toList.drop (o+([] :List Value).length)).toArray)=w:=by
   have:(cur.toList.take o++ [] ++cur.toList.drop (o+([] :List Value).length)).toArray=cur:=by simp
   rw[this];exact setRow_self w g cur t (0,0) p
  rw[e];cases c:P.info? elem with
  | none=>grind
  | some i =>
   have l:i.size=1:=by simpa [c] using hs
   cases ao with
   | none=>simp[Builtin.copy_,run_underlying d,Builtin.lenOf,Builtin.firstCells,sizeOf,typeInfo,c,l,f,storeCells]
   | some a =>
    have n:(loadCells a 0).run P w= .ok #[] w:=run_loadCells_list (P:=P) w a [] (by simp);simp[Builtin.copy_,run_underlying d,Builtin.lenOf,Builtin.firstCells,sizeOf,typeInfo,c,l,f,storeCells,n]
 grind[run_copy_row]
theorem zY {α:Type} {E dT sT:TypeId} {enc:α->Value} {h1: ∀a,(enc a).oneCell'=true} {x y:Operand} {v r u:Value} {xs ys:List α} {lo:Nat} (hT:P.underlying dT=some (.slice E)) (hE:(P.info? E).map (·.size)=some 1)
  (O:o.op= .call { callee:=.builtin .copy,args:= #[x,y],argTypes:= #[dT,sT] }) (Z:ev x=r) (hy:ev y=u) (hlo:lo<=xs.length) (hd:(r=v/\lo=0)\/r=sI v lo xs.length 1)
  (z: ∀w C,St I w0 w (Ch.own (ax E (me α enc h1)) [v] xs::C)->Src w u (ys.map enc)) :
  OpT P I w0 o ev [Ch.own (ax E (me α enc h1)) [v] xs] (· = .int .i64 (min ys.length (xs.length - lo):Nat)) (fun _=>[Ch.own (ax E (me α enc h1)) [v] (Gq xs lo ys)]):=by
 intro w C hs;obtain ⟨ao,f,rfl,hc⟩:=z w C hs;have hk:min ys.length (xs.length - lo)<=(ys.map enc).length:=by simp;omega
 have p:=Src.take ⟨ao,f,rfl,hc⟩ _ hk;have ⟨R,n,e0,p⟩:=p;obtain ⟨rfl,rfl⟩:ao=R/\f=n:=by grind
 simp only[execOp,O,Z,hy,resolve,Sem.run_bind,Sem.run_pure,Result.andThen_ok,invoke,builtin];have q:(#[x,y] :Array Operand).map ev= #[r,.slice ao (ys.map enc).length f]:=by simp[Z,hy]
 rw[q];obtain ⟨M,U,F,⟨G,K,rfl,⟨hl,e2⟩,e3⟩,h4,h5⟩:=hs;have A:(Gq xs lo ys).length=xs.length:=by
  simp[Gq,az,aq,a7];omega
 rcases e2 with ⟨hv,rfl,rfl⟩ | ⟨g,d,cap,cur,K1,hv,T,k2,k3,k4,rfl,X⟩
 ·
  obtain rfl:v= .slice none 0 0:=by grind
  obtain rfl:lo=0:=by grind
  have m:r= .slice none 0 0:=by
   rcases hd with ⟨rfl,-⟩ | rfl
   ·rfl
   ·rfl
  subst m;have N:(Builtin.copy_ #[dT,sT] o.type #[.slice none 0 0,.slice ao (ys.map enc).length f]).run P w= .ok (goInt 0) w:=by
   cases hq:P.info? E with
   | none=>grind
   | some i =>
    have U:i.size=1:=by simpa [hq] using hE
    cases ao with
    | none=>simp_all[Builtin.copy_,run_underlying,Builtin.lenOf,Builtin.firstCells,sizeOf,typeInfo,storeCells]
    | some a =>
     have h0:=run_loadCells_list (P:=P) w a [] (by simp);simp_all[Builtin.copy_,run_underlying,Builtin.lenOf,Builtin.firstCells,sizeOf,typeInfo,storeCells]
  rw[N];refine ⟨by simp[goInt],M,U,[] ++K,⟨[],K,rfl,⟨?_,.inl ⟨rfl,?_,rfl⟩⟩,e3⟩,h4,h5⟩
  ·omega
  grind
 ·obtain rfl:v= .slice (some ⟨g,d,none⟩) xs.length cap:=by grind
  have W:d+cap<=cur.size:=by have:d+cap*1<=cur.size:=k4;omega
  obtain ⟨rfl,rest,l⟩:=lF.1 X;have Q:(cur.toList.drop d).length=cur.size - d:=by grind
  have D:(cur.toList.take d).length=d:=by rw[aq,Array.length_toList];omega
  have m: ∃h dCap,r= .slice (some ⟨g,d+h,none⟩) (xs.length - lo) dCap/\(h=lo\/(xs.length - lo=0/\h<=cap)):=by
   rcases hd with ⟨rfl,rfl⟩ | rfl
   ·grind
   ·by_cases hcl:cap=lo
    ·simp_all[sI,sliced]
    grind[sI,sliced,Addr.add_mid]
  obtain ⟨h,dCap,rfl,ho'⟩:=m;have hm:((ys.map enc).take (min ys.length (xs.length - lo))).length=min ys.length (xs.length - lo):=by
   rw[aq,List.length_map];omega
  have N:=GE (P:=P) (w:=w) (dT:=dT) (sT:=sT) (ty:=o.type) (elem:=E) (g:=g) (o:=d+h) (dLen:=xs.length - lo) (dCap:=dCap) (sLen:=(ys.map enc).length) (sCap:=f) (ao:=ao) (cur:=cur) (t:=E) (cs:=(ys.map enc).take (min ys.length (xs.length - lo))) hT hE T
   (by grind) p (by omega) (fun v hv=>by
    grind)
  rw[N,hm];have j:(cur.toList.drop d).take h++(ys.map enc).take (min ys.length (xs.length - lo))++(cur.toList.drop d).drop (h+min ys.length (xs.length - lo))=(Gq xs lo ys).map enc++rest:=by
   by_cases Y:min ys.length (xs.length - lo)=0
   ·rw[Y];have e:Gq xs lo ys=xs:=by
     unfold Gq
     have:ys.take (xs.length - lo)= []:=List.eq_nil_of_length_eq_zero (by grind)
     rw[this,Y,List.nil_append,Nat.add_zero,List.take_append_drop]
    simp_all
   ·have O:h=lo:=by omega
    subst O;rw[l,List.take_append_of_le_length (by grind),List.drop_append_of_le_length (by grind)];grind[Gq,List.map_take,List.map_drop,aC,List.take_eq_take_iff,List.length_map]
  have k:cur.toList.take (d+h)++(ys.map enc).take (min ys.length (xs.length - lo))++cur.toList.drop (d+h+min ys.length (xs.length - lo))=cur.toList.take d++((Gq xs lo ys).map enc++rest):=by
   rw[<-j,List.take_add,Nat.add_assoc,show cur.toList.drop (d+(h+min ys.length (xs.length - lo)))=(cur.toList.drop d).drop (h+min ys.length (xs.length - lo)) from by rw[List.drop_drop]];simp[aC]
  rw[k];have hsz:(cur.toList.take d++((Gq xs lo ys).map enc++rest)).length=cur.size:=by
   have:=congrArg List.length l
   rw[az,List.length_map] at this;rw[az,D,az,List.length_map,A];omega
  have L:St I w0 w (Ch.own (ax E (me α enc h1)) [.slice (some ⟨g,d,none⟩) xs.length cap] xs::C):=⟨M,U,[g] ++K,⟨[g],K,rfl,⟨hl,.inr ⟨g,d,cap,cur,[],rfl,T,k2,k3,k4,rfl,X⟩⟩,e3⟩,h4,h5⟩
  have:=St.step (w:=w) (c:=[Ch.own (ax E (me α enc h1)) [.slice (some ⟨g,d,none⟩) xs.length cap] xs]) (c':=[Ch.own (ax E (me α enc h1)) [.slice (some ⟨g,d,none⟩) xs.length cap] (Gq xs lo ys)]) (w':=w.setRow g (cur.toList.take d++((Gq xs lo ys).map enc++rest)).toArray) L rfl rfl rfl (by simp_all) (by
   rintro F ⟨G2,K2,rfl,⟨hl',V⟩,rfl⟩ - -;rcases V with ⟨H,-,-⟩ | ⟨g',B,s,cur',K1',H,k1',k2',k3',W,rfl,S⟩
   ·grind
   obtain ⟨⟨rfl,rfl⟩,rfl⟩:(g=g'/\d=B)/\cap=s:=by grind
   obtain ⟨rfl,-⟩:=lF.1 S;refine ⟨fun b M hn=>?_,[g],⟨[g],[],rfl,⟨by omega,.inr ⟨g,d,cap,(cur.toList.take d++((Gq xs lo ys).map enc++rest)).toArray,[],by rw[A],setRow_heap w g cur _ E _ T,by omega,k3,?_,rfl,lF.2 ⟨rfl,rest,List.drop_left' D⟩⟩⟩,rfl⟩,by simp,by simp⟩
   ·grind[World.setRow]
   grind)
  exact ⟨rfl,this⟩
theorem Iy {α:Type} {E E' dT sT:TypeId} {enc:α->Value} {h1: ∀a,(enc a).oneCell'=true} {x y:Operand} {v b u:Value} {xs ys:List α} {lo:Nat} (i:(ax E' (me α enc h1)).rd I [u] ys) (g:P.underlying dT=some (.slice E)) (j:(P.info? E).map (·.size)=some 1)
  (d:o.op= .call { callee:=.builtin .copy,args:= #[x,y],argTypes:= #[dT,sT] }) (h:ev x=b) (f:ev y=u) (c:lo<=xs.length) (e:(b=v/\lo=0)\/b=sI v lo xs.length 1) :
  OpT P I w0 o ev [Ch.own (ax E (me α enc h1)) [v] xs] (· = .int .i64 (min ys.length (xs.length - lo):Nat)) (fun _=>[Ch.own (ax E (me α enc h1)) [v] (Gq xs lo ys)]):=
 zY g j d h f c e fun w C k=>Src.of_rd k i
theorem EE {α:Type} {E dT sT:TypeId} {enc:α->Value} {h1: ∀a,(enc a).oneCell'=true} {x y:Operand} {v c:Value} {xs:List α} {lo hi:Nat} (n:P.underlying dT=some (.slice E)) (s:(P.info? E).map (·.size)=some 1)
  (f:o.op= .call { callee:=.builtin .copy,args:= #[x,y],argTypes:= #[dT,sT] }) (r:ev x=c) (i:ev y=sI v 0 hi 1) (d:lo<=xs.length) (p:hi<=xs.length) (h:(c=v/\lo=0)\/c=sI v lo xs.length 1) :
  OpT P I w0 o ev [Ch.own (ax E (me α enc h1)) [v] xs] (· = .int .i64 (min (xs.take hi).length (xs.length - lo):Nat)) (fun _=>[Ch.own (ax E (me α enc h1)) [v] (Gq xs lo (xs.take hi))]):=by
 refine zY n s f r i d h fun w C t=>?_;obtain ⟨N,l,F,⟨G,K,rfl,⟨M,q⟩,B⟩,D,Q⟩:=t;rcases q with ⟨hv,rfl,rfl⟩ | ⟨g,e,cap,cur,L,hv,m,O,H,A,rfl,k⟩
 ·obtain rfl:v= .slice none 0 0:=by grind
  obtain rfl:hi=0:=by grind
  exact ⟨none,0,rfl,.inl (by simp)⟩
 ·obtain ⟨rfl,rest,b⟩:=lF.1 k;refine ⟨some ⟨g,e,none⟩,cap,by grind[sI,sliced,Addr.add_mid],.inr ⟨_,rfl,fun j u z=>?_⟩⟩;simp[Addr.add_mid,World.cell?,m];rw[<-Array.getElem?_toList,<-List.getElem?_drop,b];grind
section
variable {n:Nat} {a:Act} {L:List (Nat×Value)} {Q:Exit->Act->World->Prop} {ops:Array Oper} {rest:List Oper} {C C0 rn_:List Ch} {v:Value} {g d:Nat} {want b:Bool} {fact:Value->Prop} {gv:Value->List Ch}
theorem rn {l:List Oper} (c:Agr n a L) (hs:St I w0 w C) (k: ∀a w,Agr n a L->St I w0 w C->wpList P ops Q l a w):wpList P ops Q l a w:=k a w c hs
theorem sv (c:OpT P I w0 o (evL L) [] (· =v) (fun _=>[])) (j:o.guard=none) (f:(xj L o&&dstOk n o.dst&&noSelect o)=true)
  (k: ∀a w,Agr n a (Nc o.dst v L)->St I w0 w C->wpList P ops Q rest a w): ∀a w,Agr n a L->St I w0 w C->wpList P ops Q (o::rest) a w:=
 fun a w i h=>Wc i h c j f fun u a w e A S=>k a w (e ▸ A) S
end
theorem Y7 {T:TypeId} {agg:Bool} (h:TI P T agg 1):(P.info? T).map (·.size)=some 1:=h.2
end
def fV:Nat:=(cast (congrArg (fun p:Prop=> {n:Nat // p}) (propext ⟨fun _=>rfl,fun _=>trivial⟩:True=((0:Nat)=0))) (⟨aW,trivial⟩: {n:Nat // True}): {n:Nat // (0:Nat)=0}).1
theorem RC:fV=aW:=by
 have key: ∀(p q:Prop) (h:p=q) (x: {n:Nat // p}),(cast (congrArg (fun p:Prop=> {n:Nat // p}) h) x).1=x.1:=by
  intro p q h x;subst h
  rfl
 exact key True ((0:Nat)=0) (propext ⟨fun _=>rfl,fun _=>trivial⟩) ⟨aW,trivial⟩
inductive Tr (α:Type)
 | nil
 | node (a:α) (kids:List (Tr α))
def Tr.get {α:Type} :Tr α->Option (α×List (Tr α))
 | .nil=>none
 | .node a ks=>some (a,ks)
def Tr.isNil {α:Type} :Tr α->Bool
 | .nil=>true
 | .node _ _=>false
def Kids (I:Hp) (v:Value) (n:Nat) (cc:Nat->Value):Prop:= ∃ao cap,v= .slice ao n cap/\(n<=lim/\n<=cap)/\(n=0\/ ∃g off ccs t fr,ao=some ⟨g,off,none⟩/\I g=some (.cells ccs t fr)/\ ∀i,i<n->ccs.toList[off+i]? =some (cc i))
theorem Kids.mono {I J:Hp} {v:Value} {n:Nat} {cc:Nat->Value} (h:Kids I v n cc) (e:I.le J):Kids J v n cc:=by
 obtain ⟨i,cap,l,c,b⟩:=h;refine ⟨i,cap,l,c,?_⟩;rcases b with b | ⟨g,off,a,t,d,f,j,k⟩
 ·exact .inl b
 ·exact .inr ⟨g,off,a,t,d,f,e _ _ j,k⟩
inductive TreeRd {α:Type} (T:TypeId) (R:Rep α) (I:Hp):Value->Tr α->Prop
 | nil:TreeRd T R I (.pointer none) .nil
 | node {b:Nat} {c:List Value} {v:Value} {a:α} {ks:List (Tr α)} {cc:Nat->Value} (hb:I b=some (.cells (c++ [v]).toArray T (0,0))) (ha:R.rd I c a) (hv:Kids I v ks.length cc)
   (hk: ∀i x,ks[i]? =some x->TreeRd T R I (cc i) x):TreeRd T R I (.pointer (some ⟨b,0,none⟩)) (.node a ks)
section
variable {α:Type} {T E:TypeId} {R:Rep α} {I J:Hp} {w w':World} {v:Value} {x:Tr α} {F:List Nat}
theorem TreeRd.mono (h:TreeRd T R I v x) (a:I.le J):TreeRd T R J v x:=by
 induction h with
 | nil=>exact .nil
 | node hb ha hv hk ih=>exact .node (a _ _ hb) (R.rd_mono ha a) (hv.mono a) ih
theorem TreeRd.one (h:TreeRd T R I v x):v.oneCell'=true:=by cases h <;> rfl
def ov (I:Hp) (w:World) (F:List Nat):Hp:=fun b=>if b∈F then w.heap[b]? else I b
theorem Y8:ov I w [] =I:=funext fun b=>if_neg (by simp)
theorem Wm (h:I.le J):(ov I w F).le (ov J w F):=fun b o a=>by
 unfold ov at a⊢;split at a
 ·rw[if_pos ‹_›];exact a
 ·rw[if_neg ‹_›];exact h b o a
theorem Wn (h: ∀b,b∈F->w'.heap[b]? =w.heap[b]?):ov I w' F=ov I w F:=funext fun b=>by
 unfold ov;split
 ·exact h b ‹_›
 ·rfl
def xq (T:TypeId) (R:Rep α):Rep (Tr α) where
 size:=1
 rd I cs x:= ∃v,cs= [v] /\TreeRd T R I v x
 own I w cs x F:=(∀b,b∈F->b<w.heap.size)/\ ∃v,cs= [v] /\TreeRd T R (ov I w F) v x
 rd_len:=by rintro I cs x ⟨v,rfl,_⟩;rfl
 rd_one:=by rintro I cs x ⟨v,rfl,h⟩ u hu;obtain rfl:=ak hu;exact h.one
 rd_mono:=by rintro I J cs x ⟨v,rfl,h⟩ hJ;exact ⟨v,rfl,h.mono hJ⟩
 own_len:=by rintro I w cs x F ⟨_,v,rfl,_⟩;rfl
 own_one:=by rintro I w cs x F ⟨_,v,rfl,h⟩ u hu;obtain rfl:=ak hu;exact h.one
 own_mono:=by rintro I J w cs x F ⟨h0,v,rfl,h⟩ hJ;exact ⟨h0,v,rfl,h.mono (Wm hJ)⟩
 own_stay:=by
  rintro I w w' cs x F ⟨h0,v,rfl,h⟩ hw
  refine ⟨fun b hb=>?_,v,rfl,by rw[Wn hw];exact h⟩
  have hlt:=h0 b hb
  have:w.heap[b]? =some w.heap[b]:=Array.getElem?_eq_getElem hlt
  rw[<-hw b hb] at this
  exact (Array.getElem?_eq_some_iff.1 this).1
 own_live h:=h.1
 own_rd:=by
  rintro I J w cs x F ⟨h0,v,rfl,h⟩ hJ hB
  refine ⟨v,rfl,h.mono fun b o hb=>?_⟩
  unfold ov at hb
  split at hb
  ·rw[hB b ‹_›];exact hb
  ·exact hJ b o hb
def Nd (R:Rep α):Rep α where
 size:=R.size
 rd:=R.rd
 own I w cs x F:=(cs.length=R.size/\ ∀u∈cs,u.oneCell'=true)/\(∀b,b∈F->b<w.heap.size)/\ ∀J:Hp,I.le J->(∀b,b∈F->J b=w.heap[b]?)->R.rd J cs x
 rd_len:=R.rd_len
 rd_one:=R.rd_one
 rd_mono:=R.rd_mono
 own_len h:=h.1.1
 own_one h:=h.1.2
 own_mono h hJ:=⟨h.1,h.2.1,fun K hK hB=>h.2.2 K (hJ.trans hK) hB⟩
 own_stay:=by
  rintro I w w' cs x F ⟨h0,h1,h⟩ hw
  refine ⟨h0,fun b hb=>?_,fun J hJ hB=>h J hJ fun b hb=>by rw[hB b hb,hw b hb]⟩
  have hlt:=h1 b hb
  have:w.heap[b]? =some w.heap[b]:=Array.getElem?_eq_getElem hlt
  rw[<-hw b hb] at this
  exact (Array.getElem?_eq_some_iff.1 this).1
 own_live h:=h.2.1
 own_rd h hJ hB:=h.2.2 _ hJ hB
theorem Nw {R:Rep α} {cs:List Value} {x:α} {F:List Nat} (h:R.own I w cs x F):(Nd R).own I w cs x F:=
 ⟨⟨R.own_len h,R.own_one h⟩,R.own_live h,fun J b a=>R.own_rd h b a⟩
theorem Ut {R:Rep α} {cs:List Value} {x:α} (h:R.rd I cs x):(Nd R).own I w cs x []:=
 ⟨⟨R.rd_len h,R.rd_one h⟩,fun b c=>(by cases c),fun J a _=>R.rd_mono h a⟩
theorem Wo {R:Rep α} {ls:List Ch} {cs:List Value} {x:α} (h:Bun I ls R cs x):Bun I ls (Nd R) cs x:=fun w F a=>Nw (h w F a)
theorem Wp {R:Rep α} {c:List Value} {x:α} (h: ∀I,R.rd I c x):Zro (Nd R) c x:=fun I w=>Ut (h I)
theorem OwnEls.turn {R S:Rep α} (hs:R.size=S.size) (h: ∀c x G,R.own I w c x G->S.own I w c x G): ∀ {xs:List α} {cur:List Value} {F:List Nat},OwnEls R I w cur xs F->OwnEls S I w cur xs F
 | [],cur,F,h0=>h0
 | y::xs,cur,F,⟨c,rest,G,K,h1,h2,h3,h4,h5⟩=>⟨c,rest,G,K,h1,by rw[<-hs];exact h2,h3,h _ _ _ h4,OwnEls.turn hs h h5⟩
theorem Nx {R:Rep α} {J:Hp} (d:I.le J): ∀ {xs:List α} {cur:List Value} {F:List Nat},(∀b,b∈F->J b=w.heap[b]?)->OwnEls (Nd R) I w cur xs F->OwnEls (yP R) J w cur xs []
 | [],cur,F,_,h0=>rfl
 | y::xs,cur,F,hB,⟨c,rest,G,K,h1,h2,h3,h4,h5⟩=>by
  subst h3;exact ⟨c,rest,[],[],h1,h2,rfl,⟨rfl,h4.2.2 J d fun b a=>hB b (bj _ a)⟩,Nx d (fun b a=>hB b (bp _ a)) h5⟩
theorem St.freeze_els {R:Rep α} {v:List Value} {xs:List α} {cs:List Ch} {w0:World} (h:St I w0 w (Ch.own (ax E (Nd R)) v xs::cs)): ∃J,I.le J/\St J w0 w (Ch.own (ax E (yP R)) v xs::cs):=by
 obtain ⟨k,m,F,⟨G,K,rfl,⟨s,H⟩,r⟩,q,t⟩:=h;rcases H with ⟨rfl,rfl,rfl⟩ | ⟨g,n,cap,cur,d,hv,C,B,A,u,rfl,z⟩
 ·exact ⟨I,Hp.le.rfl,k,m,[] ++K,⟨[],K,rfl,⟨s,.inl ⟨rfl,rfl,rfl⟩⟩,r⟩,q,t⟩
 ·let J:Hp:=fun b=>if b∈d then w.heap[b]? else I b;have e:I.le J:=fun b o a=>by
   show (if b∈d then w.heap[b]? else I b)=some o;split
   ·exact m b o a
   ·exact a
  have f:(g::(d++K)).Nodup:=q;have j:g∉d:=fun j=>(List.nodup_cons.1 f).1 (bj _ j);have l:g∉K:=fun j=>(List.nodup_cons.1 f).1 (bp _ j);obtain ⟨L,y,D⟩:=List.nodup_append.1 (List.nodup_cons.1 f).2;refine ⟨J,e,k,fun b o a=>?_,[g] ++K,⟨[g],K,rfl,⟨s,.inr ⟨g,n,cap,cur,[],hv,C,B,A,u,rfl,?_⟩⟩,r.mono e⟩,List.nodup_cons.2 ⟨l,y⟩,fun b a=>?_⟩
  ·have a:(if b∈d then w.heap[b]? else I b)=some o:=a;split at a
   ·exact a
   ·exact m b o a
  ·exact Nx e (fun b k=>if_pos k) z
  ·have i:b∉d:=fun p=>by
    rcases aE (show b∈g::K from a) with rfl | c
    ·exact j p
    ·exact D b p b c rfl
   show (if b∈d then w.heap[b]? else I b)=none;rw[if_neg i];refine t b ?_;rcases aE (show b∈g::K from a) with rfl | c
   ·simp
   ·exact bp _ c
theorem RD:Cpy (xq T R) (xq T R):=by
 rintro I w c x ⟨v,rfl,h⟩;exact ⟨fun b a=>(by cases a),v,rfl,by rw[Y8];exact h⟩
theorem RE:Zro (xq T R) [.pointer none] .nil:=fun I w=>⟨fun b a=>(by cases a),_,rfl,.nil⟩
theorem Ny {l:List (Tr α)} :(ax E (xq T R)).rd I [v] l↔ ∃k,Kids I v l.length k/\ ∀i x,l[i]? =some x->TreeRd T R I (k i) x:=by
 constructor
 ·rintro ⟨n,cap,e,m,h⟩;obtain rfl:v= .slice n l.length cap:=by simpa using e
  rcases h with rfl | ⟨b,off,a,t,p,rfl,z,s⟩
  ·exact ⟨fun _=>undef,⟨n,cap,rfl,m,.inl rfl⟩,fun i x d=>by simp at d⟩
  ·refine ⟨fun i=>(a.toList[off+i]?).getD undef,⟨_,cap,rfl,m,.inr ⟨b,off,a,t,p,rfl,z,fun i q=>?_⟩⟩,fun i x d=>?_⟩
   ·obtain ⟨c,A,r,f⟩:=s i l[i] (List.getElem?_eq_getElem q);obtain ⟨u,rfl,-⟩:=f
    have:=r 0 Nat.one_pos
    rw[show off+i*(xq T R).size+0=off+i from by show off+i*1+0=_;omega] at this;simp[this]
   ·obtain ⟨c,A,r,f⟩:=s i x d;obtain ⟨u,rfl,f⟩:=f
    have:=r 0 Nat.one_pos
    rw[show off+i*(xq T R).size+0=off+i from by show off+i*1+0=_;omega] at this;show TreeRd T R I ((a.toList[off+i]?).getD undef) x;rw[this];simpa using f
 ·rintro ⟨k,⟨n,cap,rfl,m,h⟩,y⟩;refine ⟨n,cap,rfl,m,?_⟩;rcases h with h | ⟨g,off,a,t,p,B,C,D⟩
  ·exact .inl (List.length_eq_zero_iff.1 h)
  ·refine .inr ⟨g,off,a,t,p,B,C,fun i x d=>⟨[k i],rfl,fun j o=>?_,k i,rfl,y i x d⟩⟩;have o:j=0:=by have:j<1:=o;omega
   subst o;have q:=(List.getElem?_eq_some_iff.1 d).1;rw[show off+i*(xq T R).size+0=off+i from by show off+i*1+0=_;omega];exact D i q
theorem J8 {p:α×List (Tr α)} (h:(xq T R).rd I [v] x) (a:x.get=some p): ∃b,v= .pointer (some ⟨b,0,none⟩)/\ ∃cells:List Value,I b=some (.cells cells.toArray T (0,0))/\(tf R (ax E (xq T R))).rd I cells p:=by
 obtain ⟨u,e,h⟩:=h;obtain rfl:v=u:=by simpa using e
 cases h with
 | nil=>cases a
 | node hb ha hv hk =>
  obtain rfl:=ae a;exact ⟨_,rfl,_,hb,_,_,rfl,ha,Ny.2 ⟨_,hv,hk⟩⟩
theorem RF (h:(xq T R).rd I [v] x): ∃a:Option Addr,v= .pointer a/\a.isNone=x.isNil:=by
 obtain ⟨u,e,h⟩:=h;obtain rfl:v=u:=by simpa using e
 cases h <;> exact ⟨_,rfl,rfl⟩
theorem Nz {b:Nat} {c:List Value} {u:Value} {a:α} {d:List (Tr α)} (g:I b=some (.cells (c++ [u]).toArray T (0,0))) (i:R.rd I c a) (e:(ax E (xq T R)).rd I [u] d):(xq T R).rd I [.pointer (some ⟨b,0,none⟩)] (.node a d):=by
 obtain ⟨j,h,f⟩:=Ny.1 e;exact ⟨_,rfl,.node g i h f⟩
def only (I:Hp) (L:List Nat):Hp:=fun b=>if b∈L then I b else none
theorem oW {L M:List Nat} (h: ∀b,b∈L->b∈M):(only I L).le (only I M):=fun b o a=>by
 unfold only at a⊢;split at a
 ·rw[if_pos (h b ‹_›)];exact a
 ·cases a
def Rep.Fin {α:Type} (R:Rep α):Prop:= ∀ {I:Hp} {cs:List Value} {x:α},R.rd I cs x-> ∃L,R.rd (only I L) cs x
theorem Kids.fin {n:Nat} {cc:Nat->Value} (h:Kids I v n cc): ∃L,Kids (only I L) v n cc:=by
 obtain ⟨e,cap,d,c,a⟩:=h;rcases a with a | ⟨g,off,b,t,i,f,j,k⟩
 ·exact ⟨[],e,cap,d,c,.inl a⟩
 ·exact ⟨[g],e,cap,d,c,.inr ⟨g,off,b,t,i,f,by unfold only;rw[if_pos (by simp)];exact j,k⟩⟩
theorem TreeRd.fin (t:R.Fin) (h:TreeRd T R I v x): ∃L,TreeRd T R (only I L) v x:=by
 induction h with
 | nil=>exact ⟨[],.nil⟩
 | @node b c v a ks cc f ha hv hk ih =>
  obtain ⟨l,r⟩:=t ha;obtain ⟨o,q⟩:=hv.fin;have key: ∀n,∃L,∀i x,i<n->ks[i]? =some x->TreeRd T R (only I L) (cc i) x:=by
   intro n;induction n with
   | zero=>exact ⟨[],fun i x k=>by omega⟩
   | succ n ihn =>
    obtain ⟨L,j⟩:=ihn;cases g:ks[n]? with
    | none=>exact ⟨L,fun i x k d=>by
      by_cases e:i=n
      ·subst e;rw[g] at d;cases d
      ·exact j i x (by omega) d⟩
    | some y =>
     obtain ⟨M,p⟩:=ih n y g;refine ⟨L++M,fun i x k d=>?_⟩;by_cases e:i=n
     ·subst e;rw[g] at d;obtain rfl:=ae d;exact p.mono (oW fun b f=>by simp[f])
     ·exact (j i x (by omega) d).mono (oW fun b f=>by simp[f])
  obtain ⟨s,m⟩:=key ks.length;refine ⟨b::(l++(o++s)),.node (cc:=cc) (by unfold only;rw[if_pos (by simp)];exact f) (R.rd_mono r (oW fun b f=>by simp[f])) (q.mono (oW fun b f=>by simp[f])) fun i x g=>?_⟩;exact (m i x (List.getElem?_eq_some_iff.1 g).1 g).mono (oW fun b f=>by simp[f])
theorem EF {enc:α->Value} {h1: ∀a,(enc a).oneCell'=true} :(me α enc h1).Fin:=fun h=>⟨[],h⟩
theorem RG {α β:Type} {A:Rep α} {B:Rep β} (h:A.Fin) (k:B.Fin):(tf A B).Fin:=by
 rintro I j x ⟨c,d,rfl,i,g⟩;obtain ⟨L,e⟩:=h i;obtain ⟨M,f⟩:=k g;exact ⟨L++M,c,d,rfl,A.rd_mono e (oW fun b a=>by simp[a]),B.rd_mono f (oW fun b a=>by simp[a])⟩
def Uu:List Nat->List Nat
 | [] =>[]
 | a::l=>if a∈Uu l then Uu l else a::Uu l
theorem AT {b:Nat} : ∀ {l:List Nat},b∈Uu l↔b∈l
 | [] =>Iff.rfl
 | a::l=>by
  unfold Uu;split
  ·rename_i h;rw[AT,List.mem_cons];exact ⟨.inr,fun k=>k.elim (fun e=>by rw[e];exact AT.1 h) id⟩
  ·rw[List.mem_cons,List.mem_cons,AT]
theorem yT: ∀ {l:List Nat},(Uu l).Nodup
 | [] =>List.nodup_nil
 | a::l=>by
  unfold Uu;split
  ·exact yT
  ·exact List.nodup_cons.2 ⟨‹_›,yT⟩
def Ch.recl (c:Ch):Prop:= ∀ {I J:Hp} {w:World} {F:List Nat},I.le J->J.le (hp w)->c.holds J w F->(∀b,b∈F->J b=none)-> ∃L,(∀b,b∈L->I b=none/\J b≠none)/\L.Nodup/\c.holds I w (F++L)
theorem NA (m:R.Fin) {cs:List Value} :(Ch.own (xq T R) cs x).recl:=by
 rintro I J w F j g ⟨l,v,rfl,h⟩ n;obtain ⟨L,k⟩:=h.fin m;let M:=Uu (L.filter fun b=>(I b).isNone&&(J b).isSome);have c: ∀b,b∈M↔b∈L/\I b=none/\J b≠none:=fun b=>by
  simp only[M,AT,List.mem_filter,aj,Option.isNone_iff_eq_none,Option.isSome_iff_ne_none]
 refine ⟨M,fun b a=>((c b).1 a).2,yT,fun b a=>?_,v,rfl,k.mono fun b o a=>?_⟩
 ·rcases aG a with a | a
  ·exact l b a
  ·obtain ⟨o,i⟩:=Option.ne_none_iff_exists'.1 ((c b).1 a).2.2;exact (Array.getElem?_eq_some_iff.1 (g b o i)).1
 ·unfold only at a;split at a
  ·rename_i e;unfold ov at a⊢;split at a
   ·rw[if_pos (by simp[‹b∈F›])];exact a
   ·rename_i d;cases f:I b with
    | none =>
     rw[if_pos (by rw[List.mem_append,c];exact .inr ⟨e,f,by rw[a];simp⟩)];exact g b o a
    | some o' =>
     rw[if_neg (by rw[List.mem_append,c];rintro (h | h);exact d h;rw[f] at h;cases h.2.1)];rw[<-j b o' f,a] at *
  ·cases a
end
def Ch.back:List Ch->Prop
 | [] =>True
 | c::cs=>(c.deep/\Ch.back cs)\/(c.recl/\Ch.deeps cs)
theorem Ch.back_deeps: ∀ {cs:List Ch},Ch.deeps cs->Ch.back cs
 | [],_=>trivial
 | c::cs,h=>.inl ⟨h.1,back_deeps h.2⟩
theorem St.back {I J:Hp} {w0 w:World} {cs:List Ch} (f:I.le J): ∀ {ds:List Ch},Ch.back ds->St J w0 w (ds++ [Ch.fr I cs])->St I w0 w (ds++cs):=by
 intro ds n ⟨a,z,F,H,u,l⟩;obtain ⟨G,K,rfl,B,k,M,rfl,E,rfl⟩:=H.split;rw[List.append_nil] at u l;have C: ∀b,J b=none->I b=none:=fun b a=>by
  cases D:I b with
  | none=>rfl
  | some o=>rw[f b o D] at a;cases a
 have key: ∀ {ds:List Ch} {G:List Nat},Ch.back ds->Sep J ds w G->(∀b,b∈G->J b=none)-> ∃L,(∀b,b∈L->I b=none/\J b≠none)/\L.Nodup/\ ∃d,d.Perm (G++L)/\Sep I ds w d:=by
  intro ds;induction ds with
  | nil=>intro G _ h _;exact ⟨[],fun b a=>(by cases a),List.nodup_nil,G,by simp,h⟩
  | cons c ds ih =>
   rintro G n ⟨m,A,rfl,y,x⟩ v;rcases n with ⟨hd1,e⟩ | ⟨hd1,e⟩
   ·obtain ⟨L,g,i,d,j,r⟩:=ih e x fun b a=>v b (bp _ a);exact ⟨L,g,i,m++d,by rw[aC];exact j.append_left _,m,d,rfl,hd1 y,r⟩
   ·obtain ⟨L,g,i,j⟩:=hd1 f z y fun b a=>v b (bj _ a);refine ⟨L,g,i,(m++L)++A,?_,m++L,A,rfl,j,x.deeps e⟩;rw[aC,aC];exact List.perm_append_comm.append_left _
 obtain ⟨L,g,i,d,j,r⟩:=key n B fun b a=>l b (bj _ a);have hp:(d++k).Perm ((G++k)++L):=(j.append_right k).trans (by
  rw[aC,aC];exact List.perm_append_comm.append_left _)
 refine ⟨a,f.trans z,d++k,r.append E,hp.nodup_iff.2 (List.nodup_append.2 ⟨u,i,fun b s c q t=>?_⟩),fun b p=>?_⟩
 ·subst t;exact (g b q).2 (l b s)
 ·rcases aG (hp.mem_iff.1 p) with h | h
  ·exact C b (l b h)
  ·exact (g b h).1
structure LayW (P:Program) (w:World):Prop where
 len: ∃g m,P.globalNamed "internal/bytealg.MaxLen" =some g/\w.cell? ⟨g,0,none⟩=some (.int .i64 m)
 tab:Lib.TabIs P w "internal/strconv.uint64pow10" .u64 Lib.pow10Tab
 syn: ∃tp p,w.var? P "strconv.ErrSyntax" =some #[.iface tp p]
 rng: ∃tp p,w.var? P "strconv.ErrRange" =some #[.iface tp p]
def Lay (P:Program) (J:Hp):Prop:= ∀w:World,J.le (hp w)->LayW P w
theorem Lay.mono {P:Program} {J J':Hp} (h:Lay P J) (b:J.le J'):Lay P J':=fun w a=>h w (b.trans a)
theorem NB {P:Program} {W w:World} {n:String} {cs:Array Value} (a:(hp W).le (hp w)) (h:W.var? P n=some cs):w.var? P n=some cs:=by
 unfold World.var? at h⊢;obtain ⟨g,d,h⟩:=Option.bind_eq_some_iff.1 h;rw[d];show (match w.heap[g]? with | some (.cells cs _ _)=>some cs | _=>none)=some cs;split at h
 ·rename_i c t f b
  have:w.heap[g]? =some (.cells c t f):=a g _ b
  rw[this];exact h
 ·cases h
theorem Wq {W w:World} {a:Addr} {v:Value} (c:(hp W).le (hp w)) (h:W.cell? a=some v):w.cell? a=some v:=by
 cases b:W.heap[a.block]? with
 | none=>simp[World.cell?,b] at h
 | some o =>
  have e:w.heap[a.block]? =some o:=c a.block o b;unfold World.cell? at h⊢;rw[b] at h;rw[e];exact h
theorem Lay.of {P:Program} {W:World} (h:LayW P W):Lay P (hp W):=fun w a =>
 ⟨h.len.imp fun g d=>d.imp fun m c=>⟨c.1,Wq a c.2⟩,NB a h.tab,h.syn.imp fun t b=>b.imp fun p hp=>NB a hp,h.rng.imp fun t b=>b.imp fun p hp=>NB a hp⟩
end D
namespace R
open Go.RowKit
open D
inductive Ty
 | int (k:IntKind) | bool | str | raw
 | prod (a b:Ty)
 | sl (E:TypeId) (t:Ty)
 | fro (t:Ty)
 | wr (t:Ty)
 | tree (T E:TypeId) (t:Ty)
 | bag (t:Ty)
 deriving DecidableEq
abbrev Raw:= {v:Value // v.oneCell'=true}
def Ik:Rep Raw:=me Raw (·.1) (·.2)
def Ty.den:Ty->Type
 | .int _=>Int
 | .bool=>Bool
 | .str=>ByteArray
 | .raw=>Raw
 | .prod a b=>a.den×b.den
 | .sl _ t=>List t.den
 | .fro t=>t.den
 | .wr t=>t.den
 | .tree _ _ t=>Tr t.den
 | .bag t=>t.den
def Ty.size:Ty->Nat
 | .prod a b=>a.size+b.size
 | .fro t=>t.size
 | .wr t=>t.size
 | .bag t=>t.size
 | _=>1
def Ty.isProd:Ty->Bool
 | .prod _ _=>true
 | .fro t=>t.isProd
 | .wr _=>true
 | .bag t=>t.isProd
 | _=>false
def Ty.rep:(t:Ty)->Rep t.den
 | .int k=>me Int (.int k) fun _=>rfl
 | .bool=>Io
 | .str=>Nb
 | .raw=>Ik
 | .prod a b=>tf a.rep b.rep
 | .sl E t=>ax E t.rep
 | .fro t=>yP t.rep
 | .wr t=>t.rep
 | .tree T _ t=>xq T t.rep
 | .bag t=>Nd t.rep
def Ty.erase:Ty->Ty
 | .prod a b=>.prod a.erase b.erase
 | .sl _ t=>.sl 0 t.erase
 | .fro t=>t.erase
 | .bag t=>t.erase
 | .wr t=>.wr t.erase
 | t=>t
theorem Ty.rep_size: ∀t:Ty,t.rep.size=t.size
 | .int _=>rfl
 | .bool=>rfl
 | .str=>rfl
 | .raw=>rfl
 | .prod a b=>by show a.rep.size+b.rep.size=_;rw[rep_size a,rep_size b];rfl
 | .sl _ _=>rfl
 | .fro t=>rep_size t
 | .wr t=>rep_size t
 | .tree _ _ _=>rfl
 | .bag t=>rep_size t
theorem Ty.size_pos: ∀t:Ty,0<t.size
 | .int _=>Nat.one_pos
 | .bool=>Nat.one_pos
 | .str=>Nat.one_pos
 | .raw=>Nat.one_pos
 | .prod a b=>Nat.add_pos_left (size_pos a) _
 | .sl _ _=>Nat.one_pos
 | .fro t=>size_pos t
 | .wr t=>size_pos t
 | .tree _ _ _=>Nat.one_pos
 | .bag t=>size_pos t
abbrev Pk:=(α:Type)×(Nat×(Hp->List Value->α->Prop))
def Ty.pk (t:Ty):Pk:=⟨t.den,t.rep.size,t.rep.rd⟩
def Uv (p q:Pk):Pk:=⟨p.1×q.1,p.2.1+q.2.1,fun I cs x=> ∃c d,cs=c++d/\p.2.2 I c x.1/\q.2.2 I d x.2⟩
def acA (p : Pk) : Pk := ⟨List p.1, 1, fun I cs xs => ∃ ao cap, cs = [.slice ao xs.length cap] /\ (xs.length <= lim /\ xs.length <= cap) /\ (xs = [] \/ ∃ b off ccs t fr, ao = some ⟨b, off, none⟩ /\ I b = some (.cells ccs t fr) /\
    ∀ i x, xs[i]? = some x -> ∃ c : List Value, c.length = p.2.1 /\ (∀ j, j < p.2.1 -> ccs.toList[off + i * p.2.1 + j]? = c[j]?) /\ p.2.2 I c x)⟩
theorem Ty.pk_erase: ∀t:Ty,t.erase.pk=t.pk
 | .int _=>rfl
 | .bool=>rfl
 | .str=>rfl
 | .raw=>rfl
 | .prod a b=>by
  show Uv a.erase.pk b.erase.pk=Uv a.pk b.pk;rw[pk_erase a,pk_erase b]
 | .sl _ t=>by
  show acA t.erase.pk=acA t.pk;rw[pk_erase t]
 | .fro t=>pk_erase t
 | .wr t=>pk_erase t
 | .tree _ _ _=>rfl
 | .bag t=>pk_erase t
theorem Ty.pk_eq {t u:Ty} (h:t.erase=u.erase):t.pk=u.pk:=by grind[pk_erase]
def oX (t u:Ty) (d:t.den):Option u.den:=if h:t.erase=u.erase then some (cast (congrArg Sigma.fst (Ty.pk_eq h)) d) else none
theorem Wr {p q:Pk} (h:p=q) {I:Hp} {cs:List Value} {d:p.1} (a:p.2.2 I cs d):q.2.2 I cs (cast (congrArg Sigma.fst h) d):=by subst h;exact a
theorem jE {t u:Ty} {d:t.den} {a:u.den} (h:oX t u d=some a) {J:Hp} {cs:List Value} (b:t.rep.rd J cs d):u.rep.rd J cs a:=by
 unfold oX at h;split at h
 ·rename_i c;cases ae h;exact Wr (Ty.pk_eq c) b
 grind
def oY (t u:Ty) (d:t.den):Option u.den:=if h:t=u then some (h ▸ d) else none
theorem oZ {t u:Ty} {d:t.den} {a:u.den} (h:oY t u d=some a): ∃e:t=u,a=e ▸ d:=by
 grind[oY,ae]
def Ty.sh:Ty->Bool
 | .prod a b=>a.sh&&b.sh
 | .sl _ _=>false
 | .fro _=>true
 | .wr t=>t.sh
 | .tree _ _ _=>false
 | .bag _=>false
 | _=>true
theorem Ty.sh_ok: ∀ {t:Ty},t.sh=true->t.rep.Sh
 | .int _,_=>Ez
 | .bool,_=>V1
 | .str,_=>YY
 | .raw,_=>Ez (α:=Raw) (enc:=(·.1)) (h1:=(·.2))
 | .prod a b,h=>by
  have h:(a.sh&&b.sh)=true:=h;rw[aj] at h;exact V0 (sh_ok h.1) (sh_ok h.2)
 | .sl _ _,h=>by cases h
 | .fro _,_=>YX
 | .wr t,h=>sh_ok (t:=t) h
 | .tree _ _ _,h=>by cases h
 | .bag _,h=>by cases h
theorem Ty.cpy: ∀ {t:Ty},t.sh=true->Cpy t.rep t.rep
 | .int _,_=>xm
 | .bool,_=>JZ
 | .str,_=>Np
 | .raw,_=>xm (α:=Raw) (enc:=(·.1)) (h1:=(·.2))
 | .prod a b,h=>by
  have h:(a.sh&&b.sh)=true:=h;rw[aj] at h;exact Rs (cpy h.1) (cpy h.2)
 | .sl _ _,h=>by cases h
 | .fro _,_=>Rr
 | .wr t,h=>cpy (t:=t) h
 | .tree _ _ _,h=>by cases h
 | .bag _,h=>by cases h
def dens:List Ty->Type
 | [] =>Unit
 | [t] =>t.den
 | t::u::ts=>t.den×dens (u::ts)
def kN:List Ty->Type
 | [] =>Unit
 | t::ts=>t.den×kN ts
def toH:(ts:List Ty)->dens ts->kN ts
 | [],_=>()
 | [_],d=>(d,())
 | _::u::ts,d=>(d.1,toH (u::ts) d.2)
def cur:List Ty->Type->Type
 | [],R=>R
 | t::ts,R=>t.den->cur ts R
def app {R:Type} :(ts:List Ty)->cur ts R->kN ts->R
 | [],f,_=>f
 | _::ts,f,d=>app ts (f d.1) d.2
def NC (J:Hp):(ts:List Ty)->List Value->kN ts->Prop
 | [],vs,_=>vs= []
 | t::ts,vs,d=> ∃v cs r,vs=v::r/\Lds t.isProd cs v/\t.rep.rd J cs d.1/\NC J ts r d.2
def lP (agg:Bool) (v:Value):List Value:=match agg with
 | true=>v.cells.toList
 | false=>[v]
def yU:(i:Nat)->(ts:List Ty)->kN ts->Value->List Ch
 | _,[],_,_=>[]
 | i,t::ts,d,v=>Ch.own t.rep (lP t.isProd (vg v [i])) d.1::yU (i+1) ts d.2 v
def resGv:(ts:List Ty)->kN ts->Value->List Ch
 | [t],d,v=>[Ch.own t.rep (lP t.isProd v) d.1]
 | ts,d,v=>yU 0 ts d v
def qY:Value->Bool
 | .agg _=>true
 | _=>false
def resFa:(ts:List Ty)->Value->Prop
 | [t],v=>qY v=t.isProd
 | ts,v=> ∃vs,v= .tuple vs/\vs.size=ts.length/\ ∀i t,ts[i]? =some t->qY (vs.getD i undef)=t.isProd
def FnOk (P:Program) (w0:World) (J:Hp) (v:Value) (ps rs:List Ty) (e:cur ps (Option (dens rs))):Prop:=
 ∃k first capt,v= .func (.func k) first capt/\Enters P k/\ ∀J',J.le J'-> ∀args d,NC J' ps args d-> ∀r,app ps e d=some r->Con P k (first.toList++args++capt.toList).toArray J' w0 [] (resFa rs) (resGv rs (toH rs r))
theorem FnOk.mono {P:Program} {w0:World} {J J':Hp} {v:Value} {ps rs:List Ty} {e:cur ps (Option (dens rs))} (h:FnOk P w0 J v ps rs e) (f:J.le J'):FnOk P w0 J' v ps rs e:=by
 have ⟨k,first,a,d,b,c⟩:=h;exact ⟨k,first,a,d,b,fun g h=>c g (f.trans h)⟩
theorem FnOk.one {P:Program} {w0:World} {J:Hp} {v:Value} {ps rs:List Ty} {e:cur ps (Option (dens rs))} (h:FnOk P w0 J v ps rs e):v.oneCell'=true:=by
 obtain ⟨k,first,a,rfl,_⟩:=h;rfl
structure Hdr where
 id:Nat
 path:List Nat
def YG:List Nat->List Nat->Bool
 | [],[] =>true
 | a::l,b::m=>Nat.beq a b&&YG l m
 | _,_=>false
def Hdr.beq (a b:Hdr):Bool:=Nat.beq a.id b.id&&YG a.path b.path
theorem ND: ∀ {l m:List Nat},YG l m=true->l=m
 | [],[],_=>rfl
 | a::l,b::m,h=>by
  have h:(Nat.beq a b&&YG l m)=true:=h;rw[aj] at h;rw[au h.1,ND h.2]
 | [],_::_,h=>by cases h
 | _::_,[],h=>by cases h
theorem Hdr.beq_eq {a b:Hdr} (h:a.beq b=true):a=b:=by
 unfold Hdr.beq at h;have ⟨i,p⟩:=a;have ⟨j,q⟩:=b;grind[au,ND]
inductive LV
 | val (v:Value)
 | nb (b:Bool)
 | rd (h:Hdr) (t:Ty) (d:t.den)
 | own (h:Hdr)
 | ptr (h:Hdr) (off:Nat)
 | fn (h:Hdr) (ps rs:List Ty) (e:cur ps (Option (dens rs)))
 | fz (h:Hdr) (T:TypeId) (t:Ty) (d:t.den) (off:Nat)
 | fzf (h:Hdr) (T:TypeId) (ps rs:List Ty) (e:cur ps (Option (dens rs)))
 | rdn (h:Hdr) (b:Bool) (t:Ty) (d:t.den)
inductive MK
 | int | ii
def MK.den:MK->Type
 | .int=>Int
 | .ii=>Int×Int
def MK.dec:(k:MK)->DecidableEq k.den
 | .int=>(inferInstance:DecidableEq Int)
 | .ii=>(inferInstance:DecidableEq (Int×Int))
def MK.lit:(k:MK)->k.den->Lit
 | .int=>Wg
 | .ii=>abx
def MK.ok:(k:MK)->k.den->Bool
 | .int=>iOk
 | .ii=>adb
def MK.val:(k:MK)->k.den->Value
 | .int=>fun n:Int=>.int .i64 n
 | .ii=>fun x:Int×Int=>.agg #[.int .i64 x.1,.int .i64 x.2]
inductive ME
 | int | bool
def ME.den:ME->Type
 | .int=>Int
 | .bool=>Bool
def ME.lit:(e:ME)->e.den->Lit
 | .int=>Wg
 | .bool=>ada
def ME.ok:(e:ME)->e.den->Bool
 | .int=>iOk
 | .bool=>bOk
def ME.z:(e:ME)->e.den
 | .int=>(0:Int)
 | .bool=>false
def ME.val:(e:ME)->e.den->Value
 | .int=>fun n:Int=>.int .i64 n
 | .bool=>fun b:Bool=>.bool b
inductive AV
 | one (x:LV)
 | agg (xs:List LV)
 | tup (ys:List (Bool×List LV))
 | elr (h:Hdr) (E:TypeId) (t:Ty) (xs:List t.den) (x:t.den) (i:Int) (off:Nat)
 | elo (h:Hdr) (ver:Nat) (E:TypeId) (t:Ty) (xs:List t.den) (x:t.den) (i:Int) (off:Nat)
 | sub (h:Hdr) (ver:Nat) (E:TypeId) (t:Ty) (xs:List t.den) (l:Int)
 | pre (h:Hdr) (ver:Nat) (E:TypeId) (t:Ty) (xs:List t.den) (l:Int)
 | vw (u h:Hdr) (k n:Nat) (l m:Int)
 | xv (top:Bool) (u h:Hdr) (k n:Nat) (l m:Int)
 | capv (h:Hdr) (c:Nat)
 | any (h:Hdr)
 | und
inductive Chk
 | own (t:Ty) (d:t.den)
 | blk (T:TypeId) (cells:List LV)
 | hole (over:Nat) (t:Ty) (d:t.den) (u:Ty) (y:u.den) (f:u.den->t.den) (i:Int) (k off:Nat) (lv:LV)
 | box (T:TypeId) (t:Ty) (d:t.den)
 | map (K E:TypeId) (k:MK) (e:ME) (m:List (k.den×e.den))
 | clo (k:FuncId) (first:List (Bool×List LV)) (capt:List LV)
abbrev Ent:=Hdr×Nat×Chk
structure Sg where
 env:List (Nat×Nat×AV)
 chs:List Ent
 nxt:Nat
def Ch.gap {α β:Type} (R:Rep α) (cs:List Value) (S:Rep β) (f:β->α) (b off:Nat) (v:Value):Ch where
 holds I w K:=b∈K/\(∃cur E,w.heap[b]? =some (.cells cur E (0,0))/\cur[off]? =some v)/\(∀x,x∈K->x<w.heap.size) /\
  ∀J w' v' y G,I.le J->(∀x,x∈K->x≠b->w'.heap[x]? =w.heap[x]?)->(∀cur E,w.heap[b]? =some (.cells cur E (0,0))->w'.heap[b]? =some (.cells (cur.setIfInBounds off v') E (0,0)))->S.own J w' [v'] y G-> ∃F,F.Perm (G++K)/\R.own J w' cs (f y) F
 mono:=by
  rintro I J w K ⟨h1,h2,h3,h4⟩ hJ
  exact ⟨h1,h2,h3,fun J' w' v' y G hJ'=>h4 J' w' v' y G (hJ.trans hJ')⟩
 stay:=by
  rintro I w w' K ⟨h1,⟨cur,E,h2,h2'⟩,h3,h4⟩ hw
  have hb:w'.heap[b]? =some (.cells cur E (0,0)):=by rw[hw b h1];exact h2
  refine ⟨h1,⟨cur,E,hb,h2'⟩,fun x hx=>?_,fun J w'' v' y G hJ k1 k2=>h4 J w'' v' y G hJ (fun x hx hne=>by rw[k1 x hx hne,hw x hx]) fun cur' E' hc=>k2 cur' E' (by rw[hw b h1];exact hc)⟩
  have hlt:=h3 x hx
  have:w.heap[x]? =some w.heap[x]:=Array.getElem?_eq_getElem hlt
  rw[<-hw x hx] at this
  exact (Array.getElem?_eq_some_iff.1 this).1
 live:=fun h=>h.2.2.1
def Ch.box {α:Type} (b:Nat) (T:TypeId) (R:Rep α) (d:α):Ch where
 holds I w F:= ∃(cells:List Value) (G:List Nat),F=b::G/\w.heap[b]? =some (.cells cells.toArray T (0,0))/\R.own I w cells d G
 mono:=by
  rintro I J w F ⟨cells,G,rfl,h1,h2⟩ hJ
  exact ⟨cells,G,rfl,h1,R.own_mono h2 hJ⟩
 stay:=by
  rintro I w w' F ⟨cells,G,rfl,h1,h2⟩ hw
  exact ⟨cells,G,rfl,by rw[hw b (by simp)];exact h1,R.own_stay h2 fun c hc=>hw c (by simp[hc])⟩
 live:=by
  rintro I w F ⟨cells,G,rfl,h1,h2⟩ c hc
  rcases aE hc with rfl | hc
  ·exact (Array.getElem?_eq_some_iff.1 h1).1
  ·exact R.own_live h2 c hc
def Ch.emp:Ch where
 holds I w F:=F= []
 mono h _:=h
 stay h _:=h
 live:=by rintro I w F rfl b hb;cases hb
theorem St.emp {I:Hp} {w0 w:World} {C:List Ch} :St I w0 w (Ch.emp::C)↔St I w0 w C:=by
 constructor
 ·rintro ⟨d,b,F,⟨G,K,rfl,rfl,e⟩,a,c⟩;exact ⟨d,b,K,e,a,c⟩
 ·rintro ⟨d,b,F,e,a,c⟩;exact ⟨d,b,F,⟨[],F,rfl,rfl,e⟩,a,c⟩
theorem St.box {I:Hp} {w0 w:World} {C:List Ch} {α:Type} {b:Nat} {T:TypeId} {R:Rep α} {d:α} :St I w0 w (Ch.box b T R d::C)↔ ∃cells,St I w0 w (Ch.blk b cells T::Ch.own R cells d::C):=by
 constructor
 ·rintro ⟨j,c,F,⟨G,K,rfl,⟨cells,a,rfl,h,g⟩,e⟩,f,i⟩;exact ⟨cells,j,c,b::(a++K),⟨[b],a++K,rfl,⟨rfl,h⟩,a,K,rfl,g,e⟩,f,i⟩
 ·rintro ⟨cells,j,c,F,⟨G,K,rfl,⟨rfl,h⟩,a,k,rfl,g,e⟩,f,i⟩;exact ⟨j,c,b::(a++k),⟨b::a,k,rfl,⟨cells,a,rfl,h,g⟩,e⟩,f,i⟩
abbrev Th:=Nat->Value
def hv (θ:Th) (h:Hdr):Value:=vg (θ h.id) h.path
def LV.v (θ:Th):LV->Value
 | .val v=>v
 | .nb b=>.bool (!b)
 | .rd h _ _=>hv θ h
 | .own h=>hv θ h
 | .ptr h off=>.pointer (some ⟨bk (hv θ h),off,none⟩)
 | .fn h _ _ _=>hv θ h
 | .fz h _ _ _ off=>.pointer (some ⟨bk (hv θ h),off,none⟩)
 | .fzf h _ _ _ _=>.pointer (some ⟨bk (hv θ h),0,none⟩)
 | .rdn h _ _ _=>hv θ h
def l9 (θ:Th) (y:Bool×List LV):Value:=if y.1 then .agg (y.2.map (·.v θ)).toArray else match y.2 with
 | x::_=>x.v θ
 | [] =>undef
def AV.v (θ:Th):AV->Value
 | .one x=>x.v θ
 | .agg xs=>.agg (xs.map (·.v θ)).toArray
 | .tup ys=>.tuple (ys.map (l9 θ)).toArray
 | .elr h _ t _ _ i off=>pt (hv θ h) (i.toNat*t.size+off)
 | .elo h _ _ t _ _ i off=>pt (hv θ h) (i.toNat*t.size+off)
 | .sub h _ _ t xs l=>sI (hv θ h) l.toNat xs.length t.size
 | .pre h _ _ t xs l=>sI (hv θ h) 0 l.toNat t.size
 | .vw u _ _ _ _ _=>hv θ u
 | .xv _ u _ _ _ _ _=>hv θ u
 | .capv _ c=>.int .i64 c
 | .any h=>hv θ h
 | .und=>undef
def Vw (u v:Value) (k n:Nat) (l m:Int):Prop:=(v= .slice none 0 0/\u= .slice none 0 0/\n=0/\l=0/\m=0) \/
 ∃g ofs cap x,v= .slice (some ⟨g,ofs,none⟩) n cap/\u= .slice (some ⟨g,ofs+x,none⟩) (m.toNat - l.toNat) (cap - l.toNat)/\0<=l/\l<=m/\n<=cap/\m<=(cap:Int)/\x<=l.toNat*k/\(cap=l.toNat\/x=l.toNat*k)
def Ri:Value->Nat
 | .slice _ _ c=>c
 | _=>0
def DF:Value->Bool
 | .slice none _ _=>true
 | _=>false
def LV.ok (P:Program) (w0:World) (J:Hp) (θ:Th) (n:Nat):LV->Prop
 | .val v=>v.oneCell'=true
 | .nb _=>True
 | .rd h t d=>h.id<n/\t.rep.rd J [hv θ h] d
 | .own h=>h.id<n/\(hv θ h).oneCell'=true
 | .ptr h _=>h.id<n
 | .fn h ps rs e=>h.id<n/\FnOk P w0 J (hv θ h) ps rs e
 | .fz h T t d _=>h.id<n/\ ∃cells:List Value,J (bk (hv θ h))=some (.cells cells.toArray T (0,0))/\t.rep.rd J cells d
 | .fzf h T ps rs e=>h.id<n/\ ∃u:Value,J (bk (hv θ h))=some (.cells [u].toArray T (0,0))/\FnOk P w0 J u ps rs e
 | .rdn h b t d=>h.id<n/\t.rep.rd J [hv θ h] d/\DF (hv θ h)=b
def SaysH (x:Chk) (ver:Nat) (c:Chk):Prop:=match x with
 | .hole over t d _ _ _ _ _ _ _=>over=ver/\c= .own t d
 | _=>False
def Says (e:Ent) (h:Hdr) (ver:Nat) (c:Chk):Prop:=e.1=h/\((e.2.1=ver/\c=e.2.2)\/SaysH e.2.2 ver c)
def Mem (chs:List Ent) (n:Nat) (h:Hdr) (ver:Nat) (c:Chk):Prop:=ver<n/\ ∀e,e∈chs-> ∀c',Says e h ver c'->c'=c
def AV.ok (P:Program) (w0:World) (J:Hp) (θ:Th) (n:Nat) (chs:List Ent):AV->Prop
 | .one x=>x.ok P w0 J θ n
 | .agg xs=> ∀x∈xs,x.ok P w0 J θ n
 | .tup ys=> ∀y∈ys,∀x∈y.2,x.ok P w0 J θ n
 | .elr h E t xs x i _=>h.id<n/\aU xs i=some x/\(Ty.sl E t).rep.rd J [hv θ h] xs
 | .elo h ver E t xs x i _=>h.id<n/\aU xs i=some x/\Mem chs n h ver (.own (.sl E t) xs)
 | .sub h ver E t xs l=>h.id<n/\(0<=l/\l<=(xs.length:Int))/\Mem chs n h ver (.own (.sl E t) xs)
 | .pre h ver E t xs l=>h.id<n/\(0<=l/\l<=(xs.length:Int))/\Mem chs n h ver (.own (.sl E t) xs)
 | .vw u h k N l m=>u.id<n/\h.id<n/\Vw (hv θ u) (hv θ h) k N l m/\m<=(N:Int)
 | .xv top u h k N l m=>u.id<n/\h.id<n/\Vw (hv θ u) (hv θ h) k N l m/\(top=true->l=0)
 | .capv h c=>h.id<n/\Ri (hv θ h)=c
 | .any h=>h.id<n
 | .und=>True
def toCh (P:Program) (θ:Th) (e:Ent):Ch:=match e.2.2 with
 | .own t d=>Ch.own t.rep [hv θ e.1] d
 | .blk T cells=>Ch.blk (bk (hv θ e.1)) (cells.map (·.v θ)) T
 | .hole _ t _ u _ f i k off lv=>Ch.gap t.rep [hv θ e.1] u.rep f (ptB (hv θ e.1)) (ptO (hv θ e.1)+(i.toNat*k+off)) (lv.v θ)
 | .box T t d=>Ch.box (bk (hv θ e.1)) T t.rep d
 | .map K E k m md=> @Ch.mp P K E k.den m.den k.dec k.lit k.ok m.lit m.z (hv θ e.1) md
 | .clo _ _ _=>Ch.emp
def okE (P:Program) (w0:World) (J:Hp) (θ:Th) (n:Nat) (chs:List Ent) (e:Ent):Prop:=e.1.id<n/\e.2.1<n/\match e.2.2 with
 | .own _ _=>True
 | .blk _ cells=> ∀x∈cells,x.ok P w0 J θ n
 | .hole over t d u y f _ _ _ lv=>lv.ok P w0 J θ n/\over<e.2.1/\f y=d/\ ∀l,lv= .own l->Mem chs n l e.2.1 (.own u y)
 | .box _ _ _=>True
 | .map _ _ _ _ _=>True
 | .clo k first capt=>(∀y∈first,∀x∈y.2,x.ok P w0 J θ n)/\(∀x∈capt,x.ok P w0 J θ n)/\hv θ e.1= .func (.func k) (first.map (l9 θ)).toArray (capt.map (·.v θ)).toArray
def envL (θ:Th) (s:Sg):List (Nat×Value):=s.env.map fun e=>(e.1,e.2.2.v θ)
structure Fine (P:Program) (w0:World) (J:Hp) (θ:Th) (s:Sg):Prop where
 env: ∀e∈s.env,e.2.2.ok P w0 J θ s.nxt s.chs
 ver: ∀e∈s.env,e.2.1<s.nxt
 nd:s.env.Pairwise fun a b=>a.2.1≠b.2.1
 chs: ∀e∈s.chs,okE P w0 J θ s.nxt s.chs e
 lay:Lay P J
structure Sim (P:Program) (I:Hp) (w0:World) (F:Ch) (n:Nat) (J:Hp) (θ:Th) (s:Sg) (a:Act) (w:World):Prop where
 le:I.le J
 agr:Agr n a (envL θ s)
 st:St J w0 w (s.chs.map (toCh P θ)++ [F])
 fine:Fine P w0 J θ s
section
variable {P:Program} {w0:World} {J J':Hp} {θ θ':Th} {n m:Nat} {v:Value} {chs chs':List Ent}
theorem LV.one {x:LV} (h:x.ok P w0 J θ n):(x.v θ).oneCell'=true:=by
 cases x with
 | val v=>exact h
 | nb b=>rfl
 | rd h' t d=>exact Rep.rd_one _ h.2 _ (by simp[LV.v])
 | own h'=>exact h.2
 | ptr h' off=>rfl
 | fn h' ps rs e=>exact h.2.one
 | fz _ _ _ _ _=>rfl
 | fzf _ _ _ _ _=>rfl
 | rdn h' b t d=>exact Rep.rd_one _ h.2.1 _ (by simp[LV.v])
theorem GF {v:Value} (h:v.oneCell'=true):v.cells= [v].toArray:=by cases v <;> first | rfl | cases h
def Same (n:Nat) (θ θ':Th):Prop:= ∀i,i<n->θ' i=θ i
theorem Same.upd:Same n θ (upd θ n v):=fun i a=>JU (by omega)
theorem Same.rfl:Same n θ θ:=fun i a=>Eq.refl _
theorem Same.trans {θ'':Th} (h:Same n θ θ') (k:Same m θ' θ'') (b:n<=m):Same n θ θ'':=fun i a=>(k i (by omega)).trans (h i a)
theorem be (hs:Same n θ θ') {h:Hdr} (a:h.id<n):hv θ' h=hv θ h:=by unfold hv;rw[hs _ a]
theorem LV.v_same (hs:Same n θ θ') {x:LV} (h:x.ok P w0 J θ n):x.v θ'=x.v θ:=by
 cases x with
 | val _=>rfl
 | nb _=>rfl
 | rd h' t d=>exact be hs h.1
 | own h'=>exact be hs h.1
 | ptr h' off=>show Value.pointer (some ⟨bk (hv θ' h'),off,none⟩)=_;rw[be hs h];rfl
 | fn h' ps rs e=>exact be hs h.1
 | fz h' T t d off=>show Value.pointer (some ⟨bk (hv θ' h'),off,none⟩)=_;rw[be hs h.1];rfl
 | fzf h' T ps rs e=>show Value.pointer (some ⟨bk (hv θ' h'),0,none⟩)=_;rw[be hs h.1];rfl
 | rdn h' b t d=>exact be hs h.1
theorem LV.ok_same (hs:Same n θ θ') (a:n<=m) {x:LV} (h:x.ok P w0 J θ n) (c:J.le J'):x.ok P w0 J' θ' m:=by
 cases x with
 | val _=>exact h
 | nb _=>trivial
 | rd h' t d=>exact ⟨aJ h.1 a,by rw[be hs h.1];exact Rep.rd_mono _ h.2 c⟩
 | own h'=>exact ⟨aJ h.1 a,by rw[be hs h.1];exact h.2⟩
 | ptr h' off=>exact aJ h a
 | fn h' ps rs e=>exact ⟨aJ h.1 a,by rw[be hs h.1];exact h.2.mono c⟩
 | fz h' T t d off =>
  have ⟨f,cells,g,i⟩:=h;exact ⟨aJ f a,cells,by rw[be hs f];exact c _ _ g,Rep.rd_mono _ i c⟩
 | fzf h' T ps rs e =>
  have ⟨f,u,g,i⟩:=h;exact ⟨aJ f a,u,by rw[be hs f];exact c _ _ g,i.mono c⟩
 | rdn h' b t d=>exact ⟨aJ h.1 a,by rw[be hs h.1];exact ⟨Rep.rd_mono _ h.2.1 c,h.2.2⟩⟩
theorem jc (hs:Same n θ θ') {xs:List LV} (h: ∀x∈xs,x.ok P w0 J θ n):xs.map (·.v θ')=xs.map (·.v θ):=List.map_congr_left fun x a=>LV.v_same hs (h x a)
theorem yV (hs:Same n θ θ') {y:Bool×List LV} (a: ∀x∈y.2,x.ok P w0 J θ n):l9 θ' y=l9 θ y:=by
 unfold l9;rw[jc hs a];split
 ·rfl
 ·cases b:y.2 with
  | nil=>rfl
  | cons x l=>exact LV.v_same hs (a x (by grind))
theorem AV.v_same (hs:Same n θ θ') {x:AV} (h:x.ok P w0 J θ n chs):x.v θ'=x.v θ:=by
 cases x with
 | one x=>exact LV.v_same hs h
 | agg xs=>show Value.agg _=Value.agg _;rw[jc hs h]
 | tup ys =>
  show Value.tuple _=Value.tuple _;congr 2;refine List.map_congr_left fun y a=>?_;exact yV hs (h y a)
 | elr h' E t xs x i off=>show pt (hv θ' h') _=_;rw[be hs h.1];rfl
 | elo h' ver E t xs x i off=>show pt (hv θ' h') _=_;rw[be hs h.1];rfl
 | sub h' ver E t xs l=>show sI (hv θ' h') _ _ _=_;rw[be hs h.1];rfl
 | pre h' ver E t xs l=>show sI (hv θ' h') _ _ _=_;rw[be hs h.1];rfl
 | vw u h' k N l m=>exact be hs h.1
 | xv top u h' k N l m=>exact be hs h.1
 | capv h' c=>rfl
 | any h'=>exact be hs h
 | und=>rfl
def Newer (n:Nat) (chs chs':List Ent):Prop:= ∀e,e∈chs'-> ∀h ver c,Says e h ver c->n<=ver\/ ∃e0,e0∈chs/\Says e0 h ver c
theorem Newer.rfl:Newer n chs chs:=fun e d h a c b=>.inr ⟨e,d,b⟩
theorem Mem.newer (d:Newer n chs chs') (i:n<=m) {h:Hdr} {ver:Nat} {c:Chk} (k:Mem chs n h ver c):Mem chs' m h ver c:=
 ⟨aJ k.1 i,fun e l b f=>by
  rcases d e l h ver b f with a | ⟨j,g,a⟩
  ·have:=k.1;omega
  ·exact k.2 j g b a⟩
theorem AV.ok_same (hs:Same n θ θ') (a:n<=m) (e:Newer n chs chs') {x:AV} (h:x.ok P w0 J θ n chs) (b:J.le J'):x.ok P w0 J' θ' m chs':=by
 cases x with
 | one x=>exact LV.ok_same hs a h b
 | agg xs=>exact fun x d=>LV.ok_same hs a (h x d) b
 | tup ys=>exact fun y f x d=>LV.ok_same hs a (h y f x d) b
 | elr h' E t xs x i off=>exact ⟨aJ h.1 a,h.2.1,by rw[be hs h.1];exact Rep.rd_mono _ h.2.2 b⟩
 | elo h' ver E t xs x i off=>exact ⟨aJ h.1 a,h.2.1,h.2.2.newer e a⟩
 | sub h' ver E t xs l=>exact ⟨aJ h.1 a,h.2.1,h.2.2.newer e a⟩
 | pre h' ver E t xs l=>exact ⟨aJ h.1 a,h.2.1,h.2.2.newer e a⟩
 | vw u h' k N l m=>exact ⟨aJ h.1 a,aJ h.2.1 a,by rw[be hs h.1,be hs h.2.1];exact h.2.2⟩
 | xv top u h' k N l m=>exact ⟨aJ h.1 a,aJ h.2.1 a,by rw[be hs h.1,be hs h.2.1];exact h.2.2⟩
 | capv h' c=>exact ⟨aJ h.1 a,by rw[be hs h.1];exact h.2⟩
 | any h'=>exact aJ h a
 | und=>trivial
theorem o0 (hs:Same n θ θ') {e:Ent} (h:okE P w0 J θ n chs e):toCh P θ' e=toCh P θ e:=by
 have ⟨k,a,c⟩:=e;cases c with
 | own t d=>show Ch.own _ [hv θ' k] d=_;rw[be hs h.1];rfl
 | blk T cells=>show Ch.blk (bk (hv θ' k)) (cells.map (·.v θ')) T=_;rw[be hs h.1,jc hs h.2.2];rfl
 | hole over t d u y f i kk off lv=>show Ch.gap _ [hv θ' k] _ f (ptB (hv θ' k)) (ptO (hv θ' k)+(i.toNat*kk+off)) (lv.v θ')=_;rw[be hs h.1,LV.v_same hs h.2.2.1];rfl
 | box T t d=>show Ch.box (bk (hv θ' k)) T _ d=_;rw[be hs h.1];rfl
 | map K E kk e m=>show @Ch.mp P K E kk.den e.den kk.dec kk.lit kk.ok e.lit e.z (hv θ' k) m=_;rw[be hs h.1];rfl
 | clo _ _ _=>rfl
theorem gL (hs:Same n θ θ') (a:n<=m) (A:Newer n chs chs') {e:Ent} (h:okE P w0 J θ n chs e) (g:J.le J'):okE P w0 J' θ' m chs' e:=by
 have ⟨k,w,c⟩:=e;cases c with
 | own t d=>exact ⟨aJ h.1 a,aJ h.2.1 a,trivial⟩
 | blk T cells=>exact ⟨aJ h.1 a,aJ h.2.1 a,fun x b=>LV.ok_same hs a (h.2.2 x b) g⟩
 | hole over t d u y f i kk off lv=>exact ⟨aJ h.1 a,aJ h.2.1 a,LV.ok_same hs a h.2.2.1 g,h.2.2.2.1,h.2.2.2.2.1,fun l s=>(h.2.2.2.2.2 l s).newer A a⟩
 | box T t d=>exact ⟨aJ h.1 a,aJ h.2.1 a,trivial⟩
 | map K E kk e m=>exact ⟨aJ h.1 a,aJ h.2.1 a,trivial⟩
 | clo f first capt =>
  have ⟨q,r,p,o,z⟩:=h;refine ⟨aJ q a,aJ r a,fun y j x b=>LV.ok_same hs a (p y j x b) g,fun x b=>LV.ok_same hs a (o x b) g,?_⟩;rw[be hs q,jc hs o,List.map_congr_left fun y j=>yV hs (p y j)];exact z
theorem ke (hs:Same n θ θ') {l:List Ent} (h: ∀e∈l,okE P w0 J θ n chs e):l.map (toCh P θ')=l.map (toCh P θ):=List.map_congr_left fun e a=>o0 hs (h e a)
theorem Bk (hs:Same n θ θ') {s:Sg} (h: ∀e∈s.env,e.2.2.ok P w0 J θ n chs):envL θ' s=envL θ s:=List.map_congr_left fun e a=>by grind[AV.v_same]
end
def look (l:List (Nat×Nat×AV)) (t:Nat):Option AV:=match l with
 | [] =>none
 | (u,_,v)::l=>if Nat.beq u t then some v else look l t
def Iz (v:Value):Option AV:=match v.oneCell' with
 | true=>some (.one (.val v))
 | false=>none
def opd (s:Sg):Operand->Option AV
 | .tmp t=>look s.env t
 | .const v=>Iz v
 | .func f=>some (.one (.val (.func (.func f) #[] #[])))
 | .global _=>none
theorem uO {t:Nat} {v:AV} : ∀ {l:List (Nat×Nat×AV)},look l t=some v-> ∃e∈l,e.2.2=v
 | (u,k,x)::l,h=>by
  unfold look at h;split at h
  ·simp_all
  ·have ⟨e,b,a⟩:=uO h;grind
theorem iV {θ:Th} {t:Nat} {v:AV} : ∀ {l:List (Nat×Nat×AV)},look l t=some v->(l.map fun e=>(e.1,e.2.2.v θ)).lookup t=some (v.v θ)
 | (u,k,x)::l,h=>by
  unfold look at h;rw[List.map_cons,List.lookup_cons];split at h
  ·simp_all
  ·rename_i b;have a:(t==u)=false:=by
    simp[beq_eq_false_iff_ne];intro e;subst e;exact b (Nat.beq_refl t)
   rw[show (t==(u,x.v θ).1)=false from a];exact iV h
section
variable {P:Program} {w0:World} {J:Hp} {θ:Th} {s:Sg} {x:Operand} {v:AV}
theorem DG {c:Value} (h:Iz c=some v):c.oneCell'=true/\v= .one (.val c):=by
 grind[Iz,ae]
theorem cf (a:Fine P w0 J θ s) (h:opd s x=some v):v.ok P w0 J θ s.nxt s.chs:=by
 cases x with
 | tmp t=>obtain ⟨e,d,rfl⟩:=uO h;exact a.env e d
 | const c=>obtain ⟨b,rfl⟩:=DG h;exact b
 | func f=>rw[<-ae h];rfl
 | global g=>cases h
theorem aH (h:opd s x=some v):evL (envL θ s) x=v.v θ:=by
 cases x with
 | tmp t =>
  have:=iV (θ:=θ) h
  show ((envL θ s).lookup t).getD undef=_;grind[envL]
 | const c=>obtain ⟨a,rfl⟩:=DG h;rfl
 | func f=>rw[<-ae h];rfl
 | global g=>cases h
def okO (n:Nat) (s:Sg) (o:Oper):Bool:=o.op.operands.toList.all (fun x=>(opd s x).isSome || match x with | .global _=>true | _=>false)&&dstOk n o.dst&&noSelect o
theorem Uw {n:Nat} {o:Oper} (h:okO n s o=true):(xj (envL θ s) o&&dstOk n o.dst&&noSelect o)=true:=by
 unfold okO at h;rw[aj,aj] at h;rw[aj,aj];refine ⟨⟨List.all_eq_true.2 fun x a=>?_,h.1.2⟩,h.2⟩;have a:=List.all_eq_true.1 h.1.1 x a;cases x with
 | tmp t =>
  simp[Bool.or_false] at a;have ⟨v,hv⟩:=Option.isSome_iff_exists.1 a
  have:=iV (θ:=θ) (show look s.env t=some v from hv)
  show ((envL θ s).lookup t).isSome=true;grind[envL]
 | const c=>rfl
 | func f=>rfl
 | global g=>rfl
end
structure Res where
 rs:List Ent
 ns:List Ent
 rest:List Ent
 gives:List (Hdr×Chk)
 av:AV
def Res.chs (r:Res) (ver:Nat):List Ent:=r.gives.map (fun g=>(g.1,ver,g.2))++(r.rs++r.rest)
def NF (d:Option Nat) (n:Nat) (v:AV) (l:List (Nat×Nat×AV)):List (Nat×Nat×AV):=match d with
 | some d=>(d,n,v)::l
 | none=>l
def after (s:Sg) (d:Option Nat) (r:Res):Sg:=⟨NF d s.nxt r.av s.env,r.chs s.nxt,s.nxt+1⟩
def Res.pure (s:Sg) (av:AV):Res:=⟨[],[],s.chs,[],av⟩
structure Good (P:Program) (w0:World) (s:Sg) (o:Oper) (r:Res):Prop where
 perm:s.chs.Perm (r.rs++r.ns++r.rest)
 says: ∀J θ,Fine P w0 J θ s-> ∀g,g∈r.gives-> ∀ver c,SaysH g.2 ver c-> ∃e0,e0∈s.chs/\Says e0 g.1 ver c
 op: ∀J θ,Fine P w0 J θ s->OpT P J w0 o (evL (envL θ s)) ((r.rs++r.ns).map (toCh P θ))
  (fun v=>r.av.ok P w0 J (upd θ s.nxt v) (s.nxt+1) (r.chs s.nxt)/\r.av.v (upd θ s.nxt v)=v/\ ∀g∈r.gives,okE P w0 J (upd θ s.nxt v) (s.nxt+1) (r.chs s.nxt) (g.1,s.nxt,g.2))
  (fun v=>r.rs.map (toCh P θ)++r.gives.map fun g=>toCh P (upd θ s.nxt v) (g.1,s.nxt,g.2))
structure GoodA (P:Program) (w0:World) (J:Hp) (θ:Th) (s:Sg) (o:Oper) (r:Res):Prop where
 perm:s.chs.Perm (r.rs++r.ns++r.rest)
 says: ∀g,g∈r.gives-> ∀ver c,SaysH g.2 ver c-> ∃e0,e0∈s.chs/\Says e0 g.1 ver c
 op:OpT P J w0 o (evL (envL θ s)) ((r.rs++r.ns).map (toCh P θ))
  (fun v=>r.av.ok P w0 J (upd θ s.nxt v) (s.nxt+1) (r.chs s.nxt)/\r.av.v (upd θ s.nxt v)=v/\ ∀g∈r.gives,okE P w0 J (upd θ s.nxt v) (s.nxt+1) (r.chs s.nxt) (g.1,s.nxt,g.2))
  (fun v=>r.rs.map (toCh P θ)++r.gives.map fun g=>toCh P (upd θ s.nxt v) (g.1,s.nxt,g.2))
theorem Good.at {P:Program} {w0:World} {J:Hp} {θ:Th} {s:Sg} {o:Oper} {r:Res} (h:Good P w0 s o r) (a:Fine P w0 J θ s):GoodA P w0 J θ s o r:=⟨h.perm,h.says J θ a,h.op J θ a⟩
def plain (l:List (Hdr×Chk)):Bool:=l.all fun g=>match g.2 with
 | .hole _ _ _ _ _ _ _ _ _ _=>false
 | _=>true
theorem aX {P:Program} {w0:World} {s:Sg} {l:List (Hdr×Chk)} {chs:List Ent} (h:plain l=true): ∀J θ,Fine P w0 J θ s-> ∀g,g∈l-> ∀a c,SaysH g.2 a c-> ∃e0,e0∈chs/\Says e0 g.1 a c:=fun _ _ _ g d a c b=>by
 have:=(List.all_eq_true.1 h) g d
 have ⟨e,x⟩:=g;cases x with
 | hole _ _ _ _ _ _ _ _ _ _=>grind
 | _=>exact b.elim
theorem OpT.weak {P:Program} {w0:World} {o:Oper} {I:Hp} {ev:Operand->Value} {rn:List Ch} {fact a:Value->Prop} {gv b:Value->List Ch} (h:OpT P I w0 o ev rn fact gv) (c: ∀v,fact v->a v) (e: ∀v,fact v->gv v=b v):OpT P I w0 o ev rn a b :=
 fun w C d=>(h w C d).imp fun v w hv=>⟨c v hv.1,by grind⟩
section
variable {P:Program} {I:Hp} {w0 w:World} {F:Ch} {n:Nat} {J:Hp} {θ:Th} {s:Sg} {a:Act} {o:Oper} {r:Res} {av:AV}
theorem Res.newer (hp:s.chs.Perm (r.rs++r.ns++r.rest)) (hs: ∀g,g∈r.gives-> ∀b c,SaysH g.2 b c-> ∃e0,e0∈s.chs/\Says e0 g.1 b c):Newer s.nxt s.chs (r.chs s.nxt):=fun e d h b c k=>by
 rcases aG d with d | d
 ·obtain ⟨g,f,rfl⟩:=List.mem_map.1 d;obtain ⟨rfl,k⟩:=k;grind
 grind
theorem fQ (d: ∀J θ,Fine P w0 J θ s->OpT P J w0 o (evL (envL θ s)) [] (· =av.v θ) (fun _=>[])) (b: ∀J θ,Fine P w0 J θ s->av.ok P w0 J θ s.nxt s.chs):Good P w0 s o (Res.pure s av):=
 ⟨List.Perm.refl _,fun _ _ _ g e=>(by cases e),fun J θ c=>OpT.weak (d J θ c) (fun v hv=>by
  subst hv;exact ⟨AV.ok_same Same.upd (Nat.le_succ _) Newer.rfl (b J θ c) Hp.le.rfl,AV.v_same Same.upd (b J θ c),fun g e=>by cases e⟩) (fun v hv=>rfl)⟩
theorem EG {θ':Th} {d:Option Nat} {v:Value} (h:envL θ' s=envL θ s) (hv:av.v θ'=v) {chs:List Ent} {m:Nat} :envL θ' ⟨NF d s.nxt av s.env,chs,m⟩=Nc d v (envL θ s):=by
 cases d with
 | none=>exact h
 | some d=>show (d,av.v θ')::envL θ' s=_;rw[h,hv];rfl
theorem rN {e:Nat×Nat×AV} {k:Nat} : ∀ {d:Option Nat} {l:List (Nat×Nat×AV)},e∈NF d k av l->(e.2.2=av/\e.2.1=k)\/e∈l:=by
 intro d l b;cases d with
 | none=>exact .inr b
 | some d =>
  rcases aE b with rfl | h
  ·grind
  grind
theorem GG {d:Option Nat} {k:Nat} {l:List (Nat×Nat×AV)} (h:l.Pairwise fun a b=>a.2.1≠b.2.1) (hv: ∀e∈l,e.2.1<k):(NF d k av l).Pairwise fun a b=>a.2.1≠b.2.1:=by
 cases d with
 | none=>exact h
 | some d=>exact List.pairwise_cons.2 ⟨fun e f c=>by grind,h⟩
theorem Ux {ops:Array Oper} {rest:List Oper} {Q:Exit->Act->World->Prop} (i:GoodA P w0 J θ s o r) (d:Sim P I w0 F n J θ s a w) (m:o.guard=none) (l:okO n s o=true)
  (k: ∀θ' a w,Same s.nxt θ θ'->Sim P I w0 F n J θ' (after s o.dst r) a w->wpList P ops Q rest a w):wpList P ops Q (o::rest) a w:=by
 have hp:(s.chs.map (toCh P θ)++ [F]).Perm ((r.rs++r.ns).map (toCh P θ)++(r.rest.map (toCh P θ)++ [F])):=by
  have:=(i.perm.map (toCh P θ)).append_right [F]
  grind
 have b: ∀e,e∈r.rs\/e∈r.rest->okE P w0 J θ s.nxt s.chs e:=fun e c=>d.fine.chs e (i.perm.mem_iff.2 (by grind));have f:=Res.newer i.perm i.says;refine Up d.agr d.st m (i.op) hp (Uw l) fun v a w hv A S=>k (upd θ s.nxt v) a w Same.upd ⟨d.le,?_,?_,?_,?_,GG d.fine.nd d.fine.ver,?_,d.fine.lay⟩
 ·rw[show envL (upd θ s.nxt v) (after s o.dst r)=Nc o.dst v (envL θ s) from EG (Bk Same.upd d.fine.env) hv.2.1];exact A
 ·have e:(after s o.dst r).chs.map (toCh P (upd θ s.nxt v))=(r.gives.map fun g=>toCh P (upd θ s.nxt v) (g.1,s.nxt,g.2))++(r.rs.map (toCh P θ)++r.rest.map (toCh P θ)):=by
   show (Res.chs r s.nxt).map _=_;unfold Res.chs;rw[aZ,aZ,List.map_map,ke Same.upd fun e c=>b e (.inl c),ke Same.upd fun e c=>b e (.inr c)]
   rfl
  refine S.perm ?_;grind[aC,List.perm_append_comm_assoc]
 ·intro e c;rcases rN c with h | h
  ·rw[h.1];exact hv.1
  ·exact AV.ok_same Same.upd (Nat.le_succ _) f (d.fine.env e h) Hp.le.rfl
 ·intro e c;rcases rN c with h | h
  ·rw[h.2];exact aB _
  ·exact bc (d.fine.ver e h)
 ·intro e c;rcases aG c with c | c
  ·obtain ⟨g,j,rfl⟩:=List.mem_map.1 c;exact hv.2.2 g j
  ·exact gL Same.upd (Nat.le_succ _) f (b e (by grind)) Hp.le.rfl
theorem Ws {ops:Array Oper} {rest:List Oper} {Q:Exit->Act->World->Prop} {g d:Nat} {want b:Bool} (l:GoodA P w0 J θ s o r) (i:Sim P I w0 F n J θ s a w) (u:o.guard=some (g,want)) (q:((ops[g]?).bind (·.dst))=some d) (hv:(envL θ s).lookup d=some (.bool b)) (t:b=want) (p:okO n s o=true)
  (k: ∀θ' a w,Same s.nxt θ θ'->Sim P I w0 F n J θ' (after s o.dst r) a w->wpList P ops Q rest a w):wpList P ops Q (o::rest) a w:=by
 have hp:(s.chs.map (toCh P θ)++ [F]).Perm ((r.rs++r.ns).map (toCh P θ)++(r.rest.map (toCh P θ)++ [F])):=by
  have:=(l.perm.map (toCh P θ)).append_right [F]
  grind
 have c: ∀e,e∈r.rs\/e∈r.rest->okE P w0 J θ s.nxt s.chs e:=fun e f=>i.fine.chs e (l.perm.mem_iff.2 (by grind));have j:=Res.newer l.perm l.says;refine Rx i.agr i.st u q hv t (l.op) hp (Uw p) fun v a w hv A S=>k (upd θ s.nxt v) a w Same.upd ⟨i.le,?_,?_,?_,?_,GG i.fine.nd i.fine.ver,?_,i.fine.lay⟩
 ·rw[show envL (upd θ s.nxt v) (after s o.dst r)=Nc o.dst v (envL θ s) from EG (Bk Same.upd i.fine.env) hv.2.1];exact A
 ·have e:(after s o.dst r).chs.map (toCh P (upd θ s.nxt v))=(r.gives.map fun g=>toCh P (upd θ s.nxt v) (g.1,s.nxt,g.2))++(r.rs.map (toCh P θ)++r.rest.map (toCh P θ)):=by
   show (Res.chs r s.nxt).map _=_;unfold Res.chs;rw[aZ,aZ,List.map_map,ke Same.upd fun e f=>c e (.inl f),ke Same.upd fun e f=>c e (.inr f)]
   rfl
  refine S.perm ?_;grind[aC,List.perm_append_comm_assoc]
 ·intro e f;rcases rN f with h | h
  ·rw[h.1];exact hv.1
  ·exact AV.ok_same Same.upd (Nat.le_succ _) j (i.fine.env e h) Hp.le.rfl
 ·intro e f;rcases rN f with h | h
  ·rw[h.2];exact aB _
  ·exact bc (i.fine.ver e h)
 ·intro e f;rcases aG f with f | f
  ·obtain ⟨g,m,rfl⟩:=List.mem_map.1 f;exact hv.2.2 g m
  ·exact gL Same.upd (Nat.le_succ _) j (c e (by grind)) Hp.le.rfl
def skip (s:Sg) (d:Option Nat):Sg:=⟨NF d s.nxt .und s.env,s.chs,s.nxt+1⟩
theorem NG {v:AV} {d:Option Nat} (b:Sim P I w0 F n J θ s a w) {f:Act} (g:Agr n f (Nc d (v.v θ) (envL θ s))) (hv:v.ok P w0 J θ s.nxt s.chs):Sim P I w0 F n J θ ⟨NF d s.nxt v s.env,s.chs,s.nxt+1⟩ f w:=
 ⟨b.le,by grind[EG],b.st,fun e c=>by
  rcases rN c with h | h
  ·rw[h.1];exact AV.ok_same Same.rfl (Nat.le_succ _) Newer.rfl hv Hp.le.rfl
  ·exact AV.ok_same Same.rfl (Nat.le_succ _) Newer.rfl (b.fine.env e h) Hp.le.rfl,fun e c=>by
  rcases rN c with h | h
  ·grind
  ·exact bc (b.fine.ver e h),GG b.fine.nd b.fine.ver,fun e c=>gL Same.rfl (Nat.le_succ _) Newer.rfl (b.fine.chs e c) Hp.le.rfl,b.fine.lay⟩
theorem RH {ops:Array Oper} {rest:List Oper} {Q:Exit->Act->World->Prop} {g d:Nat} {want b:Bool} (c:Sim P I w0 F n J θ s a w) (i:o.guard=some (g,want)) (e:((ops[g]?).bind (·.dst))=some d) (hv:(envL θ s).lookup d=some (.bool b)) (f:b= !want) (h:dstOk n o.dst=true)
  (k: ∀a,Sim P I w0 F n J θ (skip s o.dst) a w->wpList P ops Q rest a w):wpList P ops Q (o::rest) a w:=
 Rw c.agr c.st i e hv f h fun a A=>k a (NG c A trivial)
theorem LU {ops:Array Oper} {rest:List Oper} {Q:Exit->Act->World->Prop} {g d:Nat} {want:Bool} (b:Sim P I w0 F n J θ s a w) (f:o.guard=some (g,want)) (c:((ops[g]?).bind (·.dst))=some d) (hv:(envL θ s).lookup d=some undef) (e:dstOk n o.dst=true)
  (k: ∀a,Sim P I w0 F n J θ (skip s o.dst) a w->wpList P ops Q rest a w):wpList P ops Q (o::rest) a w:=
 LR b.agr b.st f c hv e fun a A=>k a (NG b A trivial)
end
def ikD:Option IntKind->TypeDesc
 | some k=>.int k
 | none=>.string
structure MD where
 K:TypeId
 E:TypeId
 k:MK
 e:ME
def MDok (P:Program) (T:TypeId) (m:MD):Prop:=
 P.underlying T=some (.map m.K m.E)/\ @KeyOk P m.K m.k.den m.k.dec m.k.val m.k.lit m.k.ok/\EltOk P m.E m.e.val m.e.lit m.e.ok m.e.z
structure TD where
 agg:Bool
 n:Nat
 el:Option TypeId
 ty:Ty
 fields:List (Nat×Nat)
 bytes:Option Nat
 place:Option (List (Nat×Nat))
 boo:Bool
 eq:Option (List (Option IntKind))
 mp:Option MD
 ik:Option (Option IntKind)
 fz:Bool
 pt:Option TypeId
def Curq:List (Option IntKind)->(List Value->List Value->Bool->Prop)->Prop
 | [],p=>p [] [] true
 | none::ks,p=> ∀a b:Bool,Curq ks fun xs ys r=>p (.bool a::xs) (.bool b::ys) ((a==b)&&r)
 | some k::ks,p=> ∀a b:Int,Curq ks fun xs ys r=>p (.int k a::xs) (.int k b::ys) ((a==b)&&r)
def lvB:LV->Option Bool
 | .val (.bool b)=>some b
 | .nb b=>some (!b)
 | _=>none
def lvI (k:IntKind):LV->Option Int
 | .val (.int j m)=>if j=k then some m else none
 | _=>none
theorem aby {θ:Th} {x:LV} {b:Bool} (h:lvB x=some b):x.v θ= .bool b:=by
 unfold lvB at h;split at h <;> first | (cases h;rfl) | cases h
theorem abz {θ:Th} {k:IntKind} {x:LV} {m:Int} (h:lvI k x=some m):x.v θ= .int k m:=by
 unfold lvI at h;split at h
 ·split at h
  ·rename_i e;subst e;cases h;rfl
  grind
 grind
def ade:Option IntKind->LV->LV->Option Bool
 | none,x,y=>(lvB x).bind fun a=>(lvB y).bind fun b=>some (a==b)
 | some k,x,y=>(lvI k x).bind fun a=>(lvI k y).bind fun b=>some (a==b)
def abA:List (Option IntKind)->List LV->List LV->Option Bool
 | [],[],[] =>some true
 | k::ks,x::xs,y::ys=>(ade k x y).bind fun q=>(abA ks xs ys).bind fun r=>some (q&&r)
 | _,_,_=>none
theorem Wt {θ:Th} : ∀ {d:List (Option IntKind)} {p:List Value->List Value->Bool->Prop} {xs ys:List LV} {r:Bool},Curq d p->abA d xs ys=some r->p (xs.map (·.v θ)) (ys.map (·.v θ)) r:=by
 intro d;induction d with
 | nil =>
  intro p xs ys r hp h
  match xs,ys,h with
  | [],[],h=>cases h;exact hp
 | cons k d ih =>
  intro p xs ys r hp h
  match xs,ys,h with
  | x::xs,y::ys,h =>
   have ⟨q,c,h⟩:=Option.bind_eq_some_iff.1 h;have ⟨i,e,h⟩:=Option.bind_eq_some_iff.1 h;cases k with
   | none =>
    have ⟨a,f,c⟩:=Option.bind_eq_some_iff.1 c;have ⟨b,g,c⟩:=Option.bind_eq_some_iff.1 c
    have:=ih (hp a b) e
    grind[aby]
   | some k =>
    have ⟨a,f,c⟩:=Option.bind_eq_some_iff.1 c;have ⟨b,g,c⟩:=Option.bind_eq_some_iff.1 c
    have:=ih (hp a b) e
    grind[abz]
def zeroCells:Ty->List Value
 | .int k=>[.int k 0]
 | .bool=>[.bool false]
 | .str=>[.string ⟨#[]⟩]
 | .raw=>[.int .i64 0]
 | .prod a b=>zeroCells a++zeroCells b
 | .sl _ _=>[.slice none 0 0]
 | .fro t=>zeroCells t
 | .wr t=>zeroCells t
 | .tree _ _ _=>[.pointer none]
 | .bag t=>zeroCells t
def EH:(t:Ty)->t.den
 | .int _=>(0:Int)
 | .bool=>false
 | .str=>(⟨#[]⟩:ByteArray)
 | .raw=>(⟨.int .i64 0,rfl⟩:Raw)
 | .prod a b=>(EH a,EH b)
 | .sl _ t=>([] :List t.den)
 | .fro t=>EH t
 | .wr t=>EH t
 | .tree _ _ t=>(Tr.nil:Tr t.den)
 | .bag t=>EH t
theorem qA: ∀(t:Ty) (I:Hp),t.rep.rd I (zeroCells t) (EH t)
 | .int k,I=>rfl
 | .bool,I=>rfl
 | .str,I=>rfl
 | .raw,I=>rfl
 | .prod a b,I=>⟨_,_,rfl,qA a I,qA b I⟩
 | .sl _ _,I=>Us
 | .fro t,I=>qA t I
 | .wr t,I=>qA t I
 | .tree _ _ _,I=>⟨_,rfl,.nil⟩
 | .bag t,I=>qA t I
theorem AU: ∀(t:Ty),Zro t.rep (zeroCells t) (EH t)
 | .int k=>AS
 | .bool=>(AS (h1:=fun _=>rfl))
 | .str=>(AS (h1:=fun _=>rfl))
 | .raw=>(AS (α:=Raw) (enc:=(·.1)) (h1:=(·.2)) (x:=⟨.int .i64 0,rfl⟩))
 | .prod a b=>Rz (AU a) (AU b)
 | .sl _ _=>We
 | .fro t=>Wf (qA t)
 | .wr t=>AU t
 | .tree _ _ _=>RE
 | .bag t=>Wp (qA t)
theorem J9: ∀(t:Ty),∀v∈zeroCells t,v.oneCell'=true:=fun t v hv=>Rep.rd_one _ (qA t fun _=>none) v hv
theorem mV: ∀t:Ty,zeroCells t.erase=zeroCells t
 | .int _=>rfl
 | .bool=>rfl
 | .str=>rfl
 | .raw=>rfl
 | .prod a b=>by show zeroCells a.erase++zeroCells b.erase=_;rw[mV a,mV b];rfl
 | .sl _ _=>rfl
 | .fro t=>mV t
 | .wr t=>mV t
 | .tree _ _ _=>rfl
 | .bag t=>mV t
theorem xr (t:Ty):(zeroCells t).length=t.size:=(Rep.rd_len _ (qA t fun _=>none)).trans t.rep_size
abbrev TT:=List (TypeId×TD)
def td (tt:TT) (T:Nat):Option TD:=match tt with
 | [] =>none
 | (U,d)::l=>if Nat.beq U T then some d else td l T
structure TDok (P:Program) (T:TypeId) (d:TD):Prop where
 ti:TI P T d.agg d.n
 one:(d.agg || d.n==1)=true
 sz:d.ty.size=d.n
 el: ∀E,d.el=some E->P.underlying T=some (.slice E)
 fld: ∀f q,d.fields[f]? =some q->TF P T f q.1 q.2
 zero: ∀b,d.bytes=some b-> ∃z,TZ P T z d.n b/\z.cells=(zeroCells d.ty).toArray/\1<=b
 place: ∀pl,d.place=some pl->TB P T pl
 boo:d.boo=true->P.underlying T=some .bool
 eq: ∀ks,d.eq=some ks-> ∀w,Curq ks fun xs ys r=>EqT P T (.agg xs.toArray) (.agg ys.toArray) r w
 mp: ∀m,d.mp=some m->MDok P T m
 ik: ∀k,d.ik=some k->P.underlying T=some (ikD k)
 fz:d.fz=true-> ∃b,TZ P T .nilFunc 1 b
 pt: ∀e,d.pt=some e->P.underlying T=some (.pointer e)
def TTok (P:Program):TT->Prop
 | [] =>True
 | (T,d)::l=>TDok P T d/\TTok P l
theorem TTok.get {P:Program} {T:Nat} {d:TD} : ∀ {tt:TT},TTok P tt->td tt T=some d->TDok P T d
 | (U,x)::l,⟨h1,h2⟩,h=>by
  unfold td at h;split at h
  ·rename_i a
   have:=au a
   subst this;rw[<-ae h];exact h1
  ·exact TTok.get h2 h
def qB (id:Nat):(t:Ty)->t.den->Nat->List LV
 | .int k,d,_=>[.val (.int k d)]
 | .bool,d,_=>[.val (.bool d)]
 | .str,d,_=>[.val (.string d)]
 | .raw,d,_=>[.val d.1]
 | .prod a b,d,j=>qB id a d.1 j++qB id b d.2 (j+a.size)
 | .sl E t,d,j=>[.rd ⟨id,[j]⟩ (.sl E t) d]
 | .fro t,d,j=>qB id t d j
 | .bag t,d,j=>qB id t d j
 | .wr t,d,j=>qB id t d j
 | .tree T E t,d,j=>[.rd ⟨id,[j]⟩ (.tree T E t) d]
def NH (id:Nat):(t:Ty)->t.den->AV
 | .prod a b,d=>.agg (qB id (.prod a b) d 0)
 | .int k,d=>.one (.val (.int k d))
 | .bool,d=>.one (.val (.bool d))
 | .str,d=>.one (.val (.string d))
 | .raw,d=>.one (.val d.1)
 | .sl E t,d=>.one (.rd ⟨id,[]⟩ (.sl E t) d)
 | .fro t,d=>NH id t d
 | .bag t,d=>NH id t d
 | .wr t,d=>.agg (qB id t d 0)
 | .tree T E t,d=>.one (.rd ⟨id,[]⟩ (.tree T E t) d)
theorem jF {P:Program} {w0:World} {J:Hp} {θ:Th} {id n:Nat} (e:id<n) {all:List Value} (f:θ id= .agg all.toArray): ∀(t:Ty) (d:t.den) (j:Nat) (cs:List Value),t.rep.rd J cs d->(∀i v,cs[i]? =some v->all[j+i]? =some v)->
  (∀x∈qB id t d j,x.ok P w0 J θ n)/\(qB id t d j).map (·.v θ)=cs
 | .int k,d,j,cs,h,_=>⟨fun x c=>by cases ak c;rfl,h.symm⟩
 | .bool,d,j,cs,h,_=>⟨fun x c=>by cases ak c;rfl,h.symm⟩
 | .str,d,j,cs,h,_=>⟨fun x c=>by cases ak c;rfl,h.symm⟩
 | .raw,d,j,cs,h,_=>⟨fun x c=>by cases ak c;exact d.2,h.symm⟩
 | .prod a b,d,j,cs,h,hc=>by
  obtain ⟨q,r,rfl,l,m⟩:=h;have s:=(Rep.rd_len _ l).trans a.rep_size;obtain ⟨p,y⟩:=jF e f a d.1 j q l fun i v hv=>hc i v (by grind);obtain ⟨o,w⟩:=jF e f b d.2 (j+a.size) r m fun i v hv=>by
   have:=hc (a.size+i) v (by grind)
   grind
  refine ⟨fun x c=>?_,?_⟩
  ·rcases aG c with c | c
   ·exact p x c
   ·exact o x c
  grind[qB]
 | .sl E t,d,j,cs,h,hc=>by
  obtain ⟨u,rfl⟩:=List.length_eq_one_iff.1 (Rep.rd_len _ h);have g:hv θ ⟨id,[j]⟩=u:=by
   show vg (θ id) [j] =u;rw[f];show (all.toArray.getD j undef)=u
   have:=hc 0 u rfl
   rw[Nat.add_zero] at this;simp[Array.getD_eq_getD_getElem?,this]
  refine ⟨fun x c=>?_,?_⟩
  ·cases ak c;exact ⟨e,by grind⟩
  ·show [hv θ ⟨id,[j]⟩] = [u];rw[g]
 | .fro t,d,j,cs,h,hc=>jF e f t d j cs h hc
 | .bag t,d,j,cs,h,hc=>jF e f t d j cs h hc
 | .wr t,d,j,cs,h,hc=>jF e f t d j cs h hc
 | .tree T E t,d,j,cs,h,hc=>by
  obtain ⟨u,rfl⟩:=List.length_eq_one_iff.1 (Rep.rd_len _ h);have g:hv θ ⟨id,[j]⟩=u:=by
   show vg (θ id) [j] =u;rw[f];show (all.toArray.getD j undef)=u
   have:=hc 0 u rfl
   rw[Nat.add_zero] at this;simp[Array.getD_eq_getD_getElem?,this]
  refine ⟨fun x c=>?_,?_⟩
  ·cases ak c;exact ⟨e,by grind⟩
  ·show [hv θ ⟨id,[j]⟩] = [u];rw[g]
theorem qZ {P:Program} {w0:World} {J:Hp} {θ:Th} {id n:Nat} {chs:List Ent} (e:id<n) {u:Value} (f:θ id=u): ∀(t:Ty) (d:t.den) (cs:List Value),t.rep.rd J cs d->Lds t.isProd cs u->(NH id t d).ok P w0 J θ n chs/\(NH id t d).v θ=u
 | .int k,d,cs,h,c=>⟨Eq.refl true,by
  rw[h] at c;exact (List.cons.inj c).1⟩
 | .bool,d,cs,h,c=>⟨Eq.refl true,by
  rw[h] at c;exact (List.cons.inj c).1⟩
 | .str,d,cs,h,c=>⟨Eq.refl true,by
  rw[h] at c;exact (List.cons.inj c).1⟩
 | .raw,d,cs,h,c=>⟨d.2,by
  rw[h] at c;exact (List.cons.inj c).1⟩
 | .prod a b,d,cs,h,c=>by
  have c:u= .agg cs.toArray:=c;obtain ⟨g,l⟩:=jF (J:=J) e (f.trans c) (.prod a b) d 0 cs h (fun i v hv=>by grind);exact ⟨g,by show Value.agg _=_;grind⟩
 | .sl E t,d,cs,h,c=>by
  subst c;have j:hv θ ⟨id,[]⟩=u:=f;exact ⟨⟨e,by grind⟩,j⟩
 | .fro t,d,cs,h,c=>qZ e f t d cs h c
 | .bag t,d,cs,h,c=>qZ e f t d cs h c
 | .wr t,d,cs,h,c=>by
  have c:u= .agg cs.toArray:=c;obtain ⟨g,l⟩:=jF (J:=J) e (f.trans c) t d 0 cs h (fun i v hv=>by grind);exact ⟨g,by show Value.agg _=_;grind⟩
 | .tree T E t,d,cs,h,c=>by
  subst c;have j:hv θ ⟨id,[]⟩=u:=f;exact ⟨⟨e,by grind⟩,j⟩
structure Part (t:Ty) where
 ty:Ty
 get:t.den->ty.den
 set:t.den->ty.den->t.den
def yW (g:Bool):(t:Ty)->Nat->Nat->Option (Part t)
 | t,off,n=>if Nat.beq off 0&&(Nat.beq t.size n&&(t.isProd==g)) then some ⟨t,fun x=>x,fun _ y=>y⟩ else match t with
  | .prod a b=>if Nat.blt off a.size then (yW g a off n).bind fun r=>some ⟨r.ty,fun x=>r.get x.1,fun x y=>(r.set x.1 y,x.2)⟩ else (yW g b (off - a.size) n).bind fun r=>some ⟨r.ty,fun x=>r.get x.2,fun x y=>(x.1,r.set x.2 y)⟩
  | .fro a=>(yW g a off n).bind fun r=>some ⟨.fro r.ty,r.get,r.set⟩
  | .wr a=>(yW g a off n).bind fun r=>some ⟨r.ty,r.get,r.set⟩
  | _=>none
def Lens {α β:Type} (R:Rep α) (off:Nat) (S:Rep β) (f:α->β) (u:α->β->α):Prop:= ∀I w c x G,R.own I w c x G-> ∃d G1 K,G.Perm (G1++K)/\(c.drop off).take S.size=d/\S.own I w d (f x) G1 /\
 ∀J w' d' y G',I.le J->(∀b,b∈K->w'.heap[b]? =w.heap[b]?)->S.own J w' d' y G'-> ∃F,F.Perm (G'++K)/\R.own J w' (spl c off d') (u x y) F
theorem Lens.self {α:Type} {R:Rep α} :Lens R 0 R (fun x=>x) (fun _ y=>y):=fun I w c x G h =>
 ⟨c,G,[],by simp,by rw[<-R.own_len h];simp,h,fun J e d y b g f a=>⟨b,by simp,by rw[DE _ _ _ (by rw[R.own_len h,R.own_len a];omega),R.own_len a,<-R.own_len h];grind⟩⟩
theorem Lens.fst {α β γ:Type} {A:Rep α} {B:Rep β} {S:Rep γ} {off:Nat} {f:α->γ} {u:α->γ->α} (hs:off+S.size<=A.size) (h:Lens A off S f u):Lens (tf A B) off S (fun x=>f x.1) (fun x y=>(u x.1 y,x.2)):=by
 rintro I w c x G ⟨m,t,s,e,rfl,rfl,g,o⟩;have ⟨d,v,K,p,E,z,r⟩:=h I w m x.1 s g;refine ⟨d,v,K++e,by grind,?_,z,fun J C i y D l j n=>?_⟩
 ·have H:=A.own_len g;grind
 ·have ⟨F,q,k⟩:=r J C i y D l (fun b a=>j b (bj _ a)) n;refine ⟨F++e,by grind,spl m off i,t,F,e,?_,rfl,k,B.own_stay (B.own_mono o l) fun b a=>j b (bp _ a)⟩;rw[xo _ _ _ _ (by rw[A.own_len g,S.own_len n];exact hs)]
theorem Lens.snd {α β γ:Type} {A:Rep α} {B:Rep β} {S:Rep γ} {off:Nat} {f:β->γ} {u:β->γ->β} (h:Lens B off S f u):Lens (tf A B) (A.size+off) S (fun x=>f x.2) (fun x y=>(x.1,u x.2 y)):=by
 rintro I w c x G ⟨s,l,a,C,rfl,rfl,m,n⟩;have ⟨d,v,K,p,H,z,o⟩:=h I w l x.2 C n;have r:=A.own_len m;refine ⟨d,v,a++K,(p.append_left a).trans (List.perm_append_comm_assoc _ _ _),?_,z,fun J D g y E j i t=>?_⟩
 ·grind[List.drop_append,List.drop_of_length_le,Nat.add_sub_cancel_left]
 ·have ⟨F,q,k⟩:=o J D g y E j (fun b e=>i b (bp _ e)) t;refine ⟨a++F,(q.append_left a).trans (List.perm_append_comm_assoc _ _ _),s,spl l off g,a,F,?_,rfl,A.own_stay (A.own_mono m j) fun b e=>i b (bj _ e),k⟩;rw[<-r,qW]
theorem Lens.fro {α β:Type} {R:Rep α} {S:Rep β} {off:Nat} {f:α->β} {u:α->β->α} (h:Fld R off S f) (k:Upd R off S u):Lens (yP R) off (yP S) f u:=by
 rintro I w c x G ⟨rfl,b⟩;have ⟨d,i,j⟩:=h I c x b;refine ⟨d,[],[],by simp,i,⟨rfl,j⟩,fun J m e y n g l a=>⟨[],by rw[a.1];simp,rfl,k J c x e y (R.rd_mono b g) a.2⟩⟩
structure PartOk {t:Ty} (off n:Nat) (r:Part t):Prop where
 fld:Fld t.rep off r.ty.rep r.get
 upd:Upd t.rep off r.ty.rep r.set
 updO:UpdO t.rep off r.ty.rep r.set
 lens:Lens t.rep off r.ty.rep r.get r.set
 eta: ∀x,r.set x (r.get x)=x
 size:r.ty.size=n
 fit:off+n<=t.size
theorem AW {g:Bool} : ∀(t:Ty) (off n:Nat) (r:Part t),yW g t off n=some r->PartOk off n r:=by
 intro t;induction t with
 | prod a b s o =>
  intro off n r h;unfold yW at h;split at h
  ·rename_i f;rw[aj,aj] at f;have l:=au f.1;have j:=au f.2.1;subst l;cases ae h;exact ⟨Fld.self,Upd.self,UpdO.self,Lens.self,fun _=>rfl,j,by omega⟩
  ·simp only at h;split at h
   ·have ⟨q,e,h⟩:=bind_some h;cases ae h;have k:=s off n q e;have i:off+q.ty.rep.size<=a.rep.size:=by rw[q.ty.rep_size,a.rep_size,k.size];exact k.fit
    exact ⟨Fld.fst k.fld,Upd.fst i k.upd,UpdO.fst i k.updO,Lens.fst i k.lens,fun x=>congrArg (fun z=>(z,x.2)) (k.eta x.1),k.size,by have:=k.fit;show off+n<=a.size+b.size;omega⟩
   ·rename_i p;have ⟨q,e,h⟩:=bind_some h;cases ae h;have k:=o (off - a.size) n q e;have u:a.size<=off:=by
     rw[Nat.blt_eq] at p;omega
    have m:a.rep.size+(off - a.size)=off:=by rw[a.rep_size];omega
    refine ⟨?_,?_,?_,?_,fun x=>congrArg (fun z=>(x.1,z)) (k.eta x.2),k.size,by have:=k.fit;show off+n<=a.size+b.size;omega⟩
    ·have:=Fld.snd (A:=a.rep) k.fld
     rwa [m] at this
    ·have:=Upd.snd (A:=a.rep) k.upd
     rwa [m] at this
    ·have:=UpdO.snd (A:=a.rep) k.updO
     rwa [m] at this
    ·have:=Lens.snd (A:=a.rep) k.lens
     rwa [m] at this
 | fro a ih =>
  intro off n r h;unfold yW at h;split at h
  ·rename_i f;rw[aj,aj] at f;have l:=au f.1;have j:=au f.2.1;subst l;cases ae h;exact ⟨Fld.self,Upd.self,UpdO.self,Lens.self,fun _=>rfl,j,by omega⟩
  ·have ⟨q,e,h⟩:=bind_some h;cases ae h;have k:=ih off n q e;exact ⟨k.fld,k.upd,fun I w c x G d y K l j=>⟨[],[],⟨rfl,k.upd I c x d y l.2 j.2⟩,by rw[l.1,j.1]⟩,Lens.fro k.fld k.upd,k.eta,k.size,k.fit⟩
 | wr a ih =>
  intro off n r h;unfold yW at h;split at h
  ·rename_i f;rw[aj,aj] at f;have l:=au f.1;have j:=au f.2.1;subst l;cases ae h;exact ⟨Fld.self,Upd.self,UpdO.self,Lens.self,fun _=>rfl,j,by omega⟩
  ·have ⟨q,e,h⟩:=bind_some h;cases ae h;have k:=ih off n q e;exact ⟨k.fld,k.upd,k.updO,k.lens,k.eta,k.size,k.fit⟩
 | _ =>
  intro off n r h;unfold yW at h;split at h
  ·rename_i f;rw[aj,aj] at f;have l:=au f.1;have j:=au f.2.1;subst l;cases ae h;exact ⟨Fld.self,Upd.self,UpdO.self,Lens.self,fun _=>rfl,j,by omega⟩
  grind
end R
end Go.Proofs.YtodbpnpbhpeepaaGreatDoor
