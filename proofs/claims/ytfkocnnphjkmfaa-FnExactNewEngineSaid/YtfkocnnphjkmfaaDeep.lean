/- Owned data put into owned data: literals, stores, 'make' of rows that hold memory of their own. No program text is named here. -/
import Derived.Test.YtfkocnnphjkmfaaFun
set_option linter.unusedVariables false
set_option linter.unusedSimpArgs false
set_option linter.unnecessarySimpa false
namespace Go.Proofs.Ytfkocnnphjkmfaa.D
open Go.RowKit

/-- the chunks ls together are the value with the cells cs, owned as x -/
def Bun (I : Hp) (ls : List Ch) {α : Type} (R : Rep α) (cs : List Value) (x : α) : Prop := ∀ w F, Sep I ls w F → R.own I w cs x F
section
variable {P : Program} {I J : Hp} {w0 w w' : World} {cs C : List Ch} {n : Nat} {a : Act} {L L' : List (Nat × Value)} {o : Oper} {ev : Operand → Value}
theorem bun_flat {α : Type} {enc : α → Value} {h1 : ∀ a, (enc a).oneCell' = true} {x : α} : Bun I [] (rFlat α enc h1) [enc x] x := fun w F h => ⟨h, rfl⟩
theorem bun_own {α : Type} {R : Rep α} {c : List Value} {x : α} : Bun I [Ch.own R c x] R c x := by
  rintro w F ⟨G, K, rfl, h1, rfl⟩
  rw [List.append_nil]; exact h1
theorem bun_nil {α : Type} {E : TypeId} {R : Rep α} : Bun I [] (rSlice E R) [.slice none 0 0] [] := fun w F h => ⟨Nat.zero_le _, .inl ⟨rfl, rfl, h⟩⟩
theorem bun_rd {α : Type} {R : Rep α} {c : List Value} {x : α} (h : R.rd I c x) : Bun I [] (rFro R) c x := fun w F k => ⟨k, h⟩
theorem bun_prod {α β : Type} {R : Rep α} {S : Rep β} {l m : List Ch} {c d : List Value} {x : α} {y : β} (h : Bun I l R c x) (k : Bun I m S d y) : Bun I (l ++ m) (rProd R S) (c ++ d) (x, y) := by
  intro w F hs
  obtain ⟨G, K, rfl, h1, h2⟩ := hs.split
  exact ⟨c, d, G, K, rfl, rfl, h w G h1, k w K h2⟩
theorem bun_cons {α β : Type} {R : Rep α} {S : Rep β} {l m : List Ch} {c : Value} {d : List Value} {x : α} {y : β} (h : Bun I l R [c] x) (k : Bun I m S d y) : Bun I (l ++ m) (rProd R S) (c :: d) (x, y) := bun_prod (c := [c]) h k
def SepTo (I : Hp) (l m : List Ch) : Prop := ∀ w F, Sep I l w F → Sep I m w F
theorem sepTo_nil : SepTo I [] [] := fun _ _ h => h
theorem sepTo_bun {α : Type} {R : Rep α} {l m m' : List Ch} {c : List Value} {x : α} (h : Bun I l R c x) (k : SepTo I m m') : SepTo I (l ++ m) (Ch.own R c x :: m') := by
  intro w F hs
  obtain ⟨G, K, rfl, h1, h2⟩ := hs.split
  exact ⟨G, K, rfl, h w G h1, k w K h2⟩
theorem OpT.pre {l0 ls ls' : List Ch} {fact : Value → Prop} {gv : Value → List Ch} (k : SepTo I l0 ls') (e : l0 = ls) (h : OpT P I w0 o ev ls' fact gv) : OpT P I w0 o ev ls fact gv := by
  subst e
  intro w C hs
  refine h w C ?_
  obtain ⟨h1, h2, F, h3, h4, h5⟩ := hs
  obtain ⟨G, K, rfl, e1, e2⟩ := h3.split
  exact ⟨h1, h2, G ++ K, (k w G e1).append e2, h4, h5⟩
/-- putting owned cells d at offset off: what is lost of the footprints is D -/
def UpdO {α β : Type} (R : Rep α) (off : Nat) (S : Rep β) (u : α → β → α) : Prop := ∀ I w c x G d y K, R.own I w c x G → S.own I w d y K → ∃ G' D, R.own I w (spl c off d) (u x y) G' ∧ (G' ++ D).Perm (G ++ K)
theorem UpdO.self {α : Type} {R : Rep α} : UpdO R 0 R (fun _ y => y) := by
  intro I w c x G d y K h k
  rw [spl_eq _ _ _ (by rw [R.own_len h, R.own_len k]; omega), R.own_len k, ← R.own_len h]
  exact ⟨K, G, by simpa using k, List.perm_append_comm⟩
theorem UpdO.fst {α β γ : Type} {A : Rep α} {B : Rep β} {S : Rep γ} {off : Nat} {u : α → γ → α} (hs : off + S.size ≤ A.size) (h : UpdO A off S u) : UpdO (rProd A B) off S (fun x y => (u x.1 y, x.2)) := by
  rintro I w c x F d y K ⟨c1, c2, G1, G2, rfl, rfl, h1, h2⟩ k
  rw [spl_left _ _ _ _ (by rw [A.own_len h1, S.own_len k]; exact hs)]
  obtain ⟨G', D, e1, e2⟩ := h I w c1 x.1 G1 d y K h1 k
  refine ⟨G' ++ G2, D, ⟨_, c2, G', G2, rfl, rfl, e1, h2⟩, ?_⟩
  have p1 : (G' ++ G2 ++ D).Perm ((G' ++ D) ++ G2) := by
    rw [List.append_assoc, List.append_assoc]; exact List.Perm.append_left _ List.perm_append_comm
  have p2 : ((G1 ++ K) ++ G2).Perm (G1 ++ G2 ++ K) := by
    rw [List.append_assoc, List.append_assoc]; exact List.Perm.append_left _ List.perm_append_comm
  exact p1.trans ((e2.append_right G2).trans p2)
theorem UpdO.snd {α β γ : Type} {A : Rep α} {B : Rep β} {S : Rep γ} {off : Nat} {u : β → γ → β} (h : UpdO B off S u) : UpdO (rProd A B) (A.size + off) S (fun x y => (x.1, u x.2 y)) := by
  rintro I w c x F d y K ⟨c1, c2, G1, G2, rfl, rfl, h1, h2⟩ k
  rw [← A.own_len h1, spl_right]
  obtain ⟨G', D, e1, e2⟩ := h I w c2 x.2 G2 d y K h2 k
  refine ⟨G1 ++ G', D, ⟨c1, _, G1, G', rfl, rfl, h1, e1⟩, ?_⟩
  rw [List.append_assoc, List.append_assoc]
  exact e2.append_left _
theorem OwnEls.setO {α β : Type} {R : Rep α} {S : Rep β} {off : Nat} {f : α → β → α} (hU : UpdO R off S f) {d : List Value} {y : β} {Kd : List Nat} (hd : S.own I w d y Kd) (hoff : off + S.size ≤ R.size) :
    ∀ {xs : List α} {cur : List Value} {F : List Nat} {k : Nat} {x : α}, OwnEls R I w cur xs F → xs[k]? = some x → ∃ F' D, OwnEls R I w (spl cur (k * R.size + off) d) (xs.set k (f x y)) F' ∧ (F' ++ D).Perm (F ++ Kd)
  | [], _, _, k, _, _, hk => by simp at hk
  | z :: xs, cur, F, 0, x, ⟨c, rest, G, K, h1, h2, h3, h4, h5⟩, hk => by
    simp at hk; subst hk; subst h1; subst h3
    obtain ⟨G', D, e1, e2⟩ := hU I w c z G d y Kd h4 hd
    rw [Nat.zero_mul, Nat.zero_add, spl_left _ _ _ _ (by rw [h2, S.own_len hd]; exact hoff)]
    refine ⟨G' ++ K, D, ⟨_, rest, G', K, rfl, by rw [spl_len]; exact h2, rfl, e1, h5⟩, ?_⟩
    have p1 : (G' ++ K ++ D).Perm ((G' ++ D) ++ K) := by
      rw [List.append_assoc, List.append_assoc]; exact List.Perm.append_left _ List.perm_append_comm
    have p2 : ((G ++ Kd) ++ K).Perm (G ++ K ++ Kd) := by
      rw [List.append_assoc, List.append_assoc]; exact List.Perm.append_left _ List.perm_append_comm
    exact p1.trans ((e2.append_right K).trans p2)
  | z :: xs, cur, F, k + 1, x, ⟨c, rest, G, K, h1, h2, h3, h4, h5⟩, hk => by
    subst h1; subst h3
    obtain ⟨F', D, e1, e2⟩ := OwnEls.setO hU hd hoff h5 (k := k) (by simpa using hk)
    have e : (k + 1) * R.size + off = c.length + (k * R.size + off) := by rw [h2, Nat.add_mul, Nat.one_mul]; omega
    rw [e, spl_right]
    refine ⟨G ++ F', D, ⟨c, _, G, F', rfl, h2, rfl, h4, e1⟩, ?_⟩
    rw [List.append_assoc, List.append_assoc]
    exact e2.append_left _
/-- a store of owned data into an element of an owned slice -/
theorem opT_store_own {α β : Type} {E T : TypeId} {R : Rep α} {S : Rep β} {ls : List Ch} {agg : Bool} {n k off : Nat} {f : α → β → α} {x y : Operand} {v u : Value} {xs : List α} {a : α} {b : β} {i : Int} {d : List Value} (hB : Bun I ls S d b) (ha : getI xs i = some a) (hU : UpdO R off S f) (hT : TI P T agg n) (ho : o.op = .store T x y) (hx : ev x = pt v (i.toNat * k + off)) (hy : ev y = u) (hu : u.cells = d.toArray) (h1 : d.all (·.oneCell') = true) (hd : d.length = n) (hSn : S.size = n) (hk : R.size = k) (hS : off + n ≤ k) :
    OpT P I w0 o ev (Ch.own (rSlice E R) [v] xs :: ls) (fun _ => True) (fun _ => [Ch.own (rSlice E R) [v] (xs.set i.toNat (f a b))]) := by
  intro w C hs
  have hm := getI_at ha
  have hlt := (List.getElem?_eq_some_iff.1 hm).1
  obtain ⟨hb0, hi, F, ⟨G, K, rfl, ⟨hl, e2⟩, e3⟩, hnd, hI⟩ := hs
  obtain ⟨Kd, KC, rfl, e4, e5⟩ := Sep.split e3
  rcases e2 with ⟨hv, rfl, rfl⟩ | ⟨g, cap, cur, K1, hv, k1, k2, k3, k4, rfl, k5⟩
  · simp at hlt
  obtain rfl : v = .slice (some ⟨g, 0, none⟩) xs.length cap := by simpa using hv
  have hfit : i.toNat * k + k ≤ cur.size := by
    rw [k4, hk]
    have : (i.toNat + 1) * k ≤ cap * k := Nat.mul_le_mul_right _ (by omega)
    rw [Nat.add_mul, Nat.one_mul] at this; exact this
  have hln : cur.toList.length = cur.size := Array.length_toList
  have hr := run_st (P := P) (w := w) hT (g := g) (o := 0 + (i.toNat * k + off)) hu hd (fun j hj => by
    simp only [World.cell?, k1, Option.isSome_none, Bool.false_eq_true, ite_false]
    rw [Array.getElem?_eq_getElem (by omega)]; rfl) (fun j => by simp [World.frozen?, k1]) (fun v hv => List.all_eq_true.1 h1 v hv)
  simp only [execOp, ho, hx, hy, pt, ptB, ptO, Sem.run_bind, hr, Result.andThen_ok]
  refine ⟨trivial, ?_⟩
  rw [Nat.zero_add]
  have hch : ∀ (d : List Value) (o : Nat) (w : World), (setsW w g o d).os = w.os ∧ (setsW w g o d).tape = w.tape ∧ (setsW w g o d).output = w.output ∧ (setsW w g o d).heap.size = w.heap.size ∧ ∀ b, b ≠ g → (setsW w g o d).heap[b]? = w.heap[b]? := by
    intro d
    induction d with
    | nil => intro o w; exact ⟨rfl, rfl, rfl, rfl, fun _ _ => rfl⟩
    | cons v d ih =>
      intro o w
      obtain ⟨i1, i2, i3, i4, i5⟩ := ih (o + 1) (w.setCell ⟨g, o, none⟩ v)
      exact ⟨i1, i2, i3, i4.trans (by simp [World.setCell]), fun b hb => (i5 b hb).trans (Below.heap_setCell _ _ _ _ hb)⟩
  have hrow : ∀ (d : List Value) (o : Nat) (w : World) (cur : Array Value), w.heap[g]? = some (.cells cur E (0, 0)) → (setsW w g o d).heap[g]? = some (.cells (spl cur.toList o d).toArray E (0, 0)) := by
    intro d
    induction d with
    | nil => intro o w cur h; simpa [setsW, spl] using h
    | cons v d ih =>
      intro o w cur h
      have := ih (o + 1) (w.setCell ⟨g, o, none⟩ v) (cur.setIfInBounds o v) (heap_setCell_at h)
      rw [Array.toList_setIfInBounds] at this
      exact this
  obtain ⟨q1, q2, q3, q4, q5⟩ := hch d (i.toNat * k + off) w
  obtain ⟨F', D, z1, z2⟩ := OwnEls.setO hU (hB w Kd e4) (by rw [hSn, hk]; exact hS) k5 hm
  -- what is left of the footprints
  have hperm : ((g :: F' ++ KC) ++ D).Perm ((g :: K1) ++ (Kd ++ KC)) := by
    have p1 : ((F' ++ KC) ++ D).Perm ((F' ++ D) ++ KC) := by
      rw [List.append_assoc, List.append_assoc]; exact List.Perm.append_left _ List.perm_append_comm
    have p2 := p1.trans (z2.append_right KC)
    rw [List.append_assoc] at p2
    simpa using p2
  have hnd' := (hperm.nodup_iff).2 hnd
  have hmem : ∀ b, b ∈ g :: F' ++ KC → b ∈ (g :: K1) ++ (Kd ++ KC) := fun b hb => hperm.mem_iff.1 (List.mem_append_left _ hb)
  have hnd2 : (g :: F' ++ KC).Nodup := (List.nodup_append.1 hnd').1
  have hgF : g ∉ F' ++ KC := (List.nodup_cons.1 (show (g :: (F' ++ KC)).Nodup from hnd2)).1
  refine ⟨⟨q1.trans hb0.1, q2.trans hb0.2.1, q3.trans hb0.2.2.1, by rw [q4]; exact hb0.2.2.2⟩, fun b o hbo => ?_, (g :: F') ++ KC, ⟨g :: F', KC, rfl, ⟨by rw [List.length_set]; exact hl, .inr ⟨g, cap, _, F', by rw [List.length_set], hrow d _ w cur k1, by rw [List.length_set]; exact k2, k3, by rw [List.size_toArray, spl_len]; rw [hln]; exact k4, rfl, ?_⟩⟩, e5.stay fun b hb => q5 b fun e => hgF (List.mem_append_right _ (e ▸ hb))⟩, hnd2, fun b hb => hI b (hmem b hb)⟩
  · show (setsW w g (i.toNat * k + off) d).heap[b]? = some o
    rw [q5 b fun e => by rw [e, hI g (by simp)] at hbo; cases hbo]
    exact hi b o hbo
  · rw [hk] at z1
    exact OwnEls.stay z1 fun b hb => q5 b fun e => hgF (List.mem_append_left _ (e ▸ hb))
theorem Upd.fro {α β : Type} {R : Rep α} {S : Rep β} {off : Nat} {u : α → β → α} (h : Upd R off S u) : Upd (rFro R) off S u := h
/-! ### make, of whatever has a zero -/
def Zro {α : Type} (R : Rep α) (cs : List Value) (z : α) : Prop := ∀ (I : Hp) (w : World), R.own I w cs z []
theorem zro_flat {α : Type} {enc : α → Value} {h1 : ∀ a, (enc a).oneCell' = true} {x : α} : Zro (rFlat α enc h1) [enc x] x := fun I w => ⟨rfl, rfl⟩
theorem zro_nil {α : Type} {E : TypeId} {R : Rep α} : Zro (rSlice E R) [.slice none 0 0] [] := fun I w => ⟨Nat.zero_le _, .inl ⟨rfl, rfl, rfl⟩⟩
theorem zro_cons {α β : Type} {R : Rep α} {S : Rep β} {c : Value} {d : List Value} {x : α} {y : β} (h : Zro R [c] x) (k : Zro S d y) : Zro (rProd R S) (c :: d) (x, y) := fun I w => ⟨[c], d, [], [], rfl, rfl, h I w, k I w⟩
theorem zro_prod {α β : Type} {R : Rep α} {S : Rep β} {c d : List Value} {x : α} {y : β} (h : Zro R c x) (k : Zro S d y) : Zro (rProd R S) (c ++ d) (x, y) := fun I w => ⟨c, d, [], [], rfl, rfl, h I w, k I w⟩
theorem zro_fro {α : Type} {R : Rep α} {c : List Value} {x : α} (h : ∀ I, R.rd I c x) : Zro (rFro R) c x := fun I w => ⟨rfl, h I⟩
theorem opT_mk {α : Type} {E T : TypeId} {R : Rep α} {zv : Value} {n b : Nat} {x y : Operand} {l : Int} {z : α} {xs : List α} (hz : Zro R zv.cells.toList z) (hT : P.underlying T = some (.slice E)) (hE : TZ P E zv n b) (ho : o.op = .makeSlice T x y) (hR : R.size = n) (hn : 0 < n) (hb : 1 ≤ b) (hx : ev x = .int .i64 l) (hy : ev y = .int .i64 l) (h : mkI b l z = some xs) : OpT P I w0 o ev [] (fun _ => True) (fun v => [Ch.own (rSlice E R) [v] xs]) := by
  intro w C hs
  unfold mkI at h
  split at h
  · rename_i hl
    obtain rfl := Option.some.inj h
    obtain ⟨i, hi, hz1, hsz, hby⟩ := info_parts hE
    have hzl : zv.cells.size = n := by have := R.own_len (hz I w); rw [Array.length_toList, hR] at this; exact this
    have hle : l.toNat ≤ 140737488355328 := Nat.le_trans (Nat.le_mul_of_pos_right _ hb) hl.2
    have hl' : (l.toNat : Int) = l := Int.toNat_of_nonneg hl.1
    have hr := run_make (P := P) w T E i zv hT hi hz1 .i64 .i64 l l hl.1 (Int.le_refl _) (by rw [hby, ← hl', ← Int.natCast_mul, Nat.mul_comm]; omega) (by omega)
    rw [hsz] at hr
    simp only [execOp, ho, hx, hy, Sem.run_bind, hr, Result.andThen_ok]
    refine ⟨trivial, ?_⟩
    have hs1 := hs.alloc (madeCells zv.cells (l.toNat * n)).toList E
    obtain ⟨hb0, hi0, F, ⟨G, K, rfl, ⟨rfl, hg⟩, hr2⟩, n1, n2⟩ := hs1
    refine ⟨hb0, hi0, [w.heap.size] ++ K, ⟨[w.heap.size], K, rfl, ⟨by rw [List.length_replicate]; unfold lim; omega, .inr ⟨w.heap.size, l.toNat, _, [], by rw [List.length_replicate], hg, by rw [List.length_replicate]; exact Nat.le_refl _, by unfold maxLen; omega, by rw [hR]; simp [madeCells], rfl, ?_⟩⟩, hr2⟩, n1, n2⟩
    have key : ∀ (W : World) (m : Nat), OwnEls R I W (madeCells zv.cells (m * n)).toList (List.replicate m z) [] := by
      intro W m
      induction m with
      | zero => exact rfl
      | succ m ih =>
        refine ⟨zv.cells.toList, (madeCells zv.cells (m * n)).toList, [], [], ?_, by rw [Array.length_toList, hzl, hR], rfl, hz I W, ih⟩
        apply List.ext_getElem?
        intro j
        by_cases hj : j < n
        · rw [List.getElem?_append_left (by rw [Array.length_toList, hzl]; exact hj)]
          have h1 : j < (m + 1) * n := by rw [Nat.add_mul, Nat.one_mul]; omega
          simp [madeCells, h1, hzl, Nat.mod_eq_of_lt hj, Array.getElem?_range]
          rw [getElem!_pos _ _ (by omega)]; simp [hzl, hj]
        · rw [List.getElem?_append_right (by rw [Array.length_toList, hzl]; omega), Array.length_toList, hzl]
          by_cases h1 : j < (m + 1) * n
          · have h2 : j - n < m * n := by rw [Nat.add_mul, Nat.one_mul] at h1; omega
            simp [madeCells, h1, h2, hzl, Array.getElem?_range]
            congr 1
            conv => lhs; rw [show j = (j - n) + n from by omega, Nat.add_mod_right]
          · have h2 : ¬ j - n < m * n := by rw [Nat.add_mul, Nat.one_mul] at h1; omega
            simp [madeCells, h1, h2]
    exact key _ l.toNat
  · cases h
end
end Go.Proofs.Ytfkocnnphjkmfaa.D
