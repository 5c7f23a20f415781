/- Calls: what is known of functions; arguments lent, results taken apart. No program text is named here. -/
import Derived.Test.YtfkocnnphjkmfaaRH
set_option linter.unusedVariables false
set_option linter.unusedSimpArgs false
set_option linter.unnecessarySimpa false
set_option linter.unusedSectionVars false
namespace Go.Proofs.Ytfkocnnphjkmfaa.R
open Go.RowKit
open Go.Proofs.Ytfkocnnphjkmfaa.D

/-! ### What is known of a function -/
/-- modes of parameters: read; owned and given back; a function; a box that is frozen (of data, of a function); a pointer to owned data, given back -/
inductive PM
  | rd (t : Ty)
  | ow (t : Ty)
  | fn (ps rs : List Ty)
  | cap (T : TypeId) (t : Ty)
  | capf (T : TypeId) (ps rs : List Ty)
  | ptr (T : TypeId) (t : Ty)
  deriving DecidableEq
def PM.den : PM → Type
  | .rd t => t.den
  | .ow t => t.den
  | .fn ps rs => cur ps (Option (dens rs))
  | .cap _ t => t.den
  | .capf _ ps rs => cur ps (Option (dens rs))
  | .ptr _ t => t.den
def denP : List PM → Type
  | [] => Unit
  | p :: ps => p.den × denP ps
def curP : List PM → Type → Type
  | [], R => R
  | p :: ps, R => p.den → curP ps R
def appP {R : Type} : (ps : List PM) → curP ps R → denP ps → R
  | [], f, _ => f
  | _ :: ps, f, d => appP ps (f d.1) d.2
/-- what a parameter gives back -/
def PM.out : PM → List Ty
  | .ow t => [t]
  | .ptr _ t => [t]
  | _ => []
def outs : List PM → List Ty
  | [] => []
  | p :: ps => match p with
    | .ow t => t :: outs ps
    | .ptr _ t => t :: outs ps
    | _ => outs ps
def hFst : (ts us : List Ty) → denH (ts ++ us) → denH ts
  | [], _, _ => ()
  | _ :: ts, us, d => (d.1, hFst ts us d.2)
def hSnd : (ts us : List Ty) → denH (ts ++ us) → denH us
  | [], _, d => d
  | _ :: ts, us, d => hSnd ts us d.2
structure FS where
  ps : List PM
  rs : List Ty
  m : curP ps (Option (dens (rs ++ outs ps)))
abbrev FT := List (Nat × FS)
def fs (ft : FT) (k : Nat) : Option FS := match ft with
  | [] => none
  | (j, f) :: l => if Nat.beq j k then some f else fs l k
/-- a value as an argument of a mode -/
def PArg (P : Program) (w0 : World) (J : Hp) : (p : PM) → Value → p.den → Prop
  | .rd t, v, d => ∃ cs, Lds t.isProd cs v ∧ t.rep.rd J cs d
  | .ow t, v, _ => isAggV v = t.isProd
  | .fn a b, v, d => FnOk P w0 J v a b d
  | .cap T t, v, d => ∃ b, v = .pointer (some ⟨b, 0, none⟩) ∧ ∃ cells : List Value, J b = some (.cells cells.toArray T (0, 0)) ∧ t.rep.rd J cells d
  | .capf T x y, v, d => ∃ b, v = .pointer (some ⟨b, 0, none⟩) ∧ ∃ u : Value, J b = some (.cells [u].toArray T (0, 0)) ∧ FnOk P w0 J u x y d
  | .ptr T t, v, _ => ∃ b, v = .pointer (some ⟨b, 0, none⟩)
def PArgs (P : Program) (w0 : World) (J : Hp) : (ps : List PM) → List Value → denP ps → Prop
  | [], vs, _ => vs = []
  | p :: ps, vs, d => ∃ v r, vs = v :: r ∧ PArg P w0 J p v d.1 ∧ PArgs P w0 J ps r d.2
/-- what is handed over -/
def owCh : (ps : List PM) → List Value → denP ps → List Ch
  | p :: ps, v :: vs, d => match p, d with
    | .ow t, d => Ch.own t.rep (vcells t.isProd v) d.1 :: owCh ps vs d.2
    | .ptr T t, d => Ch.box (bk v) T t.rep d.1 :: owCh ps vs d.2
    | .rd _, d => owCh ps vs d.2
    | .fn _ _, d => owCh ps vs d.2
    | .cap _ _, d => owCh ps vs d.2
    | .capf _ _ _, d => owCh ps vs d.2
  | _, _, _ => []
/-- what comes back -/
def outCh : (ps : List PM) → List Value → denH (outs ps) → List Ch
  | p :: ps, v :: vs, d => match p, d with
    | .ow t, d => Ch.own t.rep (vcells t.isProd v) d.1 :: outCh ps vs d.2
    | .ptr T t, d => Ch.box (bk v) T t.rep d.1 :: outCh ps vs d.2
    | .rd _, d => outCh ps vs d
    | .fn _ _, d => outCh ps vs d
    | .cap _ _, d => outCh ps vs d
    | .capf _ _ _, d => outCh ps vs d
  | _, _, _ => []
structure FOk (P : Program) (k : FuncId) (f : FS) : Prop where
  en : Enters P k
  con : ∀ w0 J vs (d : denP f.ps) r, PArgs P w0 J f.ps vs d → appP f.ps f.m d = some r →
    Con P k vs.toArray J w0 (owCh f.ps vs d) (resFa f.rs) (fun v => resGv f.rs (hFst f.rs (outs f.ps) (toH _ r)) v ++ outCh f.ps vs (hSnd f.rs (outs f.ps) (toH _ r)))
def FTok (P : Program) : FT → Prop
  | [] => True
  | (k, f) :: l => FOk P k f ∧ FTok P l
theorem FTok.get {P : Program} {k : Nat} {f : FS} : ∀ {ft : FT}, FTok P ft → fs ft k = some f → FOk P k f
  | (j, x) :: l, ⟨h1, h2⟩, h => by
    unfold fs at h
    split at h
    · rename_i hj
      have : j = k := Nat.eq_of_beq_eq_true hj
      subst this
      rw [← Option.some.inj h]; exact h1
    · exact FTok.get h2 h

/-! ### Owned results, taken apart -/
def Ty.dp : Ty → Bool
  | .prod a b => a.dp && b.dp
  | .sl _ t => t.dp
  | .fro _ => false
  | .wr t => t.dp
  | _ => true
theorem Ty.dp_ok : ∀ {t : Ty}, t.dp = true → t.rep.Dp
  | .int _, _ => dp_flat
  | .bool, _ => dp_bool
  | .str, _ => dp_str
  | .prod a b, h => by
    have h : (a.dp && b.dp) = true := h
    rw [Bool.and_eq_true] at h
    exact dp_prod (dp_ok h.1) (dp_ok h.2)
  | .sl _ t, h => dp_slice (dp_ok (show t.dp = true from h))
  | .fro _, h => by cases h
  | .wr t, h => dp_ok (t := t) h
/-- the cells of what is read, by paths -/
def cellsPth (id : Nat) (pth : Nat → List Nat) : (t : Ty) → t.den → Nat → List LV
  | .int k, d, _ => [.val (.int k d)]
  | .bool, d, _ => [.val (.bool d)]
  | .str, d, _ => [.val (.string d)]
  | .prod a b, d, j => cellsPth id pth a d.1 j ++ cellsPth id pth b d.2 (j + a.size)
  | .sl E t, d, j => [.rd ⟨id, pth j⟩ (.sl E t) d]
  | .fro t, d, j => cellsPth id pth t d j
  | .wr t, d, j => cellsPth id pth t d j
theorem cellsPth_fine {P : Program} {w0 : World} {J : Hp} {θ : Th} {id n : Nat} {pth : Nat → List Nat} (hid : id < n) : ∀ (t : Ty) (d : t.den) (j : Nat) (cs : List Value), t.rep.rd J cs d → (∀ i v, cs[i]? = some v → vg (θ id) (pth (j + i)) = v) →
    (∀ x ∈ cellsPth id pth t d j, x.ok P w0 J θ n) ∧ (cellsPth id pth t d j).map (·.v θ) = cs
  | .int k, d, j, cs, h, _ => ⟨fun x hx => by obtain rfl := List.mem_singleton.1 hx; exact Eq.refl true, h.symm⟩
  | .bool, d, j, cs, h, _ => ⟨fun x hx => by obtain rfl := List.mem_singleton.1 hx; exact Eq.refl true, h.symm⟩
  | .str, d, j, cs, h, _ => ⟨fun x hx => by obtain rfl := List.mem_singleton.1 hx; exact Eq.refl true, h.symm⟩
  | .prod a b, d, j, cs, h, hc => by
    obtain ⟨c1, c2, rfl, h1, h2⟩ := h
    have hl : c1.length = a.size := (Rep.rd_len _ h1).trans a.rep_size
    obtain ⟨e1, e2⟩ := cellsPth_fine hid a d.1 j c1 h1 fun i v hv => hc i v (by rw [List.getElem?_append_left (List.getElem?_eq_some_iff.1 hv).1]; exact hv)
    obtain ⟨e3, e4⟩ := cellsPth_fine hid b d.2 (j + a.size) c2 h2 fun i v hv => by
      have := hc (a.size + i) v (by rw [List.getElem?_append_right (by omega), hl, Nat.add_sub_cancel_left]; exact hv)
      rwa [show j + a.size + i = j + (a.size + i) from by omega]
    refine ⟨fun x hx => ?_, ?_⟩
    · rcases List.mem_append.1 hx with hx | hx
      · exact e1 x hx
      · exact e3 x hx
    · show (cellsPth id pth a d.1 j ++ cellsPth id pth b d.2 (j + a.size)).map _ = _
      rw [List.map_append, e2, e4]
  | .sl E t, d, j, cs, h, hc => by
    obtain ⟨u, rfl⟩ := List.length_eq_one_iff.1 (Rep.rd_len _ h)
    have hh : hv θ ⟨id, pth j⟩ = u := by
      have := hc 0 u rfl
      rwa [Nat.add_zero] at this
    refine ⟨fun x hx => ?_, ?_⟩
    · obtain rfl := List.mem_singleton.1 hx
      exact ⟨hid, by rw [hh]; exact h⟩
    · show [hv θ ⟨id, pth j⟩] = [u]
      rw [hh]
  | .fro t, d, j, cs, h, hc => cellsPth_fine hid t d j cs h hc
  | .wr t, d, j, cs, h, hc => cellsPth_fine hid t d j cs h hc
def cellsOwn (id : Nat) (pth : Nat → List Nat) : (t : Ty) → t.den → Nat → List LV
  | .int k, d, _ => [.val (.int k d)]
  | .bool, d, _ => [.val (.bool d)]
  | .str, d, _ => [.val (.string d)]
  | .prod a b, d, j => cellsOwn id pth a d.1 j ++ cellsOwn id pth b d.2 (j + a.size)
  | .sl _ _, _, j => [.own ⟨id, pth j⟩]
  | .fro t, d, j => cellsPth id pth t d j
  | .wr t, d, j => cellsOwn id pth t d j
def chsOwn (id : Nat) (pth : Nat → List Nat) : (t : Ty) → t.den → Nat → List (Hdr × Chk)
  | .prod a b, d, j => chsOwn id pth a d.1 j ++ chsOwn id pth b d.2 (j + a.size)
  | .wr t, d, j => chsOwn id pth t d j
  | .sl E t, d, j => [(⟨id, pth j⟩, .own (.sl E t) d)]
  | _, _, _ => []
section
variable {P : Program} {I J : Hp} {w0 w : World} {C : List Ch} {θ : Th} {n m : Nat}
theorem own_prod {α β : Type} {A : Rep α} {B : Rep β} {cs : List Value} {x : α × β} (h : St I w0 w (Ch.own (rProd A B) cs x :: C)) : ∃ c d, cs = c ++ d ∧ c.length = A.size ∧ St I w0 w (Ch.own A c x.1 :: Ch.own B d x.2 :: C) := by
  obtain ⟨h1, h2, F, ⟨G, K, rfl, ⟨c, d, G1, G2, rfl, rfl, k1, k2⟩, e⟩, h4, h5⟩ := h
  exact ⟨c, d, rfl, A.own_len k1, h1, h2, (G1 ++ G2) ++ K, ⟨G1, G2 ++ K, by rw [List.append_assoc], k1, G2, K, rfl, k2, e⟩, h4, h5⟩
theorem own_flat {α : Type} {enc : α → Value} {h1 : ∀ a, (enc a).oneCell' = true} {cs : List Value} {x : α} (h : St I w0 w (Ch.own (rFlat α enc h1) cs x :: C)) : cs = [enc x] ∧ St I w0 w C := by
  obtain ⟨h1, h2, F, ⟨G, K, rfl, ⟨rfl, k⟩, e⟩, h4, h5⟩ := h
  exact ⟨k, h1, h2, K, e, h4, h5⟩
theorem cellsOwn_fine {id : Nat} {pth : Nat → List Nat} (hid : id < n) : ∀ (t : Ty) (d : t.den) (j : Nat) (cs : List Value) (C : List Ch), (∀ i v, cs[i]? = some v → vg (θ id) (pth (j + i)) = v) → St J w0 w (Ch.own t.rep cs d :: C) →
    (∀ x ∈ cellsOwn id pth t d j, x.ok P w0 J θ n) ∧ (cellsOwn id pth t d j).map (·.v θ) = cs ∧ (∀ g ∈ chsOwn id pth t d j, g.1.id = id) ∧ St J w0 w (((chsOwn id pth t d j).map fun g => toCh P θ (g.1, m, g.2)) ++ C)
  | .int k, d, j, cs, C, _, h => by
    obtain ⟨rfl, h0⟩ := own_flat h
    exact ⟨fun x hx => by obtain rfl := List.mem_singleton.1 hx; exact Eq.refl true, rfl, fun g hg => (by cases hg), h0⟩
  | .bool, d, j, cs, C, _, h => by
    obtain ⟨rfl, h0⟩ := own_flat (h1 := fun _ => rfl) h
    exact ⟨fun x hx => by obtain rfl := List.mem_singleton.1 hx; exact Eq.refl true, rfl, fun g hg => (by cases hg), h0⟩
  | .str, d, j, cs, C, _, h => by
    obtain ⟨rfl, h0⟩ := own_flat (h1 := fun _ => rfl) h
    exact ⟨fun x hx => by obtain rfl := List.mem_singleton.1 hx; exact Eq.refl true, rfl, fun g hg => (by cases hg), h0⟩
  | .prod a b, d, j, cs, C, hc, h => by
    obtain ⟨c1, c2, rfl, hl, h⟩ := own_prod h
    rw [a.rep_size] at hl
    obtain ⟨e1, e2, e3, e4⟩ := cellsOwn_fine hid a d.1 j c1 _ (fun i v hv => hc i v (by rw [List.getElem?_append_left (List.getElem?_eq_some_iff.1 hv).1]; exact hv)) h
    obtain ⟨k1, k2, k3, k4⟩ := cellsOwn_fine hid b d.2 (j + a.size) c2 _ (fun i v hv => by
      have := hc (a.size + i) v (by rw [List.getElem?_append_right (by omega), hl, Nat.add_sub_cancel_left]; exact hv)
      rwa [show j + a.size + i = j + (a.size + i) from by omega]) (e4.perm List.perm_middle)
    refine ⟨fun x hx => ?_, ?_, fun g hg => ?_, ?_⟩
    · rcases List.mem_append.1 hx with hx | hx
      · exact e1 x hx
      · exact k1 x hx
    · show (cellsOwn id pth a d.1 j ++ cellsOwn id pth b d.2 (j + a.size)).map _ = _
      rw [List.map_append, e2, k2]
    · rcases List.mem_append.1 hg with hg | hg
      · exact e3 g hg
      · exact k3 g hg
    · show St J w0 w (((chsOwn id pth a d.1 j ++ chsOwn id pth b d.2 (j + a.size)).map _) ++ C)
      rw [List.map_append]
      refine k4.perm ?_
      rw [List.append_assoc]
      exact List.perm_append_comm_assoc _ _ _
  | .sl E t, d, j, cs, C, hc, h => by
    have hone : ∃ u, cs = [u] ∧ u.oneCell' = true := by
      obtain ⟨h1, h2, F, ⟨G, K, rfl, k, e⟩, h4, h5⟩ := h
      have hl : cs.length = 1 := (Ty.sl E t).rep.own_len k
      obtain ⟨u, rfl⟩ := List.length_eq_one_iff.1 hl
      exact ⟨u, rfl, (Ty.sl E t).rep.own_one k u (by simp)⟩
    obtain ⟨u, rfl, h1⟩ := hone
    have hh : hv θ ⟨id, pth j⟩ = u := by
      have := hc 0 u rfl
      rwa [Nat.add_zero] at this
    refine ⟨fun x hx => ?_, ?_, fun g hg => ?_, ?_⟩
    · obtain rfl := List.mem_singleton.1 hx
      exact ⟨hid, by rw [hh]; exact h1⟩
    · show [hv θ ⟨id, pth j⟩] = [u]
      rw [hh]
    · obtain rfl := List.mem_singleton.1 hg; rfl
    · show St J w0 w (Ch.own _ [hv θ ⟨id, pth j⟩] d :: C)
      rw [hh]; exact h
  | .fro t, d, j, cs, C, hc, h => by
    obtain ⟨h1, h2, F, ⟨G, K, rfl, ⟨rfl, k⟩, e⟩, h4, h5⟩ := h
    obtain ⟨e1, e2⟩ := cellsPth_fine (J := J) hid t d j cs k hc
    exact ⟨e1, e2, fun g hg => (by cases hg), h1, h2, K, e, h4, h5⟩
  | .wr t, d, j, cs, C, hc, hs => cellsOwn_fine hid t d j cs C hc hs
end

/-! ### The value of a call -/
def pthOf (agg : Bool) (pre : List Nat) : Nat → List Nat := match agg with
  | true => fun j => pre ++ [j]
  | false => fun _ => pre
def partAv (id : Nat) (pre : List Nat) (t : Ty) (d : t.den) : Bool × List LV := (t.isProd, cellsOwn id (pthOf t.isProd pre) t d 0)
def partChs (id : Nat) (pre : List Nat) (t : Ty) (d : t.den) : List (Hdr × Chk) := chsOwn id (pthOf t.isProd pre) t d 0
def tupAv (id : Nat) : (i : Nat) → (ts : List Ty) → denH ts → List (Bool × List LV)
  | _, [], _ => []
  | i, t :: ts, d => partAv id [i] t d.1 :: tupAv id (i + 1) ts d.2
def tupChs (id : Nat) : (i : Nat) → (ts : List Ty) → denH ts → List (Hdr × Chk)
  | _, [], _ => []
  | i, t :: ts, d => partChs id [i] t d.1 ++ tupChs id (i + 1) ts d.2
def oneAv (y : Bool × List LV) : AV := match y with
  | (true, l) => .agg l
  | (false, [x]) => .one x
  | _ => .und
def resAv (id : Nat) : (ts : List Ty) → denH ts → AV
  | [t], d => oneAv (partAv id [] t d.1)
  | ts, d => .tup (tupAv id 0 ts d)
def resChs (id : Nat) : (ts : List Ty) → denH ts → List (Hdr × Chk)
  | [t], d => partChs id [] t d.1
  | ts, d => tupChs id 0 ts d
theorem vg_undef : ∀ p : List Nat, vg undef p = undef
  | [] => rfl
  | i :: l => by
    show vg ((#[] : Array Value).getD i undef) l = undef
    rw [show (#[] : Array Value).getD i undef = undef from by simp [Array.getD_eq_getD_getElem?]]
    exact vg_undef l
theorem vg_app : ∀ (p q : List Nat) (v : Value), vg v (p ++ q) = vg (vg v p) q
  | [], q, v => by cases v <;> rfl
  | i :: p, q, v => by
    cases v with
    | tuple vs => exact vg_app p q _
    | agg cs => exact vg_app p q _
    | _ => exact (vg_undef q).symm
theorem vg_agg {cs : Array Value} {j : Nat} {v : Value} (h : cs.toList[j]? = some v) : vg (.agg cs) [j] = v := by
  show cs.getD j undef = v
  rw [Array.getElem?_toList] at h
  rw [Array.getD_eq_getD_getElem?, h]; rfl
theorem cellsPth_one {id : Nat} {pth : Nat → List Nat} : ∀ {t : Ty} {d : t.den} {j : Nat}, t.isProd = false → (cellsPth id pth t d j).length = 1
  | .int _, _, _, _ => rfl
  | .bool, _, _, _ => rfl
  | .str, _, _, _ => rfl
  | .prod _ _, _, _, h => by cases h
  | .sl _ _, _, _, _ => rfl
  | .fro t, d, j, h => cellsPth_one (t := t) h
  | .wr _, _, _, h => by cases h
theorem cellsOwn_one {id : Nat} {pth : Nat → List Nat} {t : Ty} {d : t.den} {j : Nat} (h1 : t.isProd = false) : (cellsOwn id pth t d j).length = 1 := by
  cases t with
  | prod a b => cases h1
  | fro t => exact cellsPth_one (t := t) h1
  | wr t => cases h1
  | _ => rfl
def allDp : List Ty → Bool
  | [] => true
  | t :: ts => t.dp && allDp ts
section
variable {P : Program} {I J : Hp} {w0 w : World} {C : List Ch} {θ : Th} {n m : Nat}
theorem oneAv_ok {chs : List Ent} : ∀ y : Bool × List LV, (y.1 = false → y.2.length = 1) → (∀ x ∈ y.2, x.ok P w0 J θ n) → (oneAv y).ok P w0 J θ n chs ∧ (oneAv y).v θ = partV θ y := by
  rintro ⟨b, l⟩ hl hx
  cases b with
  | true => exact ⟨hx, rfl⟩
  | false =>
    obtain ⟨x, rfl⟩ := List.length_eq_one_iff.1 (hl rfl)
    exact ⟨hx x (by simp), rfl⟩
/-- one result: u is its value, at the place pre of the value of the operation -/
theorem part_fine {id : Nat} {pre : List Nat} (hid : id < n) {t : Ty} {d : t.den} {u : Value} (hu : hv θ ⟨id, pre⟩ = u) (hg : isAggV u = t.isProd) (h : St J w0 w (Ch.own t.rep (vcells t.isProd u) d :: C)) :
    (∀ x ∈ (partAv id pre t d).2, x.ok P w0 J θ n) ∧ (partAv id pre t d).2.map (·.v θ) = vcells t.isProd u ∧ partV θ (partAv id pre t d) = u ∧ (∀ g ∈ partChs id pre t d, g.1.id = id) ∧ St J w0 w (((partChs id pre t d).map fun g => toCh P θ (g.1, m, g.2)) ++ C) := by
  have hu : vg (θ id) pre = u := hu
  cases hb : t.isProd with
  | true =>
    rw [hb] at hg h
    cases u with
    | agg cs =>
      obtain ⟨k1, k2, k3, k4⟩ := cellsOwn_fine (P := P) (m := m) (θ := θ) (pth := pthOf true pre) hid t d 0 cs.toList C (fun i v hv => by
        show vg (θ id) (pre ++ [0 + i]) = v
        rw [vg_app, hu, Nat.zero_add]
        exact vg_agg hv) h
      refine ⟨by unfold partAv; rw [hb]; exact k1, by unfold partAv; rw [hb]; exact k2, ?_, by unfold partChs; rw [hb]; exact k3, by unfold partChs; rw [hb]; exact k4⟩
      unfold partAv partV
      rw [hb]
      show Value.agg ((cellsOwn id (pthOf true pre) t d 0).map _).toArray = _
      rw [k2]
    | _ => cases hg
  | false =>
    rw [hb] at hg h
    obtain ⟨k1, k2, k3, k4⟩ := cellsOwn_fine (P := P) (m := m) (θ := θ) (pth := pthOf false pre) hid t d 0 [u] C (fun i v hv => by
      cases i with
      | zero => exact hu.trans (by simpa using hv)
      | succ i => simp at hv) h
    refine ⟨by unfold partAv; rw [hb]; exact k1, by unfold partAv; rw [hb]; exact k2, ?_, by unfold partChs; rw [hb]; exact k3, by unfold partChs; rw [hb]; exact k4⟩
    unfold partAv partV
    rw [hb]
    show (match cellsOwn id (pthOf false pre) t d 0 with
      | x :: _ => x.v θ
      | [] => undef) = u
    cases hc : cellsOwn id (pthOf false pre) t d 0 with
    | nil => rw [hc] at k2; cases k2
    | cons x l =>
      rw [hc] at k2
      exact (List.cons.inj k2).1
theorem tup_fine {id : Nat} (hid : id < n) {vs : Array Value} (hu : θ id = .tuple vs) : ∀ (ts : List Ty) (i : Nat) (d : denH ts) (C : List Ch), allDp ts = true → (∀ j t, ts[j]? = some t → isAggV (vs.getD (i + j) undef) = t.isProd) → St J w0 w (resGo i ts d (.tuple vs) ++ C) →
    (∀ y ∈ tupAv id i ts d, ∀ x ∈ y.2, x.ok P w0 J θ n) ∧ (tupAv id i ts d).map (partV θ) = (List.range' i ts.length).map (fun j => vs.getD j undef) ∧ (∀ g ∈ tupChs id i ts d, g.1.id = id) ∧ St J w0 w (((tupChs id i ts d).map fun g => toCh P θ (g.1, m, g.2)) ++ C)
  | [], i, d, C, _, _, h => ⟨fun y hy => (by cases hy), rfl, fun g hg => (by cases hg), h⟩
  | t :: ts, i, d, C, hdp, ha, h => by
    have hdp : (t.dp && allDp ts) = true := hdp
    rw [Bool.and_eq_true] at hdp
    have h : St J w0 w (Ch.own t.rep (vcells t.isProd (vs.getD i undef)) d.1 :: (resGo (i + 1) ts d.2 (.tuple vs) ++ C)) := h
    obtain ⟨e1, -, e2, e3, e4⟩ := part_fine (P := P) (m := m) (θ := θ) (pre := [i]) (u := vs.getD i undef) hid (by show vg (θ id) [i] = _; rw [hu]; rfl) (ha 0 t rfl) h
    obtain ⟨k1, k2, k3, k4⟩ := tup_fine hid hu ts (i + 1) d.2 (((partChs id [i] t d.1).map fun g => toCh P θ (g.1, m, g.2)) ++ C) hdp.2 (fun j t hj => by
      have := ha (j + 1) t hj
      rwa [show i + (j + 1) = i + 1 + j from by omega] at this) (e4.perm (List.perm_append_comm_assoc _ _ _))
    refine ⟨fun y hy => ?_, ?_, fun g hg => ?_, ?_⟩
    · rcases List.mem_cons.1 hy with rfl | hy
      · exact e1
      · exact k1 y hy
    · show partV θ _ :: (tupAv id (i + 1) ts d.2).map _ = _
      rw [e2, k2]; rfl
    · rcases List.mem_append.1 hg with hg | hg
      · exact e3 g hg
      · exact k3 g hg
    · show St J w0 w (((partChs id [i] t d.1 ++ tupChs id (i + 1) ts d.2).map _) ++ C)
      rw [List.map_append]
      refine k4.perm ?_
      rw [List.append_assoc]
      exact List.perm_append_comm_assoc _ _ _
theorem res_fine {id : Nat} (hid : id < n) {chs : List Ent} {v : Value} (hu : θ id = v) : ∀ (ts : List Ty) (d : denH ts) (C : List Ch), allDp ts = true → resFa ts v → St J w0 w (resGv ts d v ++ C) →
    (resAv id ts d).ok P w0 J θ n chs ∧ (resAv id ts d).v θ = v ∧ (∀ g ∈ resChs id ts d, g.1.id = id) ∧ St J w0 w (((resChs id ts d).map fun g => toCh P θ (g.1, m, g.2)) ++ C) := by
  intro ts d C hdp hf h
  have tup : ∀ vs, v = .tuple vs → vs.size = ts.length → (∀ i t, ts[i]? = some t → isAggV (vs.getD i undef) = t.isProd) → St J w0 w (resGo 0 ts d v ++ C) →
      (AV.tup (tupAv id 0 ts d)).ok P w0 J θ n chs ∧ (AV.tup (tupAv id 0 ts d)).v θ = v ∧ (∀ g ∈ tupChs id 0 ts d, g.1.id = id) ∧ St J w0 w (((tupChs id 0 ts d).map fun g => toCh P θ (g.1, m, g.2)) ++ C) := by
    rintro vs rfl hsz ha h
    obtain ⟨k1, k2, k3, k4⟩ := tup_fine (P := P) (m := m) hid hu ts 0 d C hdp (fun j t hj => by rw [Nat.zero_add]; exact ha j t hj) h
    refine ⟨k1, ?_, k3, k4⟩
    show Value.tuple ((tupAv id 0 ts d).map (partV θ)).toArray = _
    rw [k2]
    congr 1
    apply Array.ext'
    apply List.ext_getElem?
    intro i
    by_cases hi : i < ts.length
    · simp [hi, hsz, Array.getD_eq_getD_getElem?]
    · simp [hi, hsz]
  match ts, d, hdp, hf, h, tup with
  | [t], d, hdp, hf, h, _ =>
    have hdp : (t.dp && true) = true := hdp
    rw [Bool.and_true] at hdp
    obtain ⟨k1, -, k2, k3, k4⟩ := part_fine (P := P) (m := m) (θ := θ) (pre := []) hid (show hv θ ⟨id, []⟩ = v from hu) hf h
    obtain ⟨q1, q2⟩ := oneAv_ok _ (fun e => cellsOwn_one e) k1
    exact ⟨q1, q2.trans k2, k3, k4⟩
  | [], d, hdp, hf, h, tup => obtain ⟨vs, h1, h2, h3⟩ := hf; exact tup vs h1 h2 h3 h
  | _ :: _ :: _, d, hdp, hf, h, tup => obtain ⟨vs, h1, h2, h3⟩ := hf; exact tup vs h1 h2 h3 h
end
end Go.Proofs.Ytfkocnnphjkmfaa.R
