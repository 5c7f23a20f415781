/- FnExactReplayLog: for every input the law returns true and changes nothing that was there. Part 4 of 9. -/
import Derived.Test.YtfkjjnddefojjaaGreatDoorEC2
set_option linter.unusedVariables false
set_option linter.unusedSimpArgs false
set_option linter.unnecessarySimpa false
set_option linter.unusedSectionVars false
/- Calls: what is known of functions; arguments lent, results taken apart. No program text is named here. -/
set_option linter.unusedVariables false
set_option linter.unusedSimpArgs false
set_option linter.unnecessarySimpa false
set_option linter.unusedSectionVars false
namespace Go.Proofs.YtfkjjnddefojjaaGreatDoor.R
open Go.RowKit
open Go.Proofs.YtfkjjnddefojjaaGreatDoor.D

/-! ### What is known of a function -/
inductive PM
  | rd (t : Ty)
  | ow (t : Ty)
  | fn (ps rs : List Ty)
  | cap (T : TypeId) (t : Ty)
  | capf (T : TypeId) (ps rs : List Ty)
  | ptr (T : TypeId) (t : Ty)
  | eat (t : Ty)
  | fk (g : Nat)
  | crs (T : TypeId) (E : TypeId)
  | kb (g : Nat) (T : TypeId) (t : Ty)
  | kc (g : Nat)
  deriving DecidableEq
def PM.den : PM → Type
  | .rd t => t.den
  | .ow t => t.den
  | .fn ps rs => cur ps (Option (dens rs))
  | .cap _ t => t.den
  | .capf _ ps rs => cur ps (Option (dens rs))
  | .ptr _ t => t.den
  | .eat t => t.den
  | .fk _ => Unit
  | .crs _ _ => List Int × Int × Int
  | .kb _ _ t => t.den
  | .kc _ => Unit
def denP : List PM → Type
  | [] => Unit
  | p :: ps => p.den × denP ps
def curP : List PM → Type → Type
  | [], R => R
  | p :: ps, R => p.den → curP ps R
def appP {R : Type} : (ps : List PM) → curP ps R → denP ps → R
  | [], f, _ => f
  | _ :: ps, f, d => appP ps (f d.1) d.2
def PM.out : PM → List Ty
  | .ow t => [t]
  | .ptr _ t => [t]
  | .crs _ _ => [.prod (.int .i64) (.int .i64)]
  | .kb _ _ t => [t]
  | _ => []
def outs : List PM → List Ty
  | [] => []
  | p :: ps => match p with
    | .ow t => t :: outs ps
    | .ptr _ t => t :: outs ps
    | .crs _ _ => .prod (.int .i64) (.int .i64) :: outs ps
    | .kb _ _ t => t :: outs ps
    | _ => outs ps
def hFst : (ts us : List Ty) → denH (ts ++ us) → denH ts
  | [], _, _ => ()
  | _ :: ts, us, d => (d.1, hFst ts us d.2)
def hSnd : (ts us : List Ty) → denH (ts ++ us) → denH us
  | [], _, d => d
  | _ :: ts, us, d => hSnd ts us d.2
structure FS where
  ps : List PM
  rs : List Ty
  m : curP ps (Option (dens (rs ++ outs ps)))
  cl : Option (TypeId × Nat)
theorem dp_raw : rRaw.Dp := dp_flat
def CloneOk (P : Program) (k : FuncId) (E b : Nat) : Prop := Enters P k ∧ ∀ (E' : TypeId) (I : Hp) (w0 : World) (v : Value) (xs zs : List Raw), Lay P I → (rSlice E' rRaw).rd I [v] xs → appI b [] xs = some zs → Con P k #[v] I w0 [] (fun _ => True) (fun r => [Ch.own (rSlice E rRaw) [r] zs])
abbrev FT := List (Nat × FS)
def fs (ft : FT) (k : Nat) : Option FS := match ft with
  | [] => none
  | (j, f) :: l => if Nat.beq j k then some f else fs l k
def PArg (P : Program) (w0 : World) (J : Hp) (γ : Value) : (p : PM) → Value → p.den → Prop
  | .rd t, v, d => ∃ cs, Lds t.isProd cs v ∧ t.rep.rd J cs d
  | .ow t, v, _ => isAggV v = t.isProd
  | .fn a b, v, d => FnOk P w0 J v a b d
  | .cap T t, v, d => ∃ b, v = .pointer (some ⟨b, 0, none⟩) ∧ ∃ cells : List Value, J b = some (.cells cells.toArray T (0, 0)) ∧ t.rep.rd J cells d
  | .capf T x y, v, d => ∃ b, v = .pointer (some ⟨b, 0, none⟩) ∧ ∃ u : Value, J b = some (.cells [u].toArray T (0, 0)) ∧ FnOk P w0 J u x y d
  | .ptr T t, v, _ => ∃ b, v = .pointer (some ⟨b, 0, none⟩)
  | .eat t, v, _ => isAggV v = t.isProd
  | .fk g, v, _ => v = .func (.func g) #[] #[]
  | .crs _ E, v, d => (∃ b, v = .pointer (some ⟨b, 0, none⟩)) ∧ (Ty.sl E (.int .u8)).rep.rd J [γ] d.1
  | .kb g _ _, v, _ => v = .func (.func g) #[] #[γ] ∧ ∃ b, γ = .pointer (some ⟨b, 0, none⟩)
  | .kc g, v, _ => v = .func (.func g) #[] #[γ] ∧ ∃ b, γ = .pointer (some ⟨b, 0, none⟩)
def PArgs (P : Program) (w0 : World) (J : Hp) (γ : Value) : (ps : List PM) → List Value → denP ps → Prop
  | [], vs, _ => vs = []
  | p :: ps, vs, d => ∃ v r, vs = v :: r ∧ PArg P w0 J γ p v d.1 ∧ PArgs P w0 J γ ps r d.2
def owCh (γ : Value) : (ps : List PM) → List Value → denP ps → List Ch
  | p :: ps, v :: vs, d => match p, d with
    | .ow t, d => Ch.own t.rep (vcells t.isProd v) d.1 :: owCh γ ps vs d.2
    | .ptr T t, d => Ch.box (bk v) T t.rep d.1 :: owCh γ ps vs d.2
    | .eat t, d => Ch.own t.rep (vcells t.isProd v) d.1 :: owCh γ ps vs d.2
    | .rd _, d => owCh γ ps vs d.2
    | .fn _ _, d => owCh γ ps vs d.2
    | .cap _ _, d => owCh γ ps vs d.2
    | .capf _ _ _, d => owCh γ ps vs d.2
    | .fk _, d => owCh γ ps vs d.2
    | .crs T _, d => Ch.blk (bk v) [γ, .int .i64 d.1.2.1, .int .i64 d.1.2.2] T :: owCh γ ps vs d.2
    | .kb _ T t, d => Ch.box (bk γ) T t.rep d.1 :: owCh γ ps vs d.2
    | .kc _, d => owCh γ ps vs d.2
  | _, _, _ => []
def outCh (γ : Value) : (ps : List PM) → List Value → denH (outs ps) → List Ch
  | p :: ps, v :: vs, d => match p, d with
    | .ow t, d => Ch.own t.rep (vcells t.isProd v) d.1 :: outCh γ ps vs d.2
    | .ptr T t, d => Ch.box (bk v) T t.rep d.1 :: outCh γ ps vs d.2
    | .eat _, d => outCh γ ps vs d
    | .rd _, d => outCh γ ps vs d
    | .fn _ _, d => outCh γ ps vs d
    | .cap _ _, d => outCh γ ps vs d
    | .capf _ _ _, d => outCh γ ps vs d
    | .fk _, d => outCh γ ps vs d
    | .crs T _, d => Ch.blk (bk v) [γ, .int .i64 d.1.1, .int .i64 d.1.2] T :: outCh γ ps vs d.2
    | .kb _ T t, d => Ch.box (bk γ) T t.rep d.1 :: outCh γ ps vs d.2
    | .kc _, d => outCh γ ps vs d
  | _, _, _ => []
def OvOk (P : Program) (k : FuncId) : Prop := ∀ (w : World) (g h oa ob la lb ca cb : Nat) (curA curB : Array Value) (tA tB : TypeId), g ≠ h → w.heap[g]? = some (.cells curA tA (0, 0)) → w.heap[h]? = some (.cells curB tB (0, 0)) → 0 < curB.size → (callFunc k #[.slice (some ⟨g, oa, none⟩) la ca, .slice (some ⟨h, ob, none⟩) lb cb]).run P w = .ok (.value (.bool false)) w
def TogOk (P : Program) (k : FuncId) (T f : Nat) : Prop := Enters P k ∧ ∀ (I : Hp) (w0 : World) (c d : List Value), Con P k #[.agg c.toArray, .agg d.toArray] I w0 []
  (fun v => ∃ b1 b2, v = .func (.func f) #[] #[.pointer (some ⟨b1, 0, none⟩), .pointer (some ⟨b2, 0, none⟩)]) (fun v => [Ch.emp, Ch.blk (bk (vg v [0])) c T, Ch.blk (bk (vg v [1])) d T])
def FS.ov (f : FS) : Bool := match f.cl with
  | some q => Nat.beq q.2 0 || Nat.beq q.2 9
  | none => false
def ClOk (P : Program) (k : FuncId) (E b : Nat) : Prop := (Nat.beq b 0 = true → OvOk P k) ∧ (Nat.beq b 0 = false → Nat.beq b 7 = false → Nat.ble 1000 b = false → Nat.beq b 9 = false → CloneOk P k E b) ∧ (Nat.ble 1000 b = true → TogOk P k E (b - 1000))
def NilIff : (ts : List Ty) → denH ts → Value → Prop
  | [.sl _ t], d, v => List.length (α := t.den) d.1 = 0 → v = .slice none 0 0
  | _, _, _ => True
def NilOk (P : Program) (k : FuncId) (f : FS) : Prop := ∀ w0 J γ vs (d : denP f.ps) r, Lay P J → PArgs P w0 J γ f.ps vs d → appP f.ps f.m d = some r →
    Con P k vs.toArray J w0 (owCh γ f.ps vs d) (fun v => resFa f.rs v ∧ NilIff f.rs (hFst f.rs (outs f.ps) (toH _ r)) v) (fun v => resGv f.rs (hFst f.rs (outs f.ps) (toH _ r)) v ++ outCh γ f.ps vs (hSnd f.rs (outs f.ps) (toH _ r)))
def intsH : (ts : List Ty) → denH ts → Option (List Int)
  | [], _ => some []
  | .int .i64 :: ts, d => (intsH ts d.2).map fun l => d.1 :: l
  | _ :: _, _ => none
def NewOk (P : Program) (k : FuncId) (T : Nat) (f : FS) : Prop := Enters P k ∧ ∀ w0 J γ vs (d : denP f.ps) r ns, Lay P J → PArgs P w0 J γ f.ps vs d → appP f.ps f.m d = some r → intsH (f.rs ++ outs f.ps) (toH _ r) = some ns →
    Con P k vs.toArray J w0 [] (fun v => ∃ b, v = .pointer (some ⟨b, 0, none⟩)) (fun v => [Ch.blk (bk v) (vs ++ ns.map (Value.int .i64)) T])
structure FOk (P : Program) (k : FuncId) (f : FS) : Prop where
  cl : ∀ q, f.cl = some q → ClOk P k q.1 q.2 ∧ (Nat.beq q.2 7 = true → NilOk P k f) ∧ (Nat.beq q.2 9 = true → NewOk P k q.1 f)
  en : f.ov = false → Enters P k
  con : f.ov = false → ∀ w0 J γ vs (d : denP f.ps) r, Lay P J → PArgs P w0 J γ f.ps vs d → appP f.ps f.m d = some r →
    Con P k vs.toArray J w0 (owCh γ f.ps vs d) (resFa f.rs) (fun v => resGv f.rs (hFst f.rs (outs f.ps) (toH _ r)) v ++ outCh γ f.ps vs (hSnd f.rs (outs f.ps) (toH _ r)))
def FTok (P : Program) : FT → Prop
  | [] => True
  | (k, f) :: l => FOk P k f ∧ FTok P l
theorem FTok.get {P : Program} {k : Nat} {f : FS} : ∀ {ft : FT}, FTok P ft → fs ft k = some f → FOk P k f
  | (j, x) :: l, ⟨h1, h2⟩, h => by
    unfold fs at h
    split at h
    · rename_i hj
      have : j = k := Nat.eq_of_beq_eq_true hj
      subst this
      rw [← Option.some.inj h]; exact h1
    · exact FTok.get h2 h

/-! ### Owned results, taken apart -/
def Ty.dp : Ty → Bool
  | .prod a b => a.dp && b.dp
  | .sl _ t => t.dp
  | .fro _ => false
  | .bag _ => false
  | .wr t => t.dp
  | .tree _ _ _ => false
  | _ => true
theorem Ty.dp_ok : ∀ {t : Ty}, t.dp = true → t.rep.Dp
  | .int _, _ => dp_flat
  | .bool, _ => dp_bool
  | .str, _ => dp_str
  | .raw, _ => dp_flat (α := Raw) (enc := (·.1)) (h1 := (·.2))
  | .prod a b, h => by
    have h : (a.dp && b.dp) = true := h
    rw [Bool.and_eq_true] at h
    exact dp_prod (dp_ok h.1) (dp_ok h.2)
  | .sl _ t, h => dp_slice (dp_ok (show t.dp = true from h))
  | .fro _, h => by cases h
  | .bag _, h => by cases h
  | .wr t, h => dp_ok (t := t) h
  | .tree _ _ _, h => by cases h
def cellsPth (id : Nat) (pth : Nat → List Nat) : (t : Ty) → t.den → Nat → List LV
  | .int k, d, _ => [.val (.int k d)]
  | .bool, d, _ => [.val (.bool d)]
  | .str, d, _ => [.val (.string d)]
  | .raw, d, _ => [.val d.1]
  | .prod a b, d, j => cellsPth id pth a d.1 j ++ cellsPth id pth b d.2 (j + a.size)
  | .sl E t, d, j => [.rd ⟨id, pth j⟩ (.sl E t) d]
  | .fro t, d, j => cellsPth id pth t d j
  | .bag t, d, j => cellsPth id pth t d j
  | .wr t, d, j => cellsPth id pth t d j
  | .tree T E t, d, j => [.rd ⟨id, pth j⟩ (.tree T E t) d]
theorem cellsPth_fine {P : Program} {w0 : World} {J : Hp} {θ : Th} {id n : Nat} {pth : Nat → List Nat} (hid : id < n) : ∀ (t : Ty) (d : t.den) (j : Nat) (cs : List Value), t.rep.rd J cs d → (∀ i v, cs[i]? = some v → vg (θ id) (pth (j + i)) = v) →
    (∀ x ∈ cellsPth id pth t d j, x.ok P w0 J θ n) ∧ (cellsPth id pth t d j).map (·.v θ) = cs
  | .int k, d, j, cs, h, _ => ⟨fun x hx => by obtain rfl := List.mem_singleton.1 hx; exact Eq.refl true, h.symm⟩
  | .bool, d, j, cs, h, _ => ⟨fun x hx => by obtain rfl := List.mem_singleton.1 hx; exact Eq.refl true, h.symm⟩
  | .str, d, j, cs, h, _ => ⟨fun x hx => by obtain rfl := List.mem_singleton.1 hx; exact Eq.refl true, h.symm⟩
  | .raw, d, j, cs, h, _ => ⟨fun x hx => by obtain rfl := List.mem_singleton.1 hx; exact d.2, h.symm⟩
  | .prod a b, d, j, cs, h, hc => by
    obtain ⟨c1, c2, rfl, h1, h2⟩ := h
    have hl : c1.length = a.size := (Rep.rd_len _ h1).trans a.rep_size
    obtain ⟨e1, e2⟩ := cellsPth_fine hid a d.1 j c1 h1 fun i v hv => hc i v (by rw [List.getElem?_append_left (List.getElem?_eq_some_iff.1 hv).1]; exact hv)
    obtain ⟨e3, e4⟩ := cellsPth_fine hid b d.2 (j + a.size) c2 h2 fun i v hv => by
      have := hc (a.size + i) v (by rw [List.getElem?_append_right (by omega), hl, Nat.add_sub_cancel_left]; exact hv)
      rwa [show j + a.size + i = j + (a.size + i) from by omega]
    refine ⟨fun x hx => ?_, ?_⟩
    · rcases List.mem_append.1 hx with hx | hx
      · exact e1 x hx
      · exact e3 x hx
    · show (cellsPth id pth a d.1 j ++ cellsPth id pth b d.2 (j + a.size)).map _ = _
      rw [List.map_append, e2, e4]
  | .sl E t, d, j, cs, h, hc => by
    obtain ⟨u, rfl⟩ := List.length_eq_one_iff.1 (Rep.rd_len _ h)
    have hh : hv θ ⟨id, pth j⟩ = u := by
      have := hc 0 u rfl
      rwa [Nat.add_zero] at this
    refine ⟨fun x hx => ?_, ?_⟩
    · obtain rfl := List.mem_singleton.1 hx
      exact ⟨hid, by rw [hh]; exact h⟩
    · show [hv θ ⟨id, pth j⟩] = [u]
      rw [hh]
  | .fro t, d, j, cs, h, hc => cellsPth_fine hid t d j cs h hc
  | .bag t, d, j, cs, h, hc => cellsPth_fine hid t d j cs h hc
  | .wr t, d, j, cs, h, hc => cellsPth_fine hid t d j cs h hc
  | .tree T E t, d, j, cs, h, hc => by
    obtain ⟨u, rfl⟩ := List.length_eq_one_iff.1 (Rep.rd_len _ h)
    have hh : hv θ ⟨id, pth j⟩ = u := by
      have := hc 0 u rfl
      rwa [Nat.add_zero] at this
    refine ⟨fun x hx => ?_, ?_⟩
    · obtain rfl := List.mem_singleton.1 hx
      exact ⟨hid, by rw [hh]; exact h⟩
    · show [hv θ ⟨id, pth j⟩] = [u]
      rw [hh]
def cellsOwn (id : Nat) (pth : Nat → List Nat) : (t : Ty) → t.den → Nat → List LV
  | .int k, d, _ => [.val (.int k d)]
  | .bool, d, _ => [.val (.bool d)]
  | .str, d, _ => [.val (.string d)]
  | .raw, d, _ => [.val d.1]
  | .prod a b, d, j => cellsOwn id pth a d.1 j ++ cellsOwn id pth b d.2 (j + a.size)
  | .sl _ _, _, j => [.own ⟨id, pth j⟩]
  | .fro t, d, j => cellsPth id pth t d j
  | .bag t, _, j => (List.range t.size).map fun i => .own ⟨id, pth (j + i)⟩
  | .wr t, d, j => cellsOwn id pth t d j
  | .tree _ _ _, _, j => [.own ⟨id, pth j⟩]
def chsOwn (id : Nat) (pth : Nat → List Nat) : (t : Ty) → t.den → Nat → List (Hdr × Chk)
  | .prod a b, d, j => chsOwn id pth a d.1 j ++ chsOwn id pth b d.2 (j + a.size)
  | .wr t, d, j => chsOwn id pth t d j
  | .tree T E t, d, j => [(⟨id, pth j⟩, .own (.tree T E t) d)]
  | .sl E t, d, j => [(⟨id, pth j⟩, .own (.sl E t) d)]
  | _, _, _ => []
section
variable {P : Program} {I J : Hp} {w0 w : World} {C : List Ch} {θ : Th} {n m : Nat}
theorem own_prod {α β : Type} {A : Rep α} {B : Rep β} {cs : List Value} {x : α × β} (h : St I w0 w (Ch.own (rProd A B) cs x :: C)) : ∃ c d, cs = c ++ d ∧ c.length = A.size ∧ St I w0 w (Ch.own A c x.1 :: Ch.own B d x.2 :: C) := by
  obtain ⟨h1, h2, F, ⟨G, K, rfl, ⟨c, d, G1, G2, rfl, rfl, k1, k2⟩, e⟩, h4, h5⟩ := h
  exact ⟨c, d, rfl, A.own_len k1, h1, h2, (G1 ++ G2) ++ K, ⟨G1, G2 ++ K, by rw [List.append_assoc], k1, G2, K, rfl, k2, e⟩, h4, h5⟩
theorem own_flat {α : Type} {enc : α → Value} {h1 : ∀ a, (enc a).oneCell' = true} {cs : List Value} {x : α} (h : St I w0 w (Ch.own (rFlat α enc h1) cs x :: C)) : cs = [enc x] ∧ St I w0 w C := by
  obtain ⟨h1, h2, F, ⟨G, K, rfl, ⟨rfl, k⟩, e⟩, h4, h5⟩ := h
  exact ⟨k, h1, h2, K, e, h4, h5⟩
theorem cellsOwn_fine {id : Nat} {pth : Nat → List Nat} (hid : id < n) : ∀ (t : Ty) (d : t.den) (j : Nat) (cs : List Value) (C : List Ch), (∀ i v, cs[i]? = some v → vg (θ id) (pth (j + i)) = v) → St J w0 w (Ch.own t.rep cs d :: C) →
    (∀ x ∈ cellsOwn id pth t d j, x.ok P w0 J θ n) ∧ (cellsOwn id pth t d j).map (·.v θ) = cs ∧ (∀ g ∈ chsOwn id pth t d j, g.1.id = id) ∧ St J w0 w (((chsOwn id pth t d j).map fun g => toCh P θ (g.1, m, g.2)) ++ C)
  | .int k, d, j, cs, C, _, h => by
    obtain ⟨rfl, h0⟩ := own_flat h
    exact ⟨fun x hx => by obtain rfl := List.mem_singleton.1 hx; exact Eq.refl true, rfl, fun g hg => (by cases hg), h0⟩
  | .bool, d, j, cs, C, _, h => by
    obtain ⟨rfl, h0⟩ := own_flat (h1 := fun _ => rfl) h
    exact ⟨fun x hx => by obtain rfl := List.mem_singleton.1 hx; exact Eq.refl true, rfl, fun g hg => (by cases hg), h0⟩
  | .str, d, j, cs, C, _, h => by
    obtain ⟨rfl, h0⟩ := own_flat (h1 := fun _ => rfl) h
    exact ⟨fun x hx => by obtain rfl := List.mem_singleton.1 hx; exact Eq.refl true, rfl, fun g hg => (by cases hg), h0⟩
  | .raw, d, j, cs, C, _, h => by
    obtain ⟨rfl, h0⟩ := own_flat (α := Raw) (enc := (·.1)) (h1 := (·.2)) h
    exact ⟨fun x hx => by obtain rfl := List.mem_singleton.1 hx; exact d.2, rfl, fun g hg => (by cases hg), h0⟩
  | .prod a b, d, j, cs, C, hc, h => by
    obtain ⟨c1, c2, rfl, hl, h⟩ := own_prod h
    rw [a.rep_size] at hl
    obtain ⟨e1, e2, e3, e4⟩ := cellsOwn_fine hid a d.1 j c1 _ (fun i v hv => hc i v (by rw [List.getElem?_append_left (List.getElem?_eq_some_iff.1 hv).1]; exact hv)) h
    obtain ⟨k1, k2, k3, k4⟩ := cellsOwn_fine hid b d.2 (j + a.size) c2 _ (fun i v hv => by
      have := hc (a.size + i) v (by rw [List.getElem?_append_right (by omega), hl, Nat.add_sub_cancel_left]; exact hv)
      rwa [show j + a.size + i = j + (a.size + i) from by omega]) (e4.perm List.perm_middle)
    refine ⟨fun x hx => ?_, ?_, fun g hg => ?_, ?_⟩
    · rcases List.mem_append.1 hx with hx | hx
      · exact e1 x hx
      · exact k1 x hx
    · show (cellsOwn id pth a d.1 j ++ cellsOwn id pth b d.2 (j + a.size)).map _ = _
      rw [List.map_append, e2, k2]
    · rcases List.mem_append.1 hg with hg | hg
      · exact e3 g hg
      · exact k3 g hg
    · show St J w0 w (((chsOwn id pth a d.1 j ++ chsOwn id pth b d.2 (j + a.size)).map _) ++ C)
      rw [List.map_append]
      refine k4.perm ?_
      rw [List.append_assoc]
      exact List.perm_append_comm_assoc _ _ _
  | .sl E t, d, j, cs, C, hc, h => by
    have hone : ∃ u, cs = [u] ∧ u.oneCell' = true := by
      obtain ⟨h1, h2, F, ⟨G, K, rfl, k, e⟩, h4, h5⟩ := h
      have hl : cs.length = 1 := (Ty.sl E t).rep.own_len k
      obtain ⟨u, rfl⟩ := List.length_eq_one_iff.1 hl
      exact ⟨u, rfl, (Ty.sl E t).rep.own_one k u (by simp)⟩
    obtain ⟨u, rfl, h1⟩ := hone
    have hh : hv θ ⟨id, pth j⟩ = u := by
      have := hc 0 u rfl
      rwa [Nat.add_zero] at this
    refine ⟨fun x hx => ?_, ?_, fun g hg => ?_, ?_⟩
    · obtain rfl := List.mem_singleton.1 hx
      exact ⟨hid, by rw [hh]; exact h1⟩
    · show [hv θ ⟨id, pth j⟩] = [u]
      rw [hh]
    · obtain rfl := List.mem_singleton.1 hg; rfl
    · show St J w0 w (Ch.own _ [hv θ ⟨id, pth j⟩] d :: C)
      rw [hh]; exact h
  | .fro t, d, j, cs, C, hc, h => by
    obtain ⟨h1, h2, F, ⟨G, K, rfl, ⟨rfl, k⟩, e⟩, h4, h5⟩ := h
    obtain ⟨e1, e2⟩ := cellsPth_fine (J := J) hid t d j cs k hc
    exact ⟨e1, e2, fun g hg => (by cases hg), h1, h2, K, e, h4, h5⟩
  | .wr t, d, j, cs, C, hc, hs => cellsOwn_fine hid t d j cs C hc hs
  | .bag t, d, j, cs, C, hc, h => by
    obtain ⟨h1, h2, F, ⟨G, K, rfl, k, e⟩, h4, h5⟩ := h
    have hl : cs.length = t.size := ((Ty.bag t).rep.own_len k).trans t.rep_size
    have ho := (Ty.bag t).rep.own_one k
    have hst : St J w0 w C := ⟨h1, h2, K, e, (List.nodup_append.1 h4).2.1, fun b hb => h5 b (List.mem_append_right _ hb)⟩
    have hat : ∀ i (hi : i < cs.length), hv θ ⟨id, pth (j + i)⟩ = cs[i] := fun i hi => hc i _ (List.getElem?_eq_getElem hi)
    refine ⟨fun x hx => ?_, ?_, fun g hg => (by cases hg), hst⟩
    · obtain ⟨i, hi, rfl⟩ := List.mem_map.1 hx
      have hi : i < cs.length := by rw [hl]; exact List.mem_range.1 hi
      exact ⟨hid, by rw [hat i hi]; exact ho _ (List.getElem_mem hi)⟩
    · show ((List.range t.size).map fun i => LV.own ⟨id, pth (j + i)⟩).map (·.v θ) = cs
      rw [List.map_map, ← hl]
      refine List.ext_getElem (by simp) fun i h1 h2 => ?_
      rw [List.getElem_map, List.getElem_range]
      exact hat i h2
  | .tree T E t, d, j, cs, C, hc, h => by
    have hone : ∃ u, cs = [u] ∧ u.oneCell' = true := by
      obtain ⟨h1, h2, F, ⟨G, K, rfl, k, e⟩, h4, h5⟩ := h
      have hl : cs.length = 1 := (Ty.tree T E t).rep.own_len k
      obtain ⟨u, rfl⟩ := List.length_eq_one_iff.1 hl
      exact ⟨u, rfl, (Ty.tree T E t).rep.own_one k u (by simp)⟩
    obtain ⟨u, rfl, h1⟩ := hone
    have hh : hv θ ⟨id, pth j⟩ = u := by
      have := hc 0 u rfl
      rwa [Nat.add_zero] at this
    refine ⟨fun x hx => ?_, ?_, fun g hg => ?_, ?_⟩
    · obtain rfl := List.mem_singleton.1 hx
      exact ⟨hid, by rw [hh]; exact h1⟩
    · show [hv θ ⟨id, pth j⟩] = [u]
      rw [hh]
    · obtain rfl := List.mem_singleton.1 hg; rfl
    · show St J w0 w (Ch.own _ [hv θ ⟨id, pth j⟩] d :: C)
      rw [hh]; exact h
end

/-! ### The value of a call -/
def pthOf (agg : Bool) (pre : List Nat) : Nat → List Nat := match agg with
  | true => fun j => pre ++ [j]
  | false => fun _ => pre
def partAv (id : Nat) (pre : List Nat) (t : Ty) (d : t.den) : Bool × List LV := (t.isProd, cellsOwn id (pthOf t.isProd pre) t d 0)
def partChs (id : Nat) (pre : List Nat) (t : Ty) (d : t.den) : List (Hdr × Chk) := chsOwn id (pthOf t.isProd pre) t d 0
def tupAv (id : Nat) : (i : Nat) → (ts : List Ty) → denH ts → List (Bool × List LV)
  | _, [], _ => []
  | i, t :: ts, d => partAv id [i] t d.1 :: tupAv id (i + 1) ts d.2
def tupChs (id : Nat) : (i : Nat) → (ts : List Ty) → denH ts → List (Hdr × Chk)
  | _, [], _ => []
  | i, t :: ts, d => partChs id [i] t d.1 ++ tupChs id (i + 1) ts d.2
def oneAv (y : Bool × List LV) : AV := match y with
  | (true, l) => .agg l
  | (false, [x]) => .one x
  | _ => .und
def resAv (id : Nat) : (ts : List Ty) → denH ts → AV
  | [t], d => oneAv (partAv id [] t d.1)
  | ts, d => .tup (tupAv id 0 ts d)
def resChs (id : Nat) : (ts : List Ty) → denH ts → List (Hdr × Chk)
  | [t], d => partChs id [] t d.1
  | ts, d => tupChs id 0 ts d
theorem vg_undef : ∀ p : List Nat, vg undef p = undef
  | [] => rfl
  | i :: l => by
    show vg ((#[] : Array Value).getD i undef) l = undef
    rw [show (#[] : Array Value).getD i undef = undef from by simp [Array.getD_eq_getD_getElem?]]
    exact vg_undef l
theorem vg_app : ∀ (p q : List Nat) (v : Value), vg v (p ++ q) = vg (vg v p) q
  | [], q, v => by cases v <;> rfl
  | i :: p, q, v => by
    cases v with
    | tuple vs => exact vg_app p q _
    | agg cs => exact vg_app p q _
    | func _ _ cs => exact vg_app p q _
    | _ => exact (vg_undef q).symm
theorem vg_agg {cs : Array Value} {j : Nat} {v : Value} (h : cs.toList[j]? = some v) : vg (.agg cs) [j] = v := by
  show cs.getD j undef = v
  rw [Array.getElem?_toList] at h
  rw [Array.getD_eq_getD_getElem?, h]; rfl
theorem Ty.size_one : ∀ {t : Ty}, t.isProd = false → t.size = 1
  | .int _, _ => rfl
  | .bool, _ => rfl
  | .str, _ => rfl
  | .raw, _ => rfl
  | .prod _ _, h => by cases h
  | .sl _ _, _ => rfl
  | .fro t, h => Ty.size_one (t := t) h
  | .wr _, h => by cases h
  | .tree _ _ _, _ => rfl
  | .bag t, h => Ty.size_one (t := t) h
theorem cellsPth_one {id : Nat} {pth : Nat → List Nat} : ∀ {t : Ty} {d : t.den} {j : Nat}, t.isProd = false → (cellsPth id pth t d j).length = 1
  | .int _, _, _, _ => rfl
  | .bool, _, _, _ => rfl
  | .str, _, _, _ => rfl
  | .raw, _, _, _ => rfl
  | .prod _ _, _, _, h => by cases h
  | .sl _ _, _, _, _ => rfl
  | .fro t, d, j, h => cellsPth_one (t := t) h
  | .bag t, d, j, h => cellsPth_one (t := t) h
  | .wr _, _, _, h => by cases h
  | .tree _ _ _, _, _, _ => rfl
theorem cellsOwn_one {id : Nat} {pth : Nat → List Nat} {t : Ty} {d : t.den} {j : Nat} (h1 : t.isProd = false) : (cellsOwn id pth t d j).length = 1 := by
  cases t with
  | prod a b => cases h1
  | fro t => exact cellsPth_one (t := t) h1
  | wr t => cases h1
  | bag t =>
    show ((List.range t.size).map _).length = 1
    rw [List.length_map, List.length_range]
    exact Ty.size_one h1
  | _ => rfl
def allDp : List Ty → Bool
  | [] => true
  | t :: ts => t.dp && allDp ts
section
variable {P : Program} {I J : Hp} {w0 w : World} {C : List Ch} {θ : Th} {n m : Nat}
theorem oneAv_ok {chs : List Ent} : ∀ y : Bool × List LV, (y.1 = false → y.2.length = 1) → (∀ x ∈ y.2, x.ok P w0 J θ n) → (oneAv y).ok P w0 J θ n chs ∧ (oneAv y).v θ = partV θ y := by
  rintro ⟨b, l⟩ hl hx
  cases b with
  | true => exact ⟨hx, rfl⟩
  | false =>
    obtain ⟨x, rfl⟩ := List.length_eq_one_iff.1 (hl rfl)
    exact ⟨hx x (by simp), rfl⟩
theorem part_fine {id : Nat} {pre : List Nat} (hid : id < n) {t : Ty} {d : t.den} {u : Value} (hu : hv θ ⟨id, pre⟩ = u) (hg : isAggV u = t.isProd) (h : St J w0 w (Ch.own t.rep (vcells t.isProd u) d :: C)) :
    (∀ x ∈ (partAv id pre t d).2, x.ok P w0 J θ n) ∧ (partAv id pre t d).2.map (·.v θ) = vcells t.isProd u ∧ partV θ (partAv id pre t d) = u ∧ (∀ g ∈ partChs id pre t d, g.1.id = id) ∧ St J w0 w (((partChs id pre t d).map fun g => toCh P θ (g.1, m, g.2)) ++ C) := by
  have hu : vg (θ id) pre = u := hu
  cases hb : t.isProd with
  | true =>
    rw [hb] at hg h
    cases u with
    | agg cs =>
      obtain ⟨k1, k2, k3, k4⟩ := cellsOwn_fine (P := P) (m := m) (θ := θ) (pth := pthOf true pre) hid t d 0 cs.toList C (fun i v hv => by
        show vg (θ id) (pre ++ [0 + i]) = v
        rw [vg_app, hu, Nat.zero_add]
        exact vg_agg hv) h
      refine ⟨by unfold partAv; rw [hb]; exact k1, by unfold partAv; rw [hb]; exact k2, ?_, by unfold partChs; rw [hb]; exact k3, by unfold partChs; rw [hb]; exact k4⟩
      unfold partAv partV
      rw [hb]
      show Value.agg ((cellsOwn id (pthOf true pre) t d 0).map _).toArray = _
      rw [k2]
    | _ => cases hg
  | false =>
    rw [hb] at hg h
    obtain ⟨k1, k2, k3, k4⟩ := cellsOwn_fine (P := P) (m := m) (θ := θ) (pth := pthOf false pre) hid t d 0 [u] C (fun i v hv => by
      cases i with
      | zero => exact hu.trans (by simpa using hv)
      | succ i => simp at hv) h
    refine ⟨by unfold partAv; rw [hb]; exact k1, by unfold partAv; rw [hb]; exact k2, ?_, by unfold partChs; rw [hb]; exact k3, by unfold partChs; rw [hb]; exact k4⟩
    unfold partAv partV
    rw [hb]
    show (match cellsOwn id (pthOf false pre) t d 0 with
      | x :: _ => x.v θ
      | [] => undef) = u
    cases hc : cellsOwn id (pthOf false pre) t d 0 with
    | nil => rw [hc] at k2; cases k2
    | cons x l =>
      rw [hc] at k2
      exact (List.cons.inj k2).1
theorem tup_fine {id : Nat} (hid : id < n) {vs : Array Value} (hu : θ id = .tuple vs) : ∀ (ts : List Ty) (i : Nat) (d : denH ts) (C : List Ch), (∀ j t, ts[j]? = some t → isAggV (vs.getD (i + j) undef) = t.isProd) → St J w0 w (resGo i ts d (.tuple vs) ++ C) →
    (∀ y ∈ tupAv id i ts d, ∀ x ∈ y.2, x.ok P w0 J θ n) ∧ (tupAv id i ts d).map (partV θ) = (List.range' i ts.length).map (fun j => vs.getD j undef) ∧ (∀ g ∈ tupChs id i ts d, g.1.id = id) ∧ St J w0 w (((tupChs id i ts d).map fun g => toCh P θ (g.1, m, g.2)) ++ C)
  | [], i, d, C, _, h => ⟨fun y hy => (by cases hy), rfl, fun g hg => (by cases hg), h⟩
  | t :: ts, i, d, C, ha, h => by
    have h : St J w0 w (Ch.own t.rep (vcells t.isProd (vs.getD i undef)) d.1 :: (resGo (i + 1) ts d.2 (.tuple vs) ++ C)) := h
    obtain ⟨e1, -, e2, e3, e4⟩ := part_fine (P := P) (m := m) (θ := θ) (pre := [i]) (u := vs.getD i undef) hid (by show vg (θ id) [i] = _; rw [hu]; rfl) (ha 0 t rfl) h
    obtain ⟨k1, k2, k3, k4⟩ := tup_fine hid hu ts (i + 1) d.2 (((partChs id [i] t d.1).map fun g => toCh P θ (g.1, m, g.2)) ++ C) (fun j t hj => by
      have := ha (j + 1) t hj
      rwa [show i + (j + 1) = i + 1 + j from by omega] at this) (e4.perm (List.perm_append_comm_assoc _ _ _))
    refine ⟨fun y hy => ?_, ?_, fun g hg => ?_, ?_⟩
    · rcases List.mem_cons.1 hy with rfl | hy
      · exact e1
      · exact k1 y hy
    · show partV θ _ :: (tupAv id (i + 1) ts d.2).map _ = _
      rw [e2, k2]; rfl
    · rcases List.mem_append.1 hg with hg | hg
      · exact e3 g hg
      · exact k3 g hg
    · show St J w0 w (((partChs id [i] t d.1 ++ tupChs id (i + 1) ts d.2).map _) ++ C)
      rw [List.map_append]
      refine k4.perm ?_
      rw [List.append_assoc]
      exact List.perm_append_comm_assoc _ _ _
theorem res_fine {id : Nat} (hid : id < n) {chs : List Ent} {v : Value} (hu : θ id = v) : ∀ (ts : List Ty) (d : denH ts) (C : List Ch), resFa ts v → St J w0 w (resGv ts d v ++ C) →
    (resAv id ts d).ok P w0 J θ n chs ∧ (resAv id ts d).v θ = v ∧ (∀ g ∈ resChs id ts d, g.1.id = id) ∧ St J w0 w (((resChs id ts d).map fun g => toCh P θ (g.1, m, g.2)) ++ C) := by
  intro ts d C hf h
  have tup : ∀ vs, v = .tuple vs → vs.size = ts.length → (∀ i t, ts[i]? = some t → isAggV (vs.getD i undef) = t.isProd) → St J w0 w (resGo 0 ts d v ++ C) →
      (AV.tup (tupAv id 0 ts d)).ok P w0 J θ n chs ∧ (AV.tup (tupAv id 0 ts d)).v θ = v ∧ (∀ g ∈ tupChs id 0 ts d, g.1.id = id) ∧ St J w0 w (((tupChs id 0 ts d).map fun g => toCh P θ (g.1, m, g.2)) ++ C) := by
    rintro vs rfl hsz ha h
    obtain ⟨k1, k2, k3, k4⟩ := tup_fine (P := P) (m := m) hid hu ts 0 d C (fun j t hj => by rw [Nat.zero_add]; exact ha j t hj) h
    refine ⟨k1, ?_, k3, k4⟩
    show Value.tuple ((tupAv id 0 ts d).map (partV θ)).toArray = _
    rw [k2]
    congr 1
    apply Array.ext'
    apply List.ext_getElem?
    intro i
    by_cases hi : i < ts.length
    · simp [hi, hsz, Array.getD_eq_getD_getElem?]
    · simp [hi, hsz]
  match ts, d, hf, h, tup with
  | [t], d, hf, h, _ =>
    obtain ⟨k1, -, k2, k3, k4⟩ := part_fine (P := P) (m := m) (θ := θ) (pre := []) hid (show hv θ ⟨id, []⟩ = v from hu) hf h
    obtain ⟨q1, q2⟩ := oneAv_ok _ (fun e => cellsOwn_one e) k1
    exact ⟨q1, q2.trans k2, k3, k4⟩
  | [], d, hf, h, tup => obtain ⟨vs, h1, h2, h3⟩ := hf; exact tup vs h1 h2 h3 h
  | _ :: _ :: _, d, hf, h, tup => obtain ⟨vs, h1, h2, h3⟩ := hf; exact tup vs h1 h2 h3 h
end
end Go.Proofs.YtfkjjnddefojjaaGreatDoor.R
/- Calls of known functions: arguments, the step. No program text is named here. -/
set_option linter.unusedVariables false
set_option linter.unusedSimpArgs false
set_option linter.unnecessarySimpa false
set_option linter.unusedSectionVars false
namespace Go.Proofs.YtfkjjnddefojjaaGreatDoor.R
open Go.RowKit
open Go.Proofs.YtfkjjnddefojjaaGreatDoor.D

section
variable {P : Program} {I : Hp} {w0 w : World} {o : Oper} {ev : Operand → Value}
theorem St_lend {ls rn cs : List Ch} (h : St I w0 w (ls ++ (rn ++ cs))) : ∃ J, I.le J ∧ (∀ {α : Type} (R : Rep α) (v : List Value) (a : α), Ch.own R v a ∈ ls → R.rd J v a) ∧ (∀ g l E, Ch.blk g l E ∈ ls → J g = some (.cells l.toArray E (0, 0))) ∧ St J w0 w (rn ++ [Ch.fr I cs]) ∧
    ∀ w' ds, Ch.deeps ds → St J w0 w' (ds ++ [Ch.fr I cs]) → St I w0 w' (ds ++ (ls ++ cs)) := by
  obtain ⟨hb, hi, F, h1, h2, h3⟩ := h
  obtain ⟨G, K, rfl, e2, e3⟩ := h1.split
  obtain ⟨n1, n2, n3⟩ := List.nodup_append.1 h2
  let J : Hp := fun b => if b ∈ G then w.heap[b]? else I b
  have hIJ : I.le J := fun b o hb' => by
    show (if b ∈ G then w.heap[b]? else I b) = some o
    split
    · exact hi b o hb'
    · exact hb'
  have hJG : ∀ b, b ∈ G → J b = w.heap[b]? := fun b hb' => if_pos hb'
  have hJn : ∀ b, b ∉ G → J b = I b := fun b hb' => if_neg hb'
  have hmem : ∀ {ls : List Ch} {G : List Nat} {c : Ch}, Sep I ls w G → c ∈ ls → ∃ G', (∀ b, b ∈ G' → b ∈ G) ∧ c.holds I w G' := by
    intro ls
    induction ls with
    | nil => intro G c _ hc; cases hc
    | cons d ls ih =>
      rintro G c ⟨G1, K1, rfl, e, e'⟩ hc
      rcases List.mem_cons.1 hc with rfl | hc
      · exact ⟨G1, fun b hb => List.mem_append_left _ hb, e⟩
      · obtain ⟨G', f1, f2⟩ := ih e' hc
        exact ⟨G', fun b hb => List.mem_append_right _ (f1 b hb), f2⟩
  obtain ⟨K1, K2, rfl, g1, g2⟩ := e3.split
  refine ⟨J, hIJ, fun R v a hm => ?_, fun g l E hm => ?_, ⟨hb, fun b o hb' => ?_, K1 ++ K2, (g1.mono hIJ).append ⟨K2, [], by simp, g2, rfl⟩, n2, fun b hb' => ?_⟩, ?_⟩
  · obtain ⟨G', f1, f2⟩ := hmem e2 hm
    exact R.own_rd f2 hIJ fun b hb => hJG b (f1 b hb)
  · obtain ⟨G', f1, f2, f3⟩ := hmem e2 hm
    subst f2
    rw [hJG g (f1 g (by simp))]; exact f3
  · by_cases hg : b ∈ G
    · rw [hJG b hg] at hb'; exact hb'
    · rw [hJn b hg] at hb'; exact hi b o hb'
  · rw [hJn b fun hg => n3 b hg b hb' rfl]; exact h3 b (List.mem_append_right _ hb')
  · rintro w' ds hd ⟨kb, ki, F', k1, k2, k3⟩
    obtain ⟨F1, F2, rfl, q1, F3, F4, rfl, q4, rfl⟩ := k1.split
    have hl2 := e2.live
    have hlv : ∀ b, b ∈ G → w'.heap[b]? = w.heap[b]? := fun b hg => by
      obtain ⟨o, ho⟩ : ∃ o, w.heap[b]? = some o := ⟨_, Array.getElem?_eq_getElem (hl2 b hg)⟩
      rw [ho]
      exact ki b o (by rw [hJG b hg]; exact ho)
    have hgd : ∀ b, b ∈ G → b ∉ F1 ++ (F3 ++ []) := fun b hg hf => by
      have := k3 b hf
      rw [hJG b hg, Array.getElem?_eq_getElem (hl2 b hg)] at this
      cases this
    rw [List.append_nil] at k2 k3 hgd
    refine ⟨kb, hIJ.trans ki, F1 ++ (G ++ F3), (q1.deeps hd).append ((e2.stay hlv).append q4), ?_, fun b hb' => ?_⟩
    · have hp : (F1 ++ (G ++ F3)).Perm (G ++ (F1 ++ F3)) := List.perm_append_comm_assoc _ _ _
      exact hp.nodup_iff.2 (List.nodup_append.2 ⟨n1, k2, fun b hb1 c hb2 hbc => hgd b hb1 (hbc ▸ hb2)⟩)
    · have hb'' : b ∈ G ∨ b ∈ F1 ++ F3 := by simp at hb' ⊢; rcases hb' with h | h | h <;> simp [h]
      rcases hb'' with h | h
      · exact h3 b (List.mem_append_left _ h)
      · have := k3 b h
        rw [hJn b fun hg => hgd b hg h] at this
        exact this
theorem OpT_lend {ls rn : List Ch} {fact : Value → Prop} {gv : Value → List Ch} (hd : ∀ v, Ch.deeps (gv v))
    (h : ∀ J, I.le J → (∀ {α : Type} (R : Rep α) (v : List Value) (a : α), Ch.own R v a ∈ ls → R.rd J v a) → (∀ g l E, Ch.blk g l E ∈ ls → J g = some (.cells l.toArray E (0, 0))) → OpT P J w0 o ev rn fact gv) : OpT P I w0 o ev (ls ++ rn) fact (fun v => ls ++ gv v) := by
  intro w C hs
  rw [List.append_assoc] at hs
  obtain ⟨J, h1, h2, h3, h4, h5⟩ := St_lend hs
  refine (h J h1 h2 h3 w _ h4).imp fun v w' hv => ⟨hv.1, ?_⟩
  have := h5 w' _ (hd v) hv.2
  refine this.perm ?_
  rw [List.append_assoc]
  exact List.perm_append_comm_assoc _ _ _
end

/-! ### Arguments -/
def lendSl (chs : List Ent) (E : TypeId) (t : Ty) (x : LV) : Option (List t.den × List Hdr) := match x with
  | .own h => (rowOf h chs).bind fun q => (castTy (.sl q.E q.t) (.sl E t) q.xs).bind fun d => some (d, [h])
  | x => (lvSl E t x).bind fun d => some (d, [])
structure TreeE where
  ver : Nat
  T : TypeId
  E : TypeId
  t : Ty
  d : Tr t.den
  rest : List Ent
def treeAt (h : Hdr) (chs : List Ent) : Option TreeE := (pull h chs).bind fun r => match r.1.2.2 with
  | .own (.tree T E t) d => chkT (noHdr h r.2) (some ⟨r.1.2.1, T, E, t, d, r.2⟩)
  | _ => none
def TreeE.ent (r : TreeE) (h : Hdr) : Ent := (h, r.ver, .own (.tree r.T r.E r.t) r.d)
theorem treeAt_ok {h : Hdr} {chs : List Ent} {r : TreeE} (e : treeAt h chs = some r) : chs.Perm (r.ent h :: r.rest) ∧ ∀ e ∈ r.rest, e.1 ≠ h := by
  obtain ⟨q, hq, e⟩ := bind_some e
  obtain ⟨p, k⟩ := pull_ok hq
  obtain ⟨⟨h', ver, c⟩, rest⟩ := q
  obtain rfl : h' = h := k
  cases c with
  | own t' d =>
    cases t' with
    | tree T E t =>
      obtain ⟨hn, e⟩ := chkT_ok (show chkT (noHdr h' rest) _ = some r from e)
      obtain rfl := Option.some.inj e
      exact ⟨p, fun e he => noHdr_ok hn he⟩
    | _ => cases e
  | _ => cases e
def lendData (chs : List Ent) : (t : Ty) → List LV → Option (t.den × List LV × List Hdr)
  | .prod a b, l => (lendData chs a l).bind fun x => (lendData chs b x.2.1).bind fun y => some ((x.1, y.1), y.2.1, x.2.2 ++ y.2.2)
  | .sl E t, l => match l with
    | x :: r => (lendSl chs E t x).bind fun q => some (q.1, r, q.2)
    | [] => none
  | .fro t, l => lendData chs t l
  | .bag t, l => lendData chs t l
  | .wr t, l => lendData chs t l
  | .int k, l => (rdData (.int k) l).bind fun x => some (x.1, x.2, [])
  | .bool, l => (rdData .bool l).bind fun x => some (x.1, x.2, [])
  | .str, l => (rdData .str l).bind fun x => some (x.1, x.2, [])
  | .raw, _ => none
  | .tree T E t, l => match l with
    | .own h :: r => (treeAt h chs).bind fun q => (castTy (.tree q.T q.E q.t) (.tree T E t) q.d).bind fun d => some (d, r, [h])
    | l => (rdData (.tree T E t) l).bind fun x => some (x.1, x.2, [])
def blkU (h : Hdr) (chs : List Ent) : Option Blk := (blkOf h chs).bind fun b => chkT (noHdr h b.rest) (some b)
theorem blkU_ok {h : Hdr} {chs : List Ent} {b : Blk} (k : blkU h chs = some b) : blkOf h chs = some b ∧ ∀ e ∈ b.rest, e.1 ≠ h := by
  obtain ⟨b', hb, k⟩ := bind_some k
  obtain ⟨h1, k⟩ := chkT_ok k
  obtain rfl := Option.some.inj k
  exact ⟨hb, fun e he => noHdr_ok h1 he⟩
def Lent (J : Hp) (θ : Th) (chs : List Ent) (hs : List Hdr) : Prop := ∀ h ∈ hs, (∀ q, rowOf h chs = some q → (Ty.sl q.E q.t).rep.rd J [hv θ h] q.xs) ∧ (∀ q, treeAt h chs = some q → (Ty.tree q.T q.E q.t).rep.rd J [hv θ h] q.d) ∧ ∀ b, blkU h chs = some b → J (bk (hv θ h)) = some (.cells (b.cells.map (·.v θ)).toArray b.T (0, 0))
theorem Lent.l {J : Hp} {θ : Th} {chs : List Ent} {a b : List Hdr} (h : Lent J θ chs (a ++ b)) : Lent J θ chs a := fun x hx => h x (List.mem_append_left _ hx)
theorem Lent.r {J : Hp} {θ : Th} {chs : List Ent} {a b : List Hdr} (h : Lent J θ chs (a ++ b)) : Lent J θ chs b := fun x hx => h x (List.mem_append_right _ hx)
theorem lendData_ok {P : Program} {w0 : World} {J : Hp} {θ : Th} {n : Nat} {chs : List Ent} : ∀ {t : Ty} {cs : List LV} {r : t.den × List LV × List Hdr}, lendData chs t cs = some r → (∀ x ∈ cs, x.ok P w0 J θ n) → Lent J θ chs r.2.2 → ∃ c1, cs = c1 ++ r.2.1 ∧ t.rep.rd J (c1.map (·.v θ)) r.1 := by
  intro t
  induction t with
  | prod a b iha ihb =>
    intro cs r h hc hl
    obtain ⟨x, hx, h⟩ := bind_some (show (lendData chs a cs).bind _ = some r from h)
    obtain ⟨y, hy, h⟩ := bind_some h
    obtain rfl := Option.some.inj h
    obtain ⟨c1, rfl, k1⟩ := iha hx hc hl.l
    obtain ⟨c2, e2, k2⟩ := ihb hy (fun z hz => hc z (List.mem_append_right _ hz)) hl.r
    exact ⟨c1 ++ c2, by rw [e2, List.append_assoc], c1.map (·.v θ), c2.map (·.v θ), by rw [List.map_append], k1, k2⟩
  | sl E t ih =>
    intro cs r h hc hl
    cases cs with
    | nil => cases h
    | cons x l =>
      obtain ⟨q, hq, h⟩ := bind_some (show (lendSl chs E t x).bind _ = some r from h)
      obtain rfl := Option.some.inj h
      refine ⟨[x], rfl, ?_⟩
      cases x with
      | own h' =>
        obtain ⟨z, hz, hq⟩ := bind_some (show (rowOf h' chs).bind _ = some q from hq)
        obtain ⟨d, hd, hq⟩ := bind_some hq
        obtain rfl := Option.some.inj hq
        exact castTy_rd hd ((hl h' (by simp)).1 z hz)
      | rd h2 t2 d2 =>
        obtain ⟨d, hd, hq⟩ := bind_some (show (lvSl E t (.rd h2 t2 d2)).bind _ = some q from hq)
        obtain rfl := Option.some.inj hq
        exact lvSl_ok hd (hc _ (by simp))
      | val v =>
        obtain ⟨d, hd, hq⟩ := bind_some (show (lvSl E t (.val v)).bind _ = some q from hq)
        obtain rfl := Option.some.inj hq
        exact lvSl_ok hd (hc _ (by simp))
      | nb _ => cases (show none = some q from hq)
      | ptr _ _ => cases (show none = some q from hq)
      | fn _ _ _ _ => cases (show none = some q from hq)
      | fz _ _ _ _ _ => cases (show none = some q from hq)
      | fzf _ _ _ _ _ => cases (show none = some q from hq)
      | rdn _ _ _ _ => cases (show none = some q from hq)
  | fro t ih =>
    intro cs r h hc hl
    exact ih (show lendData chs t cs = some r from h) hc hl
  | bag t ih =>
    intro cs r h hc hl
    exact ih (show lendData chs t cs = some r from h) hc hl
  | wr t ih =>
    intro cs r h hc hl
    exact ih (show lendData chs t cs = some r from h) hc hl
  | int k =>
    intro cs r h hc hl
    obtain ⟨x, hx, h⟩ := bind_some (show (rdData _ cs).bind _ = some r from h)
    obtain rfl := Option.some.inj h
    exact rdData_ok hx hc
  | bool =>
    intro cs r h hc hl
    obtain ⟨x, hx, h⟩ := bind_some (show (rdData _ cs).bind _ = some r from h)
    obtain rfl := Option.some.inj h
    exact rdData_ok hx hc
  | raw =>
    intro cs r h hc hl
    cases (show none = some r from h)
  | str =>
    intro cs r h hc hl
    obtain ⟨x, hx, h⟩ := bind_some (show (rdData _ cs).bind _ = some r from h)
    obtain rfl := Option.some.inj h
    exact rdData_ok hx hc
  | tree T E t ih =>
    intro cs r h hc hl
    have old : ((rdData (.tree T E t) cs).bind fun x => some (x.1, x.2, ([] : List Hdr))) = some r → ∃ c1, cs = c1 ++ r.2.1 ∧ (Ty.tree T E t).rep.rd J (c1.map (·.v θ)) r.1 := fun h => by
      obtain ⟨x, hx, h⟩ := bind_some h
      obtain rfl := Option.some.inj h
      exact rdData_ok hx hc
    cases cs with
    | nil => exact old h
    | cons x l =>
      cases x with
      | own h' =>
        obtain ⟨q, hq, h⟩ := bind_some (show (treeAt h' chs).bind _ = some r from h)
        obtain ⟨d, hd, h⟩ := bind_some h
        obtain rfl := Option.some.inj h
        exact ⟨[.own h'], rfl, castTy_rd hd ((hl h' (by simp)).2.1 q hq)⟩
      | _ => exact old h
def lendAv (chs : List Ent) (t : Ty) (v : AV) : Option (t.den × List Hdr) := match v, t.isProd with
  | .agg cs, true => (lendData chs t cs).bind fun r => chkT r.2.1.isEmpty (some (r.1, r.2.2))
  | .one x, false => (lendData chs t [x]).bind fun r => chkT r.2.1.isEmpty (some (r.1, r.2.2))
  | _, _ => none
theorem lendAv_ok {P : Program} {w0 : World} {J : Hp} {θ : Th} {n : Nat} {chs : List Ent} {t : Ty} {v : AV} {r : t.den × List Hdr} (h : lendAv chs t v = some r) (hv' : v.ok P w0 J θ n chs) (hl : Lent J θ chs r.2) : ∃ cs, Lds t.isProd cs (v.v θ) ∧ t.rep.rd J cs r.1 := by
  unfold lendAv at h
  split at h
  · rename_i cs hb
    obtain ⟨q, hq, h⟩ := bind_some h
    obtain ⟨he, h⟩ := chkT_ok h
    obtain rfl := Option.some.inj h
    obtain ⟨c1, e, k⟩ := lendData_ok hq hv' hl
    rw [List.isEmpty_iff.1 he, List.append_nil] at e
    subst e
    exact ⟨_, by rw [hb]; rfl, k⟩
  · rename_i x hb
    obtain ⟨q, hq, h⟩ := bind_some h
    obtain ⟨he, h⟩ := chkT_ok h
    obtain rfl := Option.some.inj h
    obtain ⟨c1, e, k⟩ := lendData_ok hq (fun y hy => by obtain rfl := List.mem_singleton.1 hy; exact hv') hl
    rw [List.isEmpty_iff.1 he, List.append_nil] at e
    subst e
    exact ⟨_, by rw [hb]; rfl, k⟩
  · cases h
def castFn (ps rs ps' rs' : List Ty) (e : cur ps (Option (dens rs))) : Option (cur ps' (Option (dens rs'))) := if h : ps = ps' ∧ rs = rs' then some (h.1 ▸ h.2 ▸ e) else none
theorem castFn_ok {ps rs ps' rs' : List Ty} {e : cur ps (Option (dens rs))} {e' : cur ps' (Option (dens rs'))} (h : castFn ps rs ps' rs' e = some e') {P : Program} {w0 : World} {J : Hp} {v : Value} (hf : FnOk P w0 J v ps rs e) : FnOk P w0 J v ps' rs' e' := by
  unfold castFn at h
  split at h
  · rename_i hh
    obtain ⟨rfl, rfl⟩ := hh
    obtain rfl := Option.some.inj h
    exact hf
  · cases h
/-! ### Function values -/
structure FnR (a b : List Ty) where
  e : cur a (Option (dens b))
  lent : List Hdr
structure CapR (p : PM) where
  d : p.den
  lent : List Hdr
section
variable (ft : FT) (chs : List Ent)
def capOf (rec : (a b : List Ty) → LV → Option (FnR a b)) : (p : PM) → LV → Option (CapR p)
  | .cap T t, x => match x with
    | .ptr h off => chkT (Nat.beq off 0) ((blkU h chs).bind fun b => chkT (Nat.beq b.T T) ((lendData chs t b.cells).bind fun r => chkT r.2.1.isEmpty (some ⟨r.1, h :: r.2.2⟩)))
    | .fz h T' t' d off => chkT (Nat.beq off 0 && Nat.beq T' T) ((castTy t' t d).bind fun d => some ⟨d, []⟩)
    | _ => none
  | .capf T a b, x => match x with
    | .ptr h off => chkT (Nat.beq off 0) ((blkU h chs).bind fun bl => chkT (Nat.beq bl.T T) (match bl.cells with
      | [y] => (rec a b y).bind fun r => some ⟨r.e, h :: r.lent⟩
      | _ => none))
    | .fzf h T' a' b' e => chkT (Nat.beq T' T) ((castFn a' b' a b e).bind fun e => some ⟨e, []⟩)
    | _ => none
  | _, _ => none
def capsOf (rec : (a b : List Ty) → LV → Option (FnR a b)) : (qs : List PM) → List LV → Option (denP qs × List Hdr)
  | [], [] => some ((), [])
  | q :: qs, x :: xs => (capOf chs rec q x).bind fun r => (capsOf rec qs xs).bind fun s => some ((r.d, s.1), r.lent ++ s.2)
  | _, _ => none
def firstOf : (ts : List Ty) → List (Bool × List LV) → Option (denH ts × List Hdr)
  | [], [] => some ((), [])
  | t :: ts, y :: ys => chkT (y.1 == t.isProd) ((lendData chs t y.2).bind fun r => chkT (r.2.1.isEmpty && (y.1 || Nat.beq y.2.length 1)) ((firstOf ts ys).bind fun q => some ((r.1, q.1), r.2.2 ++ q.2)))
  | _, _ => none
end
def rdTys : List PM → Option (List Ty)
  | [] => some []
  | .rd t :: ps => (rdTys ps).bind fun ts => some (t :: ts)
  | _ => none
def rds : List Ty → List PM → List PM
  | [], qs => qs
  | t :: ts, qs => .rd t :: rds ts qs
def rdsP : (ts : List Ty) → (qs : List PM) → denH ts → denP qs → denP (rds ts qs)
  | [], _, _, e => e
  | _ :: ts, qs, d, e => (d.1, rdsP ts qs d.2 e)
def curOf {R : Type} : (a : List Ty) → (denH a → R) → cur a R
  | [], g => g ()
  | _ :: a, g => fun x => curOf a fun d => g (x, d)
theorem app_curOf {R : Type} : ∀ (a : List Ty) (g : denH a → R) (d : denH a), app a (curOf a g) d = g d
  | [], _, _ => rfl
  | _ :: a, g, d => app_curOf a (fun x => g (d.1, x)) d.2
def isCap : PM → Bool
  | .cap _ _ => true
  | .capf _ _ _ => true
  | _ => false
def allCap : List PM → Bool
  | [] => true
  | p :: ps => isCap p && allCap ps
def mkFnQ (chs : List Ent) (rec : (a b : List Ty) → LV → Option (FnR a b)) (a b : List Ty) (f : FS) (r1 : List Ty) (qs : List PM) (first : List (Bool × List LV)) (capt : List LV) : Option (FnR a b) :=
  if h : f.ps = rds r1 (rds a qs) ∧ f.rs ++ outs f.ps = b then
    (firstOf chs r1 first).bind fun d1 => (capsOf chs rec qs capt).bind fun dc =>
      some ⟨curOf a fun x => h.2 ▸ appP f.ps f.m (h.1 ▸ rdsP r1 (rds a qs) d1.1 (rdsP a qs x dc.1)), d1.2 ++ dc.2⟩
  else none
def mkFn (ft : FT) (chs : List Ent) (rec : (a b : List Ty) → LV → Option (FnR a b)) (a b : List Ty) (k : FuncId) (first : List (Bool × List LV)) (capt : List LV) : Option (FnR a b) := (fs ft k).bind fun f => (rdTys (f.ps.take first.length)).bind fun r1 =>
  chkT (!f.ov && allCap (f.ps.drop (first.length + a.length))) (mkFnQ chs rec a b f r1 (f.ps.drop (first.length + a.length)) first capt)
def cloOf (h : Hdr) (chs : List Ent) : Option (FuncId × List (Bool × List LV) × List LV) := (pull h chs).bind fun r => match r.1.2.2 with
  | .clo k first capt => some (k, first, capt)
  | _ => none
def fnOf (ft : FT) (chs : List Ent) : Nat → (a b : List Ty) → LV → Option (FnR a b)
  | 0, _, _, _ => none
  | n + 1, a, b, x => match x with
    | .fn h a' b' e => (castFn a' b' a b e).bind fun e => some ⟨e, []⟩
    | .own h => (cloOf h chs).bind fun q => mkFn ft chs (fnOf ft chs n) a b q.1 q.2.1 q.2.2
    | .val v => match v with
      | .func (.func k) f c => chkT (f.toList.isEmpty && c.toList.isEmpty) (mkFn ft chs (fnOf ft chs n) a b k [] [])
      | _ => none
    | _ => none
section
variable {P : Program} {w0 : World} {J J' : Hp} {θ : Th} {n : Nat} {chs chs0 : List Ent} {ft : FT}
theorem resGo_nil : ∀ (rs us : List Ty) (i : Nat) (d : denH (rs ++ us)) (v : Value), us = [] → resGo i (rs ++ us) d v = resGo i rs (hFst rs us d) v
  | [], us, i, d, v, h => by subst h; rfl
  | t :: rs, us, i, d, v, h => by
    show Ch.own _ _ _ :: resGo (i + 1) (rs ++ us) d.2 v = Ch.own _ _ _ :: resGo (i + 1) rs (hFst rs us d.2) v
    rw [resGo_nil rs us (i + 1) d.2 v h]; rfl
theorem resGv_nil (rs us : List Ty) (d : denH (rs ++ us)) (v : Value) (h : us = []) : resGv (rs ++ us) d v = resGv rs (hFst rs us d) v := by
  match rs, d with
  | [], d => subst h; rfl
  | [t], d => subst h; rfl
  | t :: u :: rs, d => exact resGo_nil (t :: u :: rs) us 0 d v h
theorem resFa_nil (rs us : List Ty) (v : Value) (h : us = []) : resFa rs v → resFa (rs ++ us) v := by
  subst h
  rw [List.append_nil]
  exact id
theorem outs_rds {qs : List PM} : ∀ ts : List Ty, outs (rds ts qs) = outs qs
  | [] => rfl
  | _ :: ts => outs_rds ts
theorem outs_cap {qs : List PM} : allCap qs = true → outs qs = [] := by
  induction qs with
  | nil => intro _; rfl
  | cons q qs ih =>
    intro h
    have h : (isCap q && allCap qs) = true := h
    rw [Bool.and_eq_true] at h
    cases q with
    | cap _ _ => exact ih h.2
    | capf _ _ _ => exact ih h.2
    | _ => cases h.1
theorem owCh_rds {γ : Value} {qs : List PM} : ∀ (ts : List Ty) (vs us : List Value) (d : denH ts) (e : denP qs), vs.length = ts.length → owCh γ (rds ts qs) (vs ++ us) (rdsP ts qs d e) = owCh γ qs us e
  | [], [], us, d, e, _ => rfl
  | _ :: ts, v :: vs, us, d, e, h => owCh_rds ts vs us d.2 e (by simpa using h)
  | [], _ :: _, _, _, _, h => by cases h
  | _ :: _, [], _, _, _, h => by cases h
theorem owCh_cap {γ : Value} {qs : List PM} : ∀ (us : List Value) (e : denP qs), allCap qs = true → owCh γ qs us e = [] := by
  induction qs with
  | nil => intro us e _; cases us <;> rfl
  | cons q qs ih =>
    intro us e h
    cases us with
    | nil => rfl
    | cons u us =>
      have h : (isCap q && allCap qs) = true := h
      rw [Bool.and_eq_true] at h
      cases q with
      | cap _ _ => exact ih us e.2 h.2
      | capf _ _ _ => exact ih us e.2 h.2
      | _ => cases h.1
theorem outCh_rds {γ : Value} {qs : List PM} {us : List Value} : ∀ (ts : List Ty) (vs : List Value), vs.length = ts.length → allCap qs = true → ∀ d : denH (outs (rds ts qs)), outCh γ (rds ts qs) (vs ++ us) d = []
  | [], [], _, h => fun d => by
    have key : ∀ {qs : List PM} (us : List Value) (d : denH (outs qs)), allCap qs = true → outCh γ qs us d = [] := by
      intro qs
      induction qs with
      | nil => intro us d _; cases us <;> rfl
      | cons q qs ih =>
        intro us d h
        cases us with
        | nil => rfl
        | cons u us =>
          have h : (isCap q && allCap qs) = true := h
          rw [Bool.and_eq_true] at h
          cases q with
          | cap _ _ => exact ih us d h.2
          | capf _ _ _ => exact ih us d h.2
          | _ => cases h.1
    exact key us d h
  | _ :: ts, v :: vs, hl, h => fun d => outCh_rds ts vs (by simpa using hl) h d
  | [], _ :: _, h, _ => by cases h
  | _ :: _, [], h, _ => by cases h
theorem pargs_rds {γ : Value} {qs : List PM} {us : List Value} {e : denP qs} (h : PArgs P w0 J γ qs us e) : ∀ {ts : List Ty} {vs : List Value} {d : denH ts}, RArgs J ts vs d → PArgs P w0 J γ (rds ts qs) (vs ++ us) (rdsP ts qs d e) ∧ vs.length = ts.length
  | [], vs, d, hr => by
    have hr : vs = [] := hr
    subst hr
    exact ⟨h, rfl⟩
  | t :: ts, vs, d, hr => by
    obtain ⟨v, cs, r, rfl, k1, k2, k3⟩ := hr
    obtain ⟨q1, q2⟩ := pargs_rds h k3
    exact ⟨⟨v, r ++ us, rfl, ⟨cs, k1, k2⟩, q1⟩, by simpa using q2⟩
theorem blkU_ent {h : Hdr} {b : Blk} (k : blkU h chs = some b) (hc : ∀ e ∈ chs, okE P w0 J θ n chs0 e) : okE P w0 J θ n chs0 (b.ent h) := hc _ ((blkOf_ok (blkU_ok k).1).mem_iff.2 (List.mem_cons_self ..))
theorem capOf_ok {rec : (a b : List Ty) → LV → Option (FnR a b)} (hrec : ∀ a b x r, rec a b x = some r → x.ok P w0 J θ n → Lent J' θ chs r.lent → FnOk P w0 J' (x.v θ) a b r.e) (hJ : J.le J') (hc : ∀ e ∈ chs, okE P w0 J θ n chs0 e) {p : PM} {x : LV} {r : CapR p} (h : capOf chs rec p x = some r) (hx : x.ok P w0 J θ n) (hl : Lent J' θ chs r.lent) : PArg P w0 J' undef p (x.v θ) r.d := by
  cases p with
  | cap T t =>
    cases x with
    | ptr hh off =>
      obtain ⟨ho, h⟩ := chkT_ok (show chkT (Nat.beq off 0) _ = some r from h)
      obtain ⟨b, hb, h⟩ := bind_some h
      obtain ⟨hT, h⟩ := chkT_ok h
      obtain ⟨q, hq, h⟩ := bind_some h
      obtain ⟨he, h⟩ := chkT_ok h
      obtain rfl := Option.some.inj h
      obtain rfl := Nat.eq_of_beq_eq_true ho
      have hT := Nat.eq_of_beq_eq_true hT
      have hk := (hl hh (by simp)).2.2 b hb
      have hbo := blkU_ent (P := P) (w0 := w0) (J := J) (n := n) hb hc
      obtain ⟨c1, e1, k⟩ := lendData_ok (J := J') hq (fun x hx => LV.ok_same Same.rfl (Nat.le_refl _) (hbo.2.2 x hx) hJ) (fun y hy => hl y (by simp [hy]))
      rw [List.isEmpty_iff.1 he, List.append_nil] at e1
      subst e1
      exact ⟨_, rfl, _, by rw [← hT]; exact hk, k⟩
    | fz hh T' t' d off =>
      obtain ⟨ho, h⟩ := chkT_ok (show chkT (Nat.beq off 0 && Nat.beq T' T) _ = some r from h)
      rw [Bool.and_eq_true] at ho
      obtain ⟨d', hd, h⟩ := bind_some h
      obtain rfl := Option.some.inj h
      obtain rfl := Nat.eq_of_beq_eq_true ho.1
      obtain rfl := Nat.eq_of_beq_eq_true ho.2
      obtain ⟨h1, cells, h2, h3⟩ := hx
      exact ⟨_, rfl, cells, hJ _ _ h2, castTy_rd hd (Rep.rd_mono _ h3 hJ)⟩
    | _ => cases h
  | capf T a b =>
    cases x with
    | ptr hh off =>
      obtain ⟨ho, g1⟩ := chkT_ok (show chkT (Nat.beq off 0) _ = some r from h)
      obtain ⟨bl, hb, g2⟩ := bind_some g1
      obtain ⟨hT, g3⟩ := chkT_ok g2
      clear h g1 g2
      obtain rfl := Nat.eq_of_beq_eq_true ho
      have hT := Nat.eq_of_beq_eq_true hT
      have hbo := blkU_ent (P := P) (w0 := w0) (J := J) (n := n) hb hc
      split at g3
      · rename_i y hy
        obtain ⟨q, hq, g4⟩ := bind_some g3
        obtain rfl := Option.some.inj g4
        have hk := (hl hh (by simp)).2.2 bl hb
        rw [hy] at hk
        exact ⟨_, rfl, _, by rw [← hT]; exact hk, hrec a b y q hq (hbo.2.2 y (by show y ∈ bl.cells; rw [hy]; simp)) fun z hz => hl z (by simp [hz])⟩
      · cases g3
    | fzf hh T' a' b' e =>
      obtain ⟨ho, h⟩ := chkT_ok (show chkT (Nat.beq T' T) _ = some r from h)
      obtain ⟨e', he, h⟩ := bind_some h
      obtain rfl := Option.some.inj h
      obtain rfl := Nat.eq_of_beq_eq_true ho
      obtain ⟨h1, u, h2, h3⟩ := hx
      exact ⟨_, rfl, u, hJ _ _ h2, (castFn_ok he h3).mono hJ⟩
    | _ => cases h
  | _ => cases h
theorem capsOf_ok {rec : (a b : List Ty) → LV → Option (FnR a b)} (hrec : ∀ a b x r, rec a b x = some r → x.ok P w0 J θ n → Lent J' θ chs r.lent → FnOk P w0 J' (x.v θ) a b r.e) (hJ : J.le J') (hc : ∀ e ∈ chs, okE P w0 J θ n chs0 e) : ∀ {qs : List PM} {xs : List LV} {r : denP qs × List Hdr}, capsOf chs rec qs xs = some r → (∀ x ∈ xs, x.ok P w0 J θ n) → Lent J' θ chs r.2 → PArgs P w0 J' undef qs (xs.map (·.v θ)) r.1
  | [], [], r, h, _, _ => by obtain rfl := Option.some.inj (show some _ = some r from h); exact Eq.refl _
  | q :: qs, x :: xs, r, h, hx, hl => by
    obtain ⟨a, ha, h⟩ := bind_some (show (capOf chs rec q x).bind _ = some r from h)
    obtain ⟨s, hs, h⟩ := bind_some h
    obtain rfl := Option.some.inj h
    exact ⟨_, _, rfl, capOf_ok hrec hJ hc ha (hx x (by simp)) hl.l, capsOf_ok hrec hJ hc hs (fun y hy => hx y (by simp [hy])) hl.r⟩
  | [], _ :: _, r, h, _, _ => by cases h
  | _ :: _, [], r, h, _, _ => by cases h
theorem firstOf_ok (hJ : J.le J') : ∀ {ts : List Ty} {ys : List (Bool × List LV)} {r : denH ts × List Hdr}, firstOf chs ts ys = some r → (∀ y ∈ ys, ∀ x ∈ y.2, x.ok P w0 J θ n) → Lent J' θ chs r.2 → RArgs J' ts (ys.map (partV θ)) r.1
  | [], [], r, h, _, _ => by obtain rfl := Option.some.inj (show some _ = some r from h); exact Eq.refl _
  | t :: ts, y :: ys, r, h, hy, hl => by
    obtain ⟨hg, h⟩ := chkT_ok (show chkT (y.1 == t.isProd) _ = some r from h)
    obtain ⟨a, ha, h⟩ := bind_some h
    obtain ⟨he, h⟩ := chkT_ok h
    obtain ⟨q, hq, h⟩ := bind_some h
    obtain rfl := Option.some.inj h
    rw [Bool.and_eq_true] at he
    have hg : y.1 = t.isProd := by simpa using hg
    obtain ⟨c1, e1, k⟩ := lendData_ok (J := J') ha (fun x hx => LV.ok_same Same.rfl (Nat.le_refl _) (hy y (by simp) x hx) hJ) hl.l
    rw [List.isEmpty_iff.1 he.1, List.append_nil] at e1
    refine ⟨_, y.2.map (·.v θ), _, rfl, ?_, by rw [e1]; exact k, firstOf_ok hJ hq (fun z hz => hy z (by simp [hz])) hl.r⟩
    obtain ⟨yb, yl⟩ := y
    simp only at hg he
    subst hg
    cases hb : t.isProd with
    | true => show partV θ (true, yl) = _; rfl
    | false =>
      rw [hb] at he
      have hlen : yl.length = 1 := Nat.eq_of_beq_eq_true (by simpa using he.2)
      obtain ⟨x, rfl⟩ := List.length_eq_one_iff.1 hlen
      rfl
  | [], _ :: _, r, h, _, _ => by cases h
  | _ :: _, [], r, h, _, _ => by cases h
theorem mkFn_ok (hF : FTok P ft) (hlay : Lay P J) {rec : (a b : List Ty) → LV → Option (FnR a b)} (hrec : ∀ a b x r, rec a b x = some r → x.ok P w0 J θ n → ∀ J', J.le J' → Lent J' θ chs r.lent → FnOk P w0 J' (x.v θ) a b r.e) (hJ : J.le J') (hc : ∀ e ∈ chs, okE P w0 J θ n chs0 e) {a b : List Ty} {k : FuncId} {first : List (Bool × List LV)} {capt : List LV} {r : FnR a b} (h : mkFn ft chs rec a b k first capt = some r)
    (h1 : ∀ y ∈ first, ∀ x ∈ y.2, x.ok P w0 J θ n) (h2 : ∀ x ∈ capt, x.ok P w0 J θ n) (hl : Lent J' θ chs r.lent) : FnOk P w0 J' (.func (.func k) (first.map (partV θ)).toArray (capt.map (·.v θ)).toArray) a b r.e := by
  obtain ⟨f, hf, h⟩ := bind_some h
  obtain ⟨r1, hr1, h⟩ := bind_some h
  obtain ⟨hcap, h⟩ := chkT_ok h
  rw [Bool.and_eq_true] at hcap
  have hov : f.ov = false := by simpa using hcap.1
  replace hcap := hcap.2
  have hfo := hF.get hf
  have hen := hfo.en hov
  have hcn := hfo.con hov
  clear hov
  generalize f.ps.drop (first.length + a.length) = qs at h hcap
  unfold mkFnQ at h
  split at h
  · rename_i hh
    obtain ⟨d1, hd1, h⟩ := bind_some h
    obtain ⟨dc, hdc, h⟩ := bind_some h
    obtain rfl := Option.some.inj h
    clear hf hr1
    obtain ⟨ps, rs, m⟩ := f
    obtain ⟨e1, e2⟩ := hh
    simp only at e1 e2
    subst e1
    subst e2
    refine ⟨k, _, _, rfl, hen, fun J2 hJ2 args d hargs q hq => ?_⟩
    have hl2 : Lent J2 θ chs (d1.2 ++ dc.2) := fun x hx => ⟨fun z hz => Rep.rd_mono _ ((hl x hx).1 z hz) hJ2, fun z hz => Rep.rd_mono _ ((hl x hx).2.1 z hz) hJ2, fun z hz => hJ2 _ _ ((hl x hx).2.2 z hz)⟩
    have k1 := firstOf_ok (hJ.trans hJ2) hd1 h1 hl2.l
    have k2 := capsOf_ok (fun a b x r hr hx hlx => hrec a b x r hr hx J2 (hJ.trans hJ2) hlx) (hJ.trans hJ2) hc hdc h2 hl2.r
    obtain ⟨k3, k4⟩ := pargs_rds k2 hargs
    obtain ⟨k5, k6⟩ := pargs_rds k3 k1
    have hq : app a (curOf a fun x => appP _ m (rdsP r1 (rds a qs) d1.1 (rdsP a qs x dc.1))) d = some q := hq
    rw [app_curOf] at hq
    have hcon := hcn w0 J2 undef _ _ q (hlay.mono (hJ.trans hJ2)) k5 hq
    have hou : outs (rds r1 (rds a qs)) = [] := by rw [outs_rds, outs_rds]; exact outs_cap hcap
    have how : owCh undef (rds r1 (rds a qs)) ((first.map (partV θ)) ++ (args ++ capt.map (·.v θ))) (rdsP r1 (rds a qs) d1.1 (rdsP a qs d dc.1)) = [] := by
      rw [owCh_rds _ _ _ _ _ k6, owCh_rds _ _ _ _ _ k4]; exact owCh_cap _ _ hcap
    have hout : ∀ z, outCh undef (rds r1 (rds a qs)) ((first.map (partV θ)) ++ (args ++ capt.map (·.v θ))) z = [] := by
      intro z
      have hrd : ∀ (x y : List Ty), rds x (rds y qs) = rds (x ++ y) qs := by
        intro x y
        induction x with
        | nil => rfl
        | cons t x ih => exact congrArg (PM.rd t :: ·) ih
      have key : ∀ (X : List PM), X = rds (r1 ++ a) qs → ∀ z : denH (outs X), outCh undef X ((first.map (partV θ)) ++ (args ++ capt.map (·.v θ))) z = [] := by
        rintro X rfl z
        rw [← List.append_assoc]
        exact outCh_rds (r1 ++ a) _ (by rw [List.length_append, List.length_append, k6, k4]) hcap z
      exact key _ (hrd r1 a) z
    rw [how] at hcon
    intro w C hS
    have hS' := hcon w C hS
    have hargs' : ((first.map (partV θ)) ++ (args ++ capt.map (·.v θ))).toArray = ((first.map (partV θ)).toArray.toList ++ args ++ (capt.map (·.v θ)).toArray.toList).toArray := by simp
    rw [hargs'] at hS'
    refine hS'.mono fun e w' ⟨v, he, hfa, hst⟩ => ⟨v, he, resFa_nil _ _ v hou hfa, ?_⟩
    have e3 := resGv_nil rs (outs (rds r1 (rds a qs))) (toH _ q) v hou
    show St J2 w0 w' (resGv (rs ++ outs (rds r1 (rds a qs))) (toH _ q) v ++ C)
    rw [e3]
    have hst : St J2 w0 w' ((resGv rs (hFst rs (outs (rds r1 (rds a qs))) (toH _ q)) v ++ outCh _ _ _ _) ++ C) := hst
    rw [hout, List.append_nil] at hst
    exact hst
  · cases h
theorem cloOf_ok {h : Hdr} {q : FuncId × List (Bool × List LV) × List LV} (k : cloOf h chs = some q) : ∃ ver, (h, ver, Chk.clo q.1 q.2.1 q.2.2) ∈ chs := by
  obtain ⟨r, hr, k⟩ := bind_some k
  obtain ⟨p, e⟩ := pull_ok hr
  obtain ⟨⟨h', ver, c⟩, rest⟩ := r
  obtain rfl : h' = h := e
  cases c with
  | clo f first capt =>
    obtain rfl := Option.some.inj (show some _ = some q from k)
    exact ⟨ver, p.mem_iff.2 (List.mem_cons_self ..)⟩
  | _ => cases k
theorem fnOf_ok (hF : FTok P ft) (hlay : Lay P J) (hc : ∀ e ∈ chs, okE P w0 J θ n chs0 e) : ∀ {m : Nat} {a b : List Ty} {x : LV} {r : FnR a b}, fnOf ft chs m a b x = some r → x.ok P w0 J θ n → ∀ J', J.le J' → Lent J' θ chs r.lent → FnOk P w0 J' (x.v θ) a b r.e
  | 0, _, _, _, _, h, _, _, _, _ => by cases h
  | m + 1, a, b, x, r, h, hx, J', hJ, hl => by
    have hrec : ∀ a b x r, fnOf ft chs m a b x = some r → x.ok P w0 J θ n → ∀ J', J.le J' → Lent J' θ chs r.lent → FnOk P w0 J' (x.v θ) a b r.e := fun a b x r h hx J' hJ hl => fnOf_ok hF hlay hc h hx J' hJ hl
    cases x with
    | fn hh a' b' e =>
      obtain ⟨e', he, h⟩ := bind_some (show (castFn a' b' a b e).bind _ = some r from h)
      obtain rfl := Option.some.inj h
      exact (castFn_ok he hx.2).mono hJ
    | own hh =>
      obtain ⟨q, hq, h⟩ := bind_some (show (cloOf hh chs).bind _ = some r from h)
      obtain ⟨ver, hm⟩ := cloOf_ok hq
      obtain ⟨-, -, k1, k2, k3⟩ := hc _ hm
      have := mkFn_ok hF hlay hrec hJ hc h k1 k2 hl
      show FnOk P w0 J' (hv θ hh) a b r.e
      rw [show hv θ hh = _ from k3]; exact this
    | val v =>
      cases v with
      | func fk f c =>
        cases fk with
        | func k =>
          obtain ⟨he, h⟩ := chkT_ok (show chkT (f.toList.isEmpty && c.toList.isEmpty) (mkFn ft chs (fnOf ft chs m) a b k [] []) = some r from h)
          rw [Bool.and_eq_true, List.isEmpty_iff, List.isEmpty_iff] at he
          have := mkFn_ok hF hlay hrec hJ hc h (fun y hy => by cases hy) (fun y hy => by cases hy) hl
          have e1 : f = #[] := by simpa using he.1
          have e2 : c = #[] := by simpa using he.2
          subst e1
          subst e2
          exact this
        | _ => cases h
      | _ => cases h
    | _ => cases h
end
def pullAll : List Hdr → List Ent → Option (List Ent × List Ent)
  | [], chs => some ([], chs)
  | h :: hs, chs => (pull h chs).bind fun r => (pullAll hs r.2).bind fun q => some (r.1 :: q.1, q.2)
theorem pullAll_ok : ∀ {hs : List Hdr} {chs : List Ent} {r : List Ent × List Ent}, pullAll hs chs = some r → chs.Perm (r.1 ++ r.2) ∧ r.1.map (·.1) = hs
  | [], chs, r, h => by obtain rfl := Option.some.inj (show some _ = some r from h); exact ⟨List.Perm.refl _, rfl⟩
  | h' :: hs, chs, r, h => by
    obtain ⟨q, hq, h⟩ := bind_some (show (pull h' chs).bind _ = some r from h)
    obtain ⟨q2, hq2, h⟩ := bind_some h
    obtain rfl := Option.some.inj h
    obtain ⟨p1, e1⟩ := pull_ok hq
    obtain ⟨p2, e2⟩ := pullAll_ok hq2
    exact ⟨p1.trans (p2.cons _), by show q.1.1 :: q2.1.map _ = _; rw [e1, e2]⟩
def hasH (h : Hdr) (l : List Hdr) : Bool := l.any fun x => Hdr.beq x h
def dedup : List Hdr → List Hdr → List Hdr
  | [], _ => []
  | h :: hs, acc => if hasH h acc then dedup hs acc else h :: dedup hs (h :: acc)
theorem dedup_mem {h : Hdr} : ∀ {hs acc : List Hdr}, h ∈ hs → h ∈ dedup hs acc ∨ h ∈ acc
  | x :: hs, acc, hm => by
    unfold dedup
    split
    · rename_i hh
      rcases List.mem_cons.1 hm with rfl | hm
      · obtain ⟨y, hy, he⟩ := List.any_eq_true.1 hh
        exact .inr (Hdr.beq_eq he ▸ hy)
      · exact dedup_mem hm
    · rcases List.mem_cons.1 hm with rfl | hm
      · exact .inl (by simp)
      · rcases dedup_mem (acc := x :: acc) hm with h1 | h1
        · exact .inl (by simp [h1])
        · rcases List.mem_cons.1 h1 with rfl | h1
          · exact .inl (by simp)
          · exact .inr h1

end Go.Proofs.YtfkjjnddefojjaaGreatDoor.R
/- Calls: arguments, what comes back; function values made; what is frozen, read; boxes opened. No program text is named here. -/
set_option linter.unusedVariables false
set_option linter.unusedSimpArgs false
set_option linter.unnecessarySimpa false
set_option linter.unusedSectionVars false
namespace Go.Proofs.YtfkjjnddefojjaaGreatDoor.R
open Go.RowKit
open Go.Proofs.YtfkjjnddefojjaaGreatDoor.D

def isAggA : AV → Bool
  | .agg _ => true
  | _ => false
theorem avCells_v {v : AV} {cs : List LV} (h : avCells v = some cs) {P : Program} {w0 : World} {J : Hp} {θ : Th} {n : Nat} {chs : List Ent} (hv' : v.ok P w0 J θ n chs) {b : Bool} (hb : isAggA v = b) : vcells b (v.v θ) = cs.map (·.v θ) ∧ isAggV (v.v θ) = b := by
  subst hb
  cases v with
  | agg xs =>
    obtain rfl := Option.some.inj (show some xs = some cs from h)
    exact ⟨rfl, rfl⟩
  | one x =>
    obtain rfl := Option.some.inj (show some [x] = some cs from h)
    refine ⟨rfl, ?_⟩
    have h1 : (x.v θ).oneCell' = true := LV.one (show LV.ok P w0 J θ n x from hv')
    show isAggV (x.v θ) = false
    generalize x.v θ = u at h1
    cases u <;> first | rfl | cases h1
  | _ => cases h
def pullBox (h : Hdr) (T : TypeId) (t : Ty) (chs : List Ent) : Option (t.den × List Ent × List Ent) := (pull h chs).bind fun r => match r.1.2.2 with
  | .box T' t' d => chkT (Nat.beq T' T) ((castEq t' t d).bind fun d => some (d, [r.1], r.2))
  | .blk T' cells => chkT (Nat.beq T' T) ((takeData t cells r.2).bind fun q => chkT q.cells.isEmpty (some (q.d, r.1 :: q.used, q.rest)))
  | _ => none
theorem sep_box {I : Hp} {w : World} {F : List Nat} {ls : List Ch} {α : Type} {R : Rep α} {b : Nat} {T : TypeId} {cells : List Value} {d : α} (h : Sep I (Ch.blk b cells T :: ls) w F) (k : Bun I ls R cells d) : (Ch.box b T R d).holds I w F := by
  obtain ⟨G, K, rfl, ⟨rfl, h1⟩, h2⟩ := h
  exact ⟨cells, K, rfl, h1, k w K h2⟩
section
variable {P : Program} {w0 : World} {J J' : Hp} {θ θ' : Th} {n m : Nat} {chs chs0 : List Ent}
theorem pullBox_perm {h : Hdr} {T : TypeId} {t : Ty} {chs : List Ent} {q : t.den × List Ent × List Ent} (k : pullBox h T t chs = some q) : chs.Perm (q.2.1 ++ q.2.2) := by
  obtain ⟨r, hr, k⟩ := bind_some k
  obtain ⟨p, e⟩ := pull_ok hr
  obtain ⟨⟨h', ver, c⟩, rest⟩ := r
  cases c with
  | box T' t' d =>
    obtain ⟨hT, k⟩ := chkT_ok (show chkT (Nat.beq T' T) _ = some q from k)
    obtain ⟨d', hd, k⟩ := bind_some k
    obtain rfl := Option.some.inj k
    exact p
  | blk T' cells =>
    obtain ⟨hT, k⟩ := chkT_ok (show chkT (Nat.beq T' T) _ = some q from k)
    obtain ⟨q', hq, k⟩ := bind_some k
    obtain ⟨he, k⟩ := chkT_ok k
    obtain rfl := Option.some.inj k
    exact p.trans ((takeData_perm hq).cons _)
  | _ => cases k
theorem pullBox_ok {h : Hdr} {T : TypeId} {t : Ty} {q : t.den × List Ent × List Ent} (k : pullBox h T t chs = some q) (hJ : J.le J') (hc : ∀ e ∈ chs, okE P w0 J θ n chs0 e) : chs.Perm (q.2.1 ++ q.2.2) ∧ ∀ w F, Sep J' (q.2.1.map (toCh P θ)) w F → (Ch.box (bk (hv θ h)) T t.rep q.1).holds J' w F := by
  obtain ⟨r, hr, k⟩ := bind_some k
  obtain ⟨p, e⟩ := pull_ok hr
  obtain ⟨⟨h', ver, c⟩, rest⟩ := r
  obtain rfl : h' = h := e
  cases c with
  | box T' t' d =>
    obtain ⟨hT, k⟩ := chkT_ok (show chkT (Nat.beq T' T) _ = some q from k)
    obtain ⟨d', hd, k⟩ := bind_some k
    obtain rfl := Option.some.inj k
    obtain rfl := Nat.eq_of_beq_eq_true hT
    obtain ⟨rfl, rfl⟩ := castEq_ok hd
    refine ⟨p, fun w F hs => ?_⟩
    obtain ⟨G, K, rfl, h1, rfl⟩ := hs
    rw [List.append_nil]; exact h1
  | blk T' cells =>
    obtain ⟨hT, k⟩ := chkT_ok (show chkT (Nat.beq T' T) _ = some q from k)
    obtain ⟨q', hq, k⟩ := bind_some k
    obtain ⟨he, k⟩ := chkT_ok k
    obtain rfl := Option.some.inj k
    obtain rfl := Nat.eq_of_beq_eq_true hT
    have hok := hc _ (p.mem_iff.2 (List.mem_cons_self ..))
    obtain ⟨p2, c1, e1, e2⟩ := takeData_ok (J := J') (P := P) (w0 := w0) (θ := θ) (n := n) hq fun x hx => LV.ok_same Same.rfl (Nat.le_refl _) (hok.2.2 x hx) hJ
    rw [List.isEmpty_iff.1 he, List.append_nil] at e1
    subst e1
    exact ⟨p.trans (p2.cons _), fun w F hs => sep_box hs e2⟩
  | _ => cases k
/-! ### Arguments -/
structure CurQ where
  g : Hdr
  d : List Int × Int × Int
  ent : Ent
  rest : List Ent
def pullCur (h : Hdr) (T E : TypeId) (chs : List Ent) : Option CurQ := (pull h chs).bind fun r => match r.1.2.2 with
  | .blk T' [.rd g t xs, .val (.int .i64 x), .val (.int .i64 y)] => chkT (Nat.beq T' T) ((castEq t (.sl E (.int .u8)) xs).bind fun xs => some ⟨g, (xs, x, y), r.1, r.2⟩)
  | _ => none
theorem pullCur_ok {h : Hdr} {T E : TypeId} {chs : List Ent} {q : CurQ} (k : pullCur h T E chs = some q) : chs.Perm (q.ent :: q.rest) ∧ ∃ ver, q.ent = (h, ver, .blk T [.rd q.g (.sl E (.int .u8)) q.d.1, .val (.int .i64 q.d.2.1), .val (.int .i64 q.d.2.2)]) := by
  obtain ⟨r, hr, k2⟩ := bind_some k
  clear k
  obtain ⟨p, e⟩ := pull_ok hr
  obtain ⟨⟨h', ver, c⟩, rest⟩ := r
  obtain rfl : h' = h := e
  clear hr
  split at k2
  · rename_i T' g t xs x y hc
    obtain ⟨hT, k3⟩ := chkT_ok k2
    obtain ⟨xs', hx, k4⟩ := bind_some k3
    clear k3 k2
    obtain rfl := Option.some.inj k4
    obtain rfl := Nat.eq_of_beq_eq_true hT
    obtain ⟨rfl, e⟩ := castEq_ok hx
    obtain rfl : xs' = xs := e
    exact ⟨p, ver, by obtain rfl : c = _ := hc; rfl⟩
  · cases k2
inductive GhQ
  | cur (h : Hdr) (xs : List Int)
  | box (h : Hdr)
def GhQ.v (θ : Th) : GhQ → Value
  | .cur h _ => hv θ h
  | .box h => .pointer (some ⟨bk (hv θ h), 0, none⟩)
def ghIs (h : Hdr) : Option GhQ → Bool
  | none => true
  | some (.box h') => Hdr.beq h' h
  | _ => false
theorem ghIs_ok {h : Hdr} {o : Option GhQ} (k : ghIs h o = true) : ∀ q, o = some q → q = .box h := by
  rintro q rfl
  cases q with
  | cur _ _ => cases k
  | box h' => rw [Hdr.beq_eq k]
def clo1 (h : Hdr) (chs : List Ent) : Option (FuncId × Hdr) := (cloOf h chs).bind fun q => match q with
  | (k, [], [.ptr hb off]) => if Nat.beq off 0 then some (k, hb) else none
  | _ => none
theorem clo1_ok {h : Hdr} {chs : List Ent} {q : FuncId × Hdr} (k : clo1 h chs = some q) : ∃ ver, (h, ver, Chk.clo q.1 [] [.ptr q.2 0]) ∈ chs := by
  obtain ⟨⟨g, f, c⟩, hr, k⟩ := bind_some k
  obtain ⟨ver, hm⟩ := cloOf_ok hr
  split at k
  · rename_i k' hb off heq
    split at k
    · rename_i ho
      obtain rfl := Option.some.inj k
      obtain ⟨rfl, rfl, rfl⟩ : g = k' ∧ f = [] ∧ c = [.ptr hb off] := by simpa using heq
      obtain rfl := Nat.eq_of_beq_eq_true ho
      exact ⟨ver, hm⟩
    · cases k
  · cases k
structure Args (ps : List PM) where
  d : denP ps
  lent : List Hdr
  own : List Ent
  rest : List Ent
  gh : Option GhQ
def argsOf (ft : FT) (s : Sg) : (chs : List Ent) → (ps : List PM) → List AV → Option (Args ps)
  | chs, [], [] => some ⟨(), [], [], chs, none⟩
  | chs, .rd t :: ps, v :: xs => (lendAv s.chs t v).bind fun a => (argsOf ft s chs ps xs).bind fun r => some ⟨(a.1, r.d), a.2 ++ r.lent, r.own, r.rest, r.gh⟩
  | chs, .ow t :: ps, v :: xs => chkT (isAggA v == t.isProd) ((avCells v).bind fun cs => (takeData t cs chs).bind fun q => chkT q.cells.isEmpty ((argsOf ft s q.rest ps xs).bind fun r => some ⟨(q.d, r.d), r.lent, q.used ++ r.own, r.rest, r.gh⟩))
  | chs, .eat t :: ps, v :: xs => chkT (isAggA v == t.isProd) ((avCells v).bind fun cs => (takeData t cs chs).bind fun q => chkT q.cells.isEmpty ((argsOf ft s q.rest ps xs).bind fun r => some ⟨(q.d, r.d), r.lent, q.used ++ r.own, r.rest, r.gh⟩))
  | chs, .fn a b :: ps, x :: xs => match x with
    | .one y => (fnOf ft s.chs 4 a b y).bind fun q => (argsOf ft s chs ps xs).bind fun r => some ⟨(q.e, r.d), q.lent ++ r.lent, r.own, r.rest, r.gh⟩
    | _ => none
  | chs, .fk g :: ps, x :: xs => match x with
    | .one (.val (.func (.func k) f c)) => chkT (Nat.beq k g && f.toList.isEmpty && c.toList.isEmpty) ((argsOf ft s chs ps xs).bind fun r => some ⟨((), r.d), r.lent, r.own, r.rest, r.gh⟩)
    | _ => none
  | chs, .ptr T t :: ps, x :: xs => match x with
    | .one (.ptr h off) => chkT (Nat.beq off 0) ((pullBox h T t chs).bind fun q => (argsOf ft s q.2.2 ps xs).bind fun r => some ⟨(q.1, r.d), r.lent, q.2.1 ++ r.own, r.rest, r.gh⟩)
    | _ => none
  | chs, .crs T E :: ps, x :: xs => match x with
    | .one (.ptr h off) => chkT (Nat.beq off 0) ((pullCur h T E chs).bind fun q => (argsOf ft s q.rest ps xs).bind fun r => chkT r.gh.isNone (some ⟨(q.d, r.d), r.lent, q.ent :: r.own, r.rest, some (.cur q.g q.d.1)⟩))
    | _ => none
  | chs, .kb g T t :: ps, x :: xs => match x with
    | .one (.own h) => (clo1 h s.chs).bind fun c => chkT (Nat.beq c.1 g) ((pullBox c.2 T t chs).bind fun q => (argsOf ft s q.2.2 ps xs).bind fun r => chkT (ghIs c.2 r.gh) (some ⟨(q.1, r.d), r.lent, q.2.1 ++ r.own, r.rest, some (.box c.2)⟩))
    | _ => none
  | chs, .kc g :: ps, x :: xs => match x with
    | .one (.own h) => (clo1 h s.chs).bind fun c => chkT (Nat.beq c.1 g) ((argsOf ft s chs ps xs).bind fun r => chkT (ghIs c.2 r.gh) (some ⟨((), r.d), r.lent, r.own, r.rest, some (.box c.2)⟩))
    | _ => none
  | _, _, _ => none
theorem argsOf_ok {ft : FT} {s : Sg} (hF : FTok P ft) (hf : Fine P w0 J θ s) (hJ : J.le J') : ∀ {ps : List PM} {xs : List AV} {chs : List Ent} {r : Args ps}, argsOf ft s chs ps xs = some r → (∀ x ∈ xs, x.ok P w0 J θ s.nxt s.chs) → (∀ e ∈ chs, e ∈ s.chs) → Lent J' θ s.chs r.lent → ∀ γ, (∀ q, r.gh = some q → γ = q.v θ) →
    PArgs P w0 J' γ ps (xs.map (·.v θ)) r.d ∧ chs.Perm (r.own ++ r.rest) ∧ SepTo J' (r.own.map (toCh P θ)) (owCh γ ps (xs.map (·.v θ)) r.d)
  | [], [], chs, r, h, _, _, _, γ, hγ => by
    obtain rfl := Option.some.inj (show some _ = some r from h)
    exact ⟨Eq.refl _, List.Perm.refl _, sepTo_nil⟩
  | .rd t :: ps, x :: xs, chs, r, h, hx, hc, hl, γ, hγ => by
    obtain ⟨a, ha, h⟩ := bind_some (show (lendAv s.chs t x).bind _ = some r from h)
    obtain ⟨q, hq, h⟩ := bind_some h
    obtain rfl := Option.some.inj h
    obtain ⟨k1, k2, k3⟩ := argsOf_ok hF hf hJ hq (fun y hy => hx y (by simp [hy])) hc hl.r γ hγ
    obtain ⟨cs, c1, c2⟩ := lendAv_ok ha (AV.ok_same Same.rfl (Nat.le_refl _) Newer.rfl (hx x (by simp)) hJ) hl.l
    exact ⟨⟨_, _, rfl, ⟨cs, c1, c2⟩, k1⟩, k2, k3⟩
  | .ow t :: ps, x :: xs, chs, r, h, hx, hc, hl, γ, hγ => by
    obtain ⟨hg, h⟩ := chkT_ok (show chkT (isAggA x == t.isProd) _ = some r from h)
    have hg : isAggA x = t.isProd := by simpa using hg
    obtain ⟨cs, hcs, h⟩ := bind_some h
    obtain ⟨q, hq, h⟩ := bind_some h
    obtain ⟨he, h⟩ := chkT_ok h
    obtain ⟨r', hr, h⟩ := bind_some h
    obtain rfl := Option.some.inj h
    have hvo := hx x (by simp)
    obtain ⟨c1, c2⟩ := avCells_v hcs hvo hg
    have hok := (avCells_ok hcs (AV.ok_same Same.rfl (Nat.le_refl _) Newer.rfl hvo hJ)).1
    obtain ⟨p, cc, e1, e2⟩ := takeData_ok (J := J') (θ := θ) hq hok
    rw [List.isEmpty_iff.1 he, List.append_nil] at e1
    subst e1
    obtain ⟨k1, k2, k3⟩ := argsOf_ok hF hf hJ hr (fun y hy => hx y (by simp [hy])) (fun e h => hc e (p.mem_iff.2 (by simp [h]))) hl γ hγ
    refine ⟨⟨_, _, rfl, c2, k1⟩, by rw [List.append_assoc]; exact p.trans (k2.append_left _), ?_⟩
    show SepTo J' ((q.used ++ r'.own).map _) (Ch.own t.rep (vcells t.isProd (x.v θ)) q.d :: _)
    rw [List.map_append, c1]
    exact sepTo_bun e2 k3
  | .eat t :: ps, x :: xs, chs, r, h, hx, hc, hl, γ, hγ => by
    obtain ⟨hg, h⟩ := chkT_ok (show chkT (isAggA x == t.isProd) _ = some r from h)
    have hg : isAggA x = t.isProd := by simpa using hg
    obtain ⟨cs, hcs, h⟩ := bind_some h
    obtain ⟨q, hq, h⟩ := bind_some h
    obtain ⟨he, h⟩ := chkT_ok h
    obtain ⟨r', hr, h⟩ := bind_some h
    obtain rfl := Option.some.inj h
    have hvo := hx x (by simp)
    obtain ⟨c1, c2⟩ := avCells_v hcs hvo hg
    have hok := (avCells_ok hcs (AV.ok_same Same.rfl (Nat.le_refl _) Newer.rfl hvo hJ)).1
    obtain ⟨p, cc, e1, e2⟩ := takeData_ok (J := J') (θ := θ) hq hok
    rw [List.isEmpty_iff.1 he, List.append_nil] at e1
    subst e1
    obtain ⟨k1, k2, k3⟩ := argsOf_ok hF hf hJ hr (fun y hy => hx y (by simp [hy])) (fun e h => hc e (p.mem_iff.2 (by simp [h]))) hl γ hγ
    refine ⟨⟨_, _, rfl, c2, k1⟩, by rw [List.append_assoc]; exact p.trans (k2.append_left _), ?_⟩
    show SepTo J' ((q.used ++ r'.own).map _) (Ch.own t.rep (vcells t.isProd (x.v θ)) q.d :: _)
    rw [List.map_append, c1]
    exact sepTo_bun e2 k3
  | .fn a b :: ps, x :: xs, chs, r, h, hx, hc, hl, γ, hγ => by
    unfold argsOf at h
    split at h
    · rename_i y
      obtain ⟨q, hq, h⟩ := bind_some h
      obtain ⟨r', hr, h⟩ := bind_some h
      obtain rfl := Option.some.inj h
      obtain ⟨k1, k2, k3⟩ := argsOf_ok hF hf hJ hr (fun z hz => hx z (by simp [hz])) hc hl.r γ hγ
      exact ⟨⟨_, _, rfl, fnOf_ok hF hf.lay hf.chs hq (show LV.ok P w0 J θ s.nxt y from hx (.one y) (by simp)) J' hJ hl.l, k1⟩, k2, k3⟩
    · cases h
  | .ptr T t :: ps, x :: xs, chs, r, h, hx, hc, hl, γ, hγ => by
    unfold argsOf at h
    split at h
    · rename_i hh off
      obtain ⟨ho, h⟩ := chkT_ok h
      obtain ⟨q, hq, h⟩ := bind_some h
      obtain ⟨r', hr, h⟩ := bind_some h
      obtain rfl := Option.some.inj h
      obtain rfl := Nat.eq_of_beq_eq_true ho
      obtain ⟨p, hb⟩ := pullBox_ok (P := P) (w0 := w0) (J := J) (J' := J') (θ := θ) (n := s.nxt) (chs0 := s.chs) hq hJ fun e he => hf.chs e (hc e he)
      obtain ⟨k1, k2, k3⟩ := argsOf_ok hF hf hJ hr (fun y hy => hx y (by simp [hy])) (fun e h => hc e (p.mem_iff.2 (by simp [h]))) hl γ hγ
      refine ⟨⟨_, _, rfl, ⟨_, rfl⟩, k1⟩, by rw [List.append_assoc]; exact p.trans (k2.append_left _), ?_⟩
      show SepTo J' ((q.2.1 ++ r'.own).map _) (Ch.box (bk (hv θ hh)) T t.rep q.1 :: _)
      rw [List.map_append]
      intro w F hs
      obtain ⟨G, K, rfl, h1, h2⟩ := hs.split
      exact ⟨G, K, rfl, hb w G h1, k3 w K h2⟩
    · cases h
  | .fk g :: ps, x :: xs, chs, r, h, hx, hc, hl, γ, hγ => by
    unfold argsOf at h
    split at h
    · rename_i k f c
      obtain ⟨hk, h⟩ := chkT_ok h
      obtain ⟨r', hr, h⟩ := bind_some h
      obtain rfl := Option.some.inj h
      obtain ⟨k1, k2, k3⟩ := argsOf_ok hF hf hJ hr (fun z hz => hx z (by simp [hz])) hc hl γ hγ
      have hk : ((Nat.beq k g && f.toList.isEmpty) && c.toList.isEmpty) = true := hk
      rw [Bool.and_eq_true, Bool.and_eq_true] at hk
      obtain ⟨⟨hk1, hk2⟩, hk3⟩ := hk
      obtain rfl := Nat.eq_of_beq_eq_true hk1
      have ef : f = #[] := Array.ext' (List.isEmpty_iff.1 hk2)
      have ec : c = #[] := Array.ext' (List.isEmpty_iff.1 hk3)
      subst ef; subst ec
      exact ⟨⟨_, _, rfl, rfl, k1⟩, k2, k3⟩
    · cases h
  | .crs T E :: ps, x :: xs, chs, r, h, hx, hc, hl, γ, hγ => by
    unfold argsOf at h
    split at h
    · rename_i hh off
      obtain ⟨ho, h⟩ := chkT_ok h
      obtain ⟨q, hq, h⟩ := bind_some h
      obtain ⟨r', hr, h⟩ := bind_some h
      obtain ⟨hn, h⟩ := chkT_ok h
      obtain rfl := Option.some.inj h
      obtain rfl := Nat.eq_of_beq_eq_true ho
      have hg : γ = hv θ q.g := hγ _ rfl
      clear hγ
      subst hg
      obtain ⟨p, ver, he⟩ := pullCur_ok hq
      have hok := hf.chs _ (hc _ (p.mem_iff.2 (List.mem_cons_self ..)))
      rw [he] at hok
      have hrd : LV.ok P w0 J θ s.nxt (.rd q.g (.sl E (.int .u8)) q.d.1) := hok.2.2 _ (by simp)
      obtain ⟨k1, k2, k3⟩ := argsOf_ok hF hf hJ hr (fun z hz => hx z (by simp [hz])) (fun e h => hc e (p.mem_iff.2 (by simp [h]))) hl (hv θ q.g) (fun q' hq' => by rw [Option.isNone_iff_eq_none.1 hn] at hq'; cases hq')
      refine ⟨⟨_, _, rfl, ⟨⟨_, rfl⟩, Rep.rd_mono _ hrd.2 hJ⟩, k1⟩, p.trans (k2.cons _), ?_⟩
      show SepTo J' (toCh P θ q.ent :: r'.own.map _) (Ch.blk (bk (hv θ hh)) [hv θ q.g, .int .i64 q.d.2.1, .int .i64 q.d.2.2] T :: _)
      rw [he]
      intro w F hs
      obtain ⟨G, K, rfl, h1, h2⟩ := hs
      exact ⟨G, K, rfl, h1, k3 w K h2⟩
    · cases h
  | .kb g T t :: ps, x :: xs, chs, r, h, hx, hc, hl, γ, hγ => by
    unfold argsOf at h
    split at h
    · rename_i hh
      obtain ⟨c, hcl, h⟩ := bind_some h
      obtain ⟨hk, h⟩ := chkT_ok h
      obtain ⟨q, hq, h⟩ := bind_some h
      obtain ⟨r', hr, h⟩ := bind_some h
      obtain ⟨hn, h⟩ := chkT_ok h
      obtain rfl := Option.some.inj h
      obtain rfl := Nat.eq_of_beq_eq_true hk
      have hg : γ = .pointer (some ⟨bk (hv θ c.2), 0, none⟩) := hγ _ rfl
      obtain ⟨ver, hm⟩ := clo1_ok hcl
      have hok := (hf.chs _ hm).2.2
      have hfv : hv θ hh = .func (.func c.1) #[] #[.pointer (some ⟨bk (hv θ c.2), 0, none⟩)] := hok.2.2
      obtain ⟨p, hb⟩ := pullBox_ok (P := P) (w0 := w0) (J := J) (J' := J') (θ := θ) (n := s.nxt) (chs0 := s.chs) hq hJ fun e he => hf.chs e (hc e he)
      obtain ⟨k1, k2, k3⟩ := argsOf_ok hF hf hJ hr (fun z hz => hx z (by simp [hz])) (fun e h => hc e (p.mem_iff.2 (by simp [h]))) hl γ (fun q' hq' => by rw [ghIs_ok hn q' hq']; exact hg)
      refine ⟨⟨_, _, rfl, ⟨by rw [hg]; exact hfv, _, hg⟩, k1⟩, by rw [List.append_assoc]; exact p.trans (k2.append_left _), ?_⟩
      show SepTo J' ((q.2.1 ++ r'.own).map _) (Ch.box (bk γ) T t.rep q.1 :: _)
      rw [List.map_append, hg]
      intro w F hs
      obtain ⟨G, K, rfl, h1, h2⟩ := hs.split
      rw [hg] at k3
      exact ⟨G, K, rfl, hb w G h1, k3 w K h2⟩
    · cases h
  | .kc g :: ps, x :: xs, chs, r, h, hx, hc, hl, γ, hγ => by
    unfold argsOf at h
    split at h
    · rename_i hh
      obtain ⟨c, hcl, h⟩ := bind_some h
      obtain ⟨hk, h⟩ := chkT_ok h
      obtain ⟨r', hr, h⟩ := bind_some h
      obtain ⟨hn, h⟩ := chkT_ok h
      obtain rfl := Option.some.inj h
      obtain rfl := Nat.eq_of_beq_eq_true hk
      have hg : γ = .pointer (some ⟨bk (hv θ c.2), 0, none⟩) := hγ _ rfl
      obtain ⟨ver, hm⟩ := clo1_ok hcl
      have hok := (hf.chs _ hm).2.2
      have hfv : hv θ hh = .func (.func c.1) #[] #[.pointer (some ⟨bk (hv θ c.2), 0, none⟩)] := hok.2.2
      obtain ⟨k1, k2, k3⟩ := argsOf_ok hF hf hJ hr (fun z hz => hx z (by simp [hz])) hc hl γ (fun q' hq' => by rw [ghIs_ok hn q' hq']; exact hg)
      exact ⟨⟨_, _, rfl, ⟨by rw [hg]; exact hfv, _, hg⟩, k1⟩, k2, k3⟩
    · cases h
  | .cap _ _ :: _, _ :: _, _, _, h, _, _, _, _, _ => by cases h
  | .capf _ _ _ :: _, _ :: _, _, _, h, _, _, _, _, _ => by cases h
  | [], _ :: _, _, r, h, _, _, _, _, _ => by cases h
  | .rd _ :: _, [], _, r, h, _, _, _, _, _ => by cases h
  | .ow _ :: _, [], _, r, h, _, _, _, _, _ => by cases h
  | .eat _ :: _, [], _, r, h, _, _, _, _, _ => by cases h
  | .fn _ _ :: _, [], _, r, h, _, _, _, _, _ => by cases h
  | .ptr _ _ :: _, [], _, r, h, _, _, _, _, _ => by cases h
  | .cap _ _ :: _, [], _, _, h, _, _, _, _, _ => by cases h
  | .capf _ _ _ :: _, [], _, _, h, _, _, _, _, _ => by cases h
  | .fk _ :: _, [], _, _, h, _, _, _, _, _ => by cases h
  | .crs _ _ :: _, [], _, _, h, _, _, _, _, _ => by cases h
  | .kb _ _ _ :: _, [], _, _, h, _, _, _, _, _ => by cases h
  | .kc _ :: _, [], _, _, h, _, _, _, _, _ => by cases h

/-! ### What comes back -/
def outDp : List PM → Bool
  | [] => true
  | .ow t :: ps => t.dp && outDp ps
  | .ptr _ t :: ps => t.dp && outDp ps
  | .kb _ _ t :: ps => t.dp && outDp ps
  | _ :: ps => outDp ps
def backT : (t : Ty) → t.den → List LV → List (Hdr × Chk)
  | .prod a b, d, cs => backT a d.1 (cs.take a.size) ++ backT b d.2 (cs.drop a.size)
  | .wr t, d, cs => backT t d cs
  | .sl E t, d, cs => match cs with
    | .own h :: _ => [(h, .own (.sl E t) d)]
    | _ => []
  | _, _, _ => []
def backs (gh : Option GhQ) : (ps : List PM) → List AV → denH (outs ps) → List (Hdr × Chk)
  | .ow t :: ps, x :: xs, d => ((avCells x).elim [] fun cs => backT t d.1 cs) ++ backs gh ps xs d.2
  | .ptr T t :: ps, x :: xs, d => (match x with
    | .one (.ptr h _) => [(h, .box T t d.1)]
    | _ => []) ++ backs gh ps xs d.2
  | .rd _ :: ps, _ :: xs, d => backs gh ps xs d
  | .eat _ :: ps, _ :: xs, d => backs gh ps xs d
  | .fn _ _ :: ps, _ :: xs, d => backs gh ps xs d
  | .cap _ _ :: ps, _ :: xs, d => backs gh ps xs d
  | .capf _ _ _ :: ps, _ :: xs, d => backs gh ps xs d
  | .fk _ :: ps, _ :: xs, d => backs gh ps xs d
  | .kc _ :: ps, _ :: xs, d => backs gh ps xs d
  | .kb _ T t :: ps, _ :: xs, d => (match gh with
    | some (.box h) => [(h, .box T t d.1)]
    | _ => []) ++ backs gh ps xs d.2
  | .crs T E :: ps, x :: xs, d => (match x, gh with
    | .one (.ptr h _), some (.cur g l) => [(h, .blk T [.rd g (.sl E (.int .u8)) l, .val (.int .i64 d.1.1), .val (.int .i64 d.1.2)])]
    | _, _ => []) ++ backs gh ps xs d.2
  | _, _, _ => []
def Easy : Chk → Prop
  | .own _ _ => True
  | .box _ _ _ => True
  | _ => False
theorem easy_ok {g : Hdr × Chk} {ver : Nat} (h : Easy g.2) (h1 : g.1.id < n) (h2 : ver < n) : okE P w0 J θ n chs (g.1, ver, g.2) := by
  obtain ⟨a, c⟩ := g
  cases c with
  | own _ _ => exact ⟨h1, h2, trivial⟩
  | box _ _ _ => exact ⟨h1, h2, trivial⟩
  | _ => exact h.elim
def Easy2 (P : Program) (w0 : World) (J : Hp) (θ : Th) (n : Nat) (c : Chk) : Prop := Easy c ∨ ∃ T cells, c = .blk T cells ∧ ∀ x ∈ cells, LV.ok P w0 J θ n x
theorem easy2_ok {g : Hdr × Chk} {ver m : Nat} (h : Easy2 P w0 J θ m g.2) (hm : m ≤ n) (h1 : g.1.id < n) (h2 : ver < n) : okE P w0 J θ n chs (g.1, ver, g.2) := by
  rcases h with h | ⟨T, cells, h, hc⟩
  · exact easy_ok h h1 h2
  · obtain ⟨a, c⟩ := g
    obtain rfl : c = _ := h
    exact ⟨h1, h2, fun x hx => LV.ok_same Same.rfl hm (hc x hx) Hp.le.rfl⟩
theorem backT_ok {w : World} : ∀ {t : Ty} {d : t.den} {cs : List LV} {C : List Ch}, St J w0 w (Ch.own t.rep (cs.map (·.v θ)) d :: C) → (∀ x ∈ cs, x.ok P w0 J θ' n) → (∀ x ∈ cs, x.v θ' = x.v θ) →
    St J w0 w ((backT t d cs).map (fun g => toCh P θ' (g.1, m, g.2)) ++ C) ∧ ∀ g ∈ backT t d cs, Easy g.2 ∧ g.1.id < n := by
  intro t
  induction t with
  | prod a b iha ihb =>
    intro d cs C h hc hv0
    obtain ⟨c1, c2, e, hl, h⟩ := own_prod h
    rw [a.rep_size] at hl
    have e1 : c1 = (cs.take a.size).map (·.v θ) := by
      rw [List.map_take, e, ← hl, List.take_left]
    have e2 : c2 = (cs.drop a.size).map (·.v θ) := by
      rw [List.map_drop, e, ← hl, List.drop_left]
    rw [e1, e2] at h
    obtain ⟨k1, k2⟩ := iha h (fun x hx => hc x (List.mem_of_mem_take hx)) fun x hx => hv0 x (List.mem_of_mem_take hx)
    obtain ⟨k3, k4⟩ := ihb (k1.perm List.perm_middle) (fun x hx => hc x (List.mem_of_mem_drop hx)) fun x hx => hv0 x (List.mem_of_mem_drop hx)
    refine ⟨?_, fun g hg => ?_⟩
    · show St J w0 w ((backT a d.1 _ ++ backT b d.2 _).map _ ++ C)
      rw [List.map_append]
      refine k3.perm ?_
      rw [List.append_assoc]
      exact List.perm_append_comm_assoc _ _ _
    · rcases List.mem_append.1 hg with hg | hg
      · exact k2 g hg
      · exact k4 g hg
  | wr t ih =>
    intro d cs C h hc hv0
    exact ih h hc hv0
  | sl E t ih =>
    intro d cs C h hc hv0
    cases cs with
    | nil => exact ⟨h.tail, fun g hg => by cases hg⟩
    | cons x l =>
      cases x with
      | own hh =>
        have hone : l = [] := by
          obtain ⟨h1, h2, F, ⟨G, K, rfl, k, e⟩, h4, h5⟩ := h
          have := (Ty.sl E t).rep.own_len k
          have h3 : ((LV.own hh :: l).map (·.v θ)).length = 1 := this
          simpa using h3
        subst hone
        refine ⟨?_, fun g hg => ?_⟩
        · have := hv0 (.own hh) (by simp)
          show St J w0 w (Ch.own _ [hv θ' hh] d :: C)
          rw [show hv θ' hh = hv θ hh from this]; exact h
        · obtain rfl := List.mem_singleton.1 hg
          exact ⟨trivial, (hc (.own hh) (by simp)).1⟩
      | _ => exact ⟨h.tail, fun g hg => by cases hg⟩
  | _ =>
    intro d cs C h hc hv0
    exact ⟨h.tail, fun g hg => by cases hg⟩
theorem backs_ok {w : World} {s : Sg} (hf : Fine P w0 J θ s) (hs : Same s.nxt θ θ') (hm : s.nxt ≤ m) {γ : Value} {gh : Option GhQ} : ∀ {ps : List PM} {xs : List AV} {ft : FT} {chs : List Ent} {r : Args ps} (d : denH (outs ps)) {C : List Ch}, argsOf ft s chs ps xs = some r → (∀ x ∈ xs, x.ok P w0 J θ s.nxt s.chs) → (∀ e ∈ chs, e ∈ s.chs) → (∀ q, r.gh = some q → gh = some q ∧ γ = q.v θ) → St J w0 w (outCh γ ps (xs.map (·.v θ)) d ++ C) →
    St J w0 w ((backs gh ps xs d).map (fun g => toCh P θ' (g.1, m, g.2)) ++ C) ∧ ∀ g ∈ backs gh ps xs d, Easy2 P w0 J θ' m g.2 ∧ g.1.id < s.nxt
  | [], [], ft, chs, r, d, C, h, hx, hc, hγ, hst => ⟨hst, fun g hg => by cases hg⟩
  | .rd t :: ps, x :: xs, ft, chs, r, d, C, h, hx, hc, hγ, hst => by
    obtain ⟨a, ha, h⟩ := bind_some (show (lendAv s.chs t x).bind _ = some r from h)
    obtain ⟨q, hq, h⟩ := bind_some h
    obtain rfl := Option.some.inj h
    exact backs_ok hf hs hm (ps := ps) d hq (fun y hy => hx y (by simp [hy])) hc hγ hst
  | .ow t :: ps, x :: xs, ft, chs, r, d, C, h, hx, hc, hγ, hst => by
    obtain ⟨hg, h⟩ := chkT_ok (show chkT (isAggA x == t.isProd) _ = some r from h)
    have hg : isAggA x = t.isProd := by simpa using hg
    obtain ⟨cs, hcs, h⟩ := bind_some h
    obtain ⟨q, hq, h⟩ := bind_some h
    obtain ⟨he, h⟩ := chkT_ok h
    obtain ⟨r', hr, h⟩ := bind_some h
    obtain rfl := Option.some.inj h
    have hvo := hx x (by simp)
    obtain ⟨c1, c2⟩ := avCells_v hcs hvo hg
    have hok := (avCells_ok hcs hvo).1
    have hst : St J w0 w (Ch.own t.rep (vcells t.isProd (x.v θ)) d.1 :: (outCh γ ps (xs.map (·.v θ)) d.2 ++ C)) := hst
    rw [c1] at hst
    obtain ⟨k1, k2⟩ := backT_ok (P := P) (θ' := θ') (n := s.nxt) (m := m) hst (fun x hx => LV.ok_same hs (Nat.le_refl _) (hok x hx) Hp.le.rfl) fun x hx => LV.v_same hs (hok x hx)
    obtain ⟨k3, k4⟩ := backs_ok hf hs hm (ps := ps) d.2 hr (fun y hy => hx y (by simp [hy])) (fun e he => hc e ((takeData_perm hq).mem_iff.2 (by simp [he]))) hγ (k1.perm (List.perm_append_comm_assoc _ _ _))
    have hbk : backs gh (.ow t :: ps) (x :: xs) d = backT t d.1 cs ++ backs gh ps xs d.2 := by
      show ((avCells x).elim [] fun cs => backT t d.1 cs) ++ _ = _
      rw [hcs]; rfl
    rw [hbk]
    refine ⟨?_, fun g hg => ?_⟩
    · rw [List.map_append]
      refine k3.perm ?_
      rw [List.append_assoc]
      exact List.perm_append_comm_assoc _ _ _
    · rcases List.mem_append.1 hg with hg | hg
      · exact ⟨.inl (k2 g hg).1, (k2 g hg).2⟩
      · exact k4 g hg
  | .eat t :: ps, x :: xs, ft, chs, r, d, C, h, hx, hc, hγ, hst => by
    obtain ⟨hg, h⟩ := chkT_ok (show chkT (isAggA x == t.isProd) _ = some r from h)
    obtain ⟨cs, hcs, h⟩ := bind_some h
    obtain ⟨q, hq, h⟩ := bind_some h
    obtain ⟨he, h⟩ := chkT_ok h
    obtain ⟨r', hr, h⟩ := bind_some h
    obtain rfl := Option.some.inj h
    exact backs_ok hf hs hm (ps := ps) d hr (fun y hy => hx y (by simp [hy])) (fun e he => hc e ((takeData_perm hq).mem_iff.2 (by simp [he]))) hγ hst
  | .fn a b :: ps, x :: xs, ft, chs, r, d, C, h, hx, hc, hγ, hst => by
    unfold argsOf at h
    split at h
    · obtain ⟨q, hq, h⟩ := bind_some h
      obtain ⟨r', hr, h⟩ := bind_some h
      obtain rfl := Option.some.inj h
      exact backs_ok hf hs hm (ps := ps) d hr (fun y hy => hx y (by simp [hy])) hc hγ hst
    · cases h
  | .ptr T t :: ps, x :: xs, ft, chs, r, d, C, h, hx, hc, hγ, hst => by
    unfold argsOf at h
    split at h
    · rename_i hh off
      obtain ⟨ho, h⟩ := chkT_ok h
      obtain ⟨q, hq, h⟩ := bind_some h
      obtain ⟨r', hr, h⟩ := bind_some h
      obtain rfl := Option.some.inj h
      obtain rfl := Nat.eq_of_beq_eq_true ho
      have hid : hh.id < s.nxt := hx (.one (.ptr hh 0)) (by simp)
      have hst : St J w0 w (Ch.box (bk (hv θ hh)) T t.rep d.1 :: (outCh γ ps (xs.map (·.v θ)) d.2 ++ C)) := hst
      obtain ⟨k3, k4⟩ := backs_ok hf hs hm (ps := ps) (C := Ch.box (bk (hv θ hh)) T t.rep d.1 :: C) d.2 hr (fun y hy => hx y (by simp [hy])) (fun e he => hc e ((pullBox_perm hq).mem_iff.2 (by simp [he]))) hγ (hst.perm List.perm_middle.symm)
      have hbk : backs gh (.ptr T t :: ps) (.one (.ptr hh 0) :: xs) d = [(hh, .box T t d.1)] ++ backs gh ps xs d.2 := rfl
      rw [hbk]
      refine ⟨?_, fun g hg => ?_⟩
      · show St J w0 w (Ch.box (bk (hv θ' hh)) T t.rep d.1 :: ((backs gh ps xs d.2).map _ ++ C))
        rw [hv_same hs hid]
        exact k3.perm List.perm_middle
      · rcases List.mem_append.1 hg with hg | hg
        · obtain rfl := List.mem_singleton.1 hg
          exact ⟨.inl trivial, hid⟩
        · exact k4 g hg
    · cases h
  | .fk g :: ps, x :: xs, ft, chs, r, d, C, h, hx, hc, hγ, hst => by
    unfold argsOf at h
    split at h
    · obtain ⟨hk, h⟩ := chkT_ok h
      obtain ⟨r', hr, h⟩ := bind_some h
      obtain rfl := Option.some.inj h
      exact backs_ok hf hs hm (ps := ps) d hr (fun y hy => hx y (by simp [hy])) hc hγ hst
    · cases h
  | .crs T E :: ps, x :: xs, ft, chs, r, d, C, h, hx, hc, hγ, hst => by
    unfold argsOf at h
    split at h
    · rename_i hh off
      obtain ⟨ho, h⟩ := chkT_ok h
      obtain ⟨q, hq, h⟩ := bind_some h
      obtain ⟨r', hr, h⟩ := bind_some h
      obtain ⟨hn, h⟩ := chkT_ok h
      obtain rfl := Option.some.inj h
      obtain rfl := Nat.eq_of_beq_eq_true ho
      obtain ⟨hgh, hg⟩ := hγ _ rfl
      obtain ⟨p, ver, he⟩ := pullCur_ok hq
      have hok := hf.chs _ (hc _ (p.mem_iff.2 (List.mem_cons_self ..)))
      rw [he] at hok
      have hrd : LV.ok P w0 J θ s.nxt (.rd q.g (.sl E (.int .u8)) q.d.1) := hok.2.2 _ (by simp)
      have hid : hh.id < s.nxt := hx (.one (.ptr hh 0)) (by simp)
      have hst : St J w0 w (Ch.blk (bk (hv θ hh)) [γ, .int .i64 d.1.1, .int .i64 d.1.2] T :: (outCh γ ps (xs.map (·.v θ)) d.2 ++ C)) := hst
      obtain ⟨k3, k4⟩ := backs_ok hf hs hm (ps := ps) (gh := gh) (C := Ch.blk (bk (hv θ hh)) [γ, .int .i64 d.1.1, .int .i64 d.1.2] T :: C) d.2 hr (fun y hy => hx y (by simp [hy])) (fun e he => hc e (p.mem_iff.2 (by simp [he]))) (fun q' hq' => by rw [Option.isNone_iff_eq_none.1 hn] at hq'; cases hq') (hst.perm List.perm_middle.symm)
      have hbk : backs gh (.crs T E :: ps) (.one (.ptr hh 0) :: xs) d = [(hh, .blk T [.rd q.g (.sl E (.int .u8)) q.d.1, .val (.int .i64 d.1.1), .val (.int .i64 d.1.2)])] ++ backs gh ps xs d.2 := by
        rw [hgh]; rfl
      rw [hbk]
      refine ⟨?_, fun g hg2 => ?_⟩
      · show St J w0 w (Ch.blk (bk (hv θ' hh)) [hv θ' q.g, .int .i64 d.1.1, .int .i64 d.1.2] T :: ((backs gh ps xs d.2).map _ ++ C))
        rw [hv_same hs hid, hv_same hs hrd.1, ← show γ = hv θ q.g from hg]
        exact k3.perm List.perm_middle
      · rcases List.mem_append.1 hg2 with hg2 | hg2
        · obtain rfl := List.mem_singleton.1 hg2
          refine ⟨.inr ⟨_, _, rfl, fun z hz => ?_⟩, hid⟩
          rcases List.mem_cons.1 hz with rfl | hz
          · exact LV.ok_same hs hm hrd Hp.le.rfl
          · rcases List.mem_cons.1 hz with rfl | hz
            · exact Eq.refl true
            · obtain rfl := List.mem_singleton.1 hz
              exact Eq.refl true
        · exact k4 g hg2
    · cases h
  | .kb g T t :: ps, x :: xs, ft, chs, r, d, C, h, hx, hc, hγ, hst => by
    unfold argsOf at h
    split at h
    · rename_i hh
      obtain ⟨c, hcl, h⟩ := bind_some h
      obtain ⟨hk, h⟩ := chkT_ok h
      obtain ⟨q, hq, h⟩ := bind_some h
      obtain ⟨r', hr, h⟩ := bind_some h
      obtain ⟨hn, h⟩ := chkT_ok h
      obtain rfl := Option.some.inj h
      obtain ⟨hgh, hg⟩ := hγ _ rfl
      have hg : γ = .pointer (some ⟨bk (hv θ c.2), 0, none⟩) := hg
      obtain ⟨ver, hm'⟩ := clo1_ok hcl
      have hok := (hf.chs _ hm').2.2
      have hid : c.2.id < s.nxt := hok.2.1 (.ptr c.2 0) (by simp)
      have hst : St J w0 w (Ch.box (bk γ) T t.rep d.1 :: (outCh γ ps (xs.map (·.v θ)) d.2 ++ C)) := hst
      have hbg : bk γ = bk (hv θ c.2) := by rw [hg]; rfl
      rw [hbg] at hst
      obtain ⟨k3, k4⟩ := backs_ok hf hs hm (ps := ps) (gh := gh) (C := Ch.box (bk (hv θ c.2)) T t.rep d.1 :: C) d.2 hr (fun y hy => hx y (by simp [hy])) (fun e he => hc e ((pullBox_perm hq).mem_iff.2 (by simp [he]))) (fun q' hq' => by rw [ghIs_ok hn q' hq']; exact ⟨hgh, hg⟩) (hst.perm List.perm_middle.symm)
      have hbk : backs gh (.kb g T t :: ps) (.one (.own hh) :: xs) d = [(c.2, .box T t d.1)] ++ backs gh ps xs d.2 := by
        rw [hgh]; rfl
      rw [hbk]
      refine ⟨?_, fun g hg => ?_⟩
      · show St J w0 w (Ch.box (bk (hv θ' c.2)) T t.rep d.1 :: ((backs gh ps xs d.2).map _ ++ C))
        rw [hv_same hs hid]
        exact k3.perm List.perm_middle
      · rcases List.mem_append.1 hg with hg | hg
        · obtain rfl := List.mem_singleton.1 hg
          exact ⟨.inl trivial, hid⟩
        · exact k4 g hg
    · cases h
  | .kc g :: ps, x :: xs, ft, chs, r, d, C, h, hx, hc, hγ, hst => by
    unfold argsOf at h
    split at h
    · obtain ⟨c, hcl, h⟩ := bind_some h
      obtain ⟨hk, h⟩ := chkT_ok h
      obtain ⟨r', hr, h⟩ := bind_some h
      obtain ⟨hn, h⟩ := chkT_ok h
      obtain rfl := Option.some.inj h
      obtain ⟨hgh, hg⟩ := hγ _ rfl
      exact backs_ok hf hs hm (ps := ps) d hr (fun y hy => hx y (by simp [hy])) hc (fun q' hq' => by rw [ghIs_ok hn q' hq']; exact ⟨hgh, hg⟩) hst
    · cases h
  | .cap _ _ :: _, _ :: _, _, _, _, _, _, h, _, _, _, _ => by cases h
  | .capf _ _ _ :: _, _ :: _, _, _, _, _, _, h, _, _, _, _ => by cases h
  | [], _ :: _, _, _, _, _, _, h, _, _, _, _ => by cases h
  | .rd _ :: _, [], _, _, _, _, _, h, _, _, _, _ => by cases h
  | .ow _ :: _, [], _, _, _, _, _, h, _, _, _, _ => by cases h
  | .eat _ :: _, [], _, _, _, _, _, h, _, _, _, _ => by cases h
  | .fn _ _ :: _, [], _, _, _, _, _, h, _, _, _, _ => by cases h
  | .ptr _ _ :: _, [], _, _, _, _, _, h, _, _, _, _ => by cases h
  | .cap _ _ :: _, [], _, _, _, _, _, h, _, _, _, _ => by cases h
  | .capf _ _ _ :: _, [], _, _, _, _, _, h, _, _, _, _ => by cases h
  | .fk _ :: _, [], _, _, _, _, _, h, _, _, _, _ => by cases h
  | .crs _ _ :: _, [], _, _, _, _, _, h, _, _, _, _ => by cases h
  | .kb _ _ _ :: _, [], _, _, _, _, _, h, _, _, _, _ => by cases h
  | .kc _ :: _, [], _, _, _, _, _, h, _, _, _, _ => by cases h
end
end Go.Proofs.YtfkjjnddefojjaaGreatDoor.R
/- Calls: the steps; function values made; what is frozen, read. No program text is named here. -/
set_option linter.unusedVariables false
set_option linter.unusedSimpArgs false
set_option linter.unnecessarySimpa false
set_option linter.unusedSectionVars false
namespace Go.Proofs.YtfkjjnddefojjaaGreatDoor.R
open Go.RowKit
open Go.Proofs.YtfkjjnddefojjaaGreatDoor.D

theorem deeps_append {l m : List Ch} (h : Ch.deeps l) (k : Ch.deeps m) : Ch.deeps (l ++ m) := by
  induction l with
  | nil => exact k
  | cons c l ih => exact ⟨h.1, ih h.2⟩
theorem resGo_deep {v : Value} : ∀ (ts : List Ty) (i : Nat) (d : denH ts), allDp ts = true → Ch.deeps (resGo i ts d v)
  | [], _, _, _ => trivial
  | t :: ts, i, d, h => by
    have h : (t.dp && allDp ts) = true := h
    rw [Bool.and_eq_true] at h
    exact ⟨dp_own (Ty.dp_ok h.1), resGo_deep ts (i + 1) d.2 h.2⟩
theorem resGv_deep {v : Value} (ts : List Ty) (d : denH ts) (h : allDp ts = true) : Ch.deeps (resGv ts d v) := by
  match ts, d, h with
  | [t], d, h =>
    have h : (t.dp && true) = true := h
    rw [Bool.and_true] at h
    exact ⟨dp_own (Ty.dp_ok h), trivial⟩
  | [], d, h => exact resGo_deep (v := v) [] 0 d h
  | _ :: _ :: _, d, h => exact resGo_deep (v := v) _ 0 d h
def Ty.fin : Ty → Bool
  | .int _ => true
  | .bool => true
  | .str => true
  | .prod a b => a.fin && b.fin
  | .wr t => t.fin
  | _ => false
theorem Ty.fin_ok : ∀ {t : Ty}, t.fin = true → t.rep.Fin
  | .int _, _ => fin_flat
  | .bool, _ => fin_flat (h1 := fun _ => rfl)
  | .str, _ => fin_flat (h1 := fun _ => rfl)
  | .raw, h => by cases h
  | .prod a b, h => by
    have h : (a.fin && b.fin) = true := h
    rw [Bool.and_eq_true] at h
    exact fin_prod (fin_ok h.1) (fin_ok h.2)
  | .wr t, h => fin_ok (t := t) h
  | .sl _ _, h => by cases h
  | .fro _, h => by cases h
  | .bag _, h => by cases h
  | .tree _ _ _, h => by cases h
def recT : Ty → Bool
  | .tree _ _ u => u.fin
  | _ => false
theorem recT_ok {t : Ty} (h : recT t = true) {cs : List Value} {d : t.den} : (Ch.own t.rep cs d).recl := by
  cases t with
  | tree T E u => exact recl_tree (Ty.fin_ok h)
  | _ => cases h
def backR : List Ty → Bool
  | [] => true
  | t :: ts => (t.dp && backR ts) || (recT t && allDp ts)
theorem resGo_back {v : Value} {D : List Ch} (hD : Ch.deeps D) : ∀ (ts : List Ty) (i : Nat) (d : denH ts), backR ts = true → Ch.back (resGo i ts d v ++ D)
  | [], _, _, _ => Ch.back_deeps hD
  | t :: ts, i, d, h => by
    have h : ((t.dp && backR ts) || (recT t && allDp ts)) = true := h
    rw [Bool.or_eq_true, Bool.and_eq_true, Bool.and_eq_true] at h
    rcases h with h | h
    · exact .inl ⟨dp_own (Ty.dp_ok h.1), resGo_back hD ts (i + 1) d.2 h.2⟩
    · exact .inr ⟨recT_ok h.1, deeps_append (resGo_deep ts (i + 1) d.2 h.2) hD⟩
theorem resGv_back {v : Value} {D : List Ch} (hD : Ch.deeps D) (ts : List Ty) (d : denH ts) (h : backR ts = true) : Ch.back (resGv ts d v ++ D) := by
  match ts, d, h with
  | [t], d, h =>
    have h : ((t.dp && true) || (recT t && true)) = true := h
    rw [Bool.and_true, Bool.and_true, Bool.or_eq_true] at h
    rcases h with h | h
    · exact .inl ⟨dp_own (Ty.dp_ok h), Ch.back_deeps hD⟩
    · exact .inr ⟨recT_ok h, hD⟩
  | [], d, h => exact resGo_back (v := v) hD [] 0 d h
  | _ :: _ :: _, d, h => exact resGo_back (v := v) hD _ 0 d h
theorem dp_box {α : Type} {b : Nat} {T : TypeId} {R : Rep α} {d : α} (h : R.Dp) : (Ch.box b T R d).deep := by
  rintro I J w F ⟨cells, G, rfl, h1, h2⟩
  exact ⟨cells, G, rfl, h1, h h2⟩
theorem outCh_deep {γ : Value} : ∀ (ps : List PM) (vs : List Value) (d : denH (outs ps)), outDp ps = true → Ch.deeps (outCh γ ps vs d)
  | [], vs, _, _ => by cases vs <;> trivial
  | .ow t :: ps, [], d, h => trivial
  | .ow t :: ps, v :: vs, d, h => by
    have h : (t.dp && outDp ps) = true := h
    rw [Bool.and_eq_true] at h
    exact ⟨dp_own (Ty.dp_ok h.1), outCh_deep ps vs d.2 h.2⟩
  | .ptr T t :: ps, [], d, h => trivial
  | .ptr T t :: ps, v :: vs, d, h => by
    have h : (t.dp && outDp ps) = true := h
    rw [Bool.and_eq_true] at h
    exact ⟨dp_box (Ty.dp_ok h.1), outCh_deep ps vs d.2 h.2⟩
  | .rd _ :: ps, [], d, h => trivial
  | .rd _ :: ps, v :: vs, d, h => outCh_deep ps vs d h
  | .eat _ :: ps, [], d, h => trivial
  | .eat _ :: ps, v :: vs, d, h => outCh_deep ps vs d h
  | .fn _ _ :: ps, [], d, h => trivial
  | .fn _ _ :: ps, v :: vs, d, h => outCh_deep ps vs d h
  | .cap _ _ :: ps, [], d, h => trivial
  | .cap _ _ :: ps, v :: vs, d, h => outCh_deep ps vs d h
  | .capf _ _ _ :: ps, [], d, h => trivial
  | .fk _ :: ps, [], d, h => trivial
  | .capf _ _ _ :: ps, v :: vs, d, h => outCh_deep ps vs d h
  | .fk _ :: ps, v :: vs, d, h => outCh_deep ps vs d h
  | .crs _ _ :: ps, [], d, h => trivial
  | .kb _ _ _ :: ps, [], d, h => trivial
  | .kc _ :: ps, [], d, h => trivial
  | .kb _ T t :: ps, v :: vs, d, h => by
    have h : (t.dp && outDp ps) = true := h
    rw [Bool.and_eq_true] at h
    exact ⟨dp_box (Ty.dp_ok h.1), outCh_deep ps vs d.2 h.2⟩
  | .kc _ :: ps, v :: vs, d, h => outCh_deep ps vs d h
  | .crs _ _ :: ps, v :: vs, d, h => ⟨dp_blk, outCh_deep ps vs d.2 h⟩
theorem chsOwn_easy {id : Nat} {pth : Nat → List Nat} : ∀ (t : Ty) (d : t.den) (j : Nat), ∀ g ∈ chsOwn id pth t d j, Easy g.2
  | .prod a b, d, j => fun g hg => by
    rcases List.mem_append.1 hg with hg | hg
    · exact chsOwn_easy a d.1 j g hg
    · exact chsOwn_easy b d.2 _ g hg
  | .sl E t, d, j => fun g hg => by obtain rfl := List.mem_singleton.1 hg; trivial
  | .wr t, d, j => chsOwn_easy t d j
  | .int _, _, _ => fun g hg => by cases hg
  | .bool, _, _ => fun g hg => by cases hg
  | .str, _, _ => fun g hg => by cases hg
  | .raw, _, _ => fun g hg => by cases hg
  | .fro _, _, _ => fun g hg => by cases hg
  | .bag _, _, _ => fun g hg => by cases hg
  | .tree _ _ _, d, j => fun g hg => by obtain rfl := List.mem_singleton.1 hg; trivial
theorem tupChs_easy {id : Nat} : ∀ (i : Nat) (ts : List Ty) (d : denH ts), ∀ g ∈ tupChs id i ts d, Easy g.2
  | _, [], _ => fun g hg => by cases hg
  | i, t :: ts, d => fun g hg => by
    rcases List.mem_append.1 hg with hg | hg
    · exact chsOwn_easy t d.1 0 g hg
    · exact tupChs_easy (i + 1) ts d.2 g hg
theorem resChs_easy {id : Nat} (ts : List Ty) (d : denH ts) : ∀ g ∈ resChs id ts d, Easy g.2 := by
  match ts, d with
  | [t], d => exact chsOwn_easy t d.1 0
  | [], d => exact tupChs_easy (id := id) 0 [] d
  | _ :: _ :: _, d => exact tupChs_easy (id := id) 0 _ d
theorem easy_says {g : Hdr × Chk} {ver : Nat} {c : Chk} (h : Easy g.2) (k : SaysH g.2 ver c) : False := by
  obtain ⟨a, x⟩ := g
  cases x <;> first | exact h.elim | exact k.elim
theorem row_uniq {h : Hdr} {chs : List Ent} {q : Row} (hq : rowOf h chs = some q) {e : Ent} (he : e ∈ chs) (h1 : e.1 = h) : e = q.ent h := by
  obtain ⟨p, k⟩ := rowOf_ok hq
  rcases List.mem_cons.1 (p.mem_iff.1 he) with rfl | he
  · rfl
  · exact absurd h1 (k e he)
theorem tree_uniq {h : Hdr} {chs : List Ent} {q : TreeE} (hq : treeAt h chs = some q) {e : Ent} (he : e ∈ chs) (h1 : e.1 = h) : e = q.ent h := by
  obtain ⟨p, k⟩ := treeAt_ok hq
  rcases List.mem_cons.1 (p.mem_iff.1 he) with rfl | he
  · rfl
  · exact absurd h1 (k e he)
theorem blk_uniq {h : Hdr} {chs : List Ent} {q : Blk} (hq : blkU h chs = some q) {e : Ent} (he : e ∈ chs) (h1 : e.1 = h) : e = q.ent h := by
  obtain ⟨p, k⟩ := blkU_ok hq
  rcases List.mem_cons.1 ((blkOf_ok p).mem_iff.1 he) with rfl | he
  · rfl
  · exact absurd h1 (k e he)
theorem OpT.post {P : Program} {w0 : World} {o : Oper} {I : Hp} {ev : Operand → Value} {rn : List Ch} {fact fact' : Value → Prop} {gv gv' : Value → List Ch} (h : OpT P I w0 o ev rn fact gv) (hp : ∀ v w C, fact v → St I w0 w (gv v ++ C) → fact' v ∧ St I w0 w (gv' v ++ C)) : OpT P I w0 o ev rn fact' gv' :=
  fun w C hs => (h w C hs).imp fun v w hv => hp v w C hv.1 hv.2
theorem OpT.sepTo {P : Program} {w0 : World} {o : Oper} {I : Hp} {ev : Operand → Value} {l l' : List Ch} {fact : Value → Prop} {gv : Value → List Ch} (k : SepTo I l l') (h : OpT P I w0 o ev l' fact gv) : OpT P I w0 o ev l fact gv := fun w C hs => by
  obtain ⟨h1, h2, F, h3, h4, h5⟩ := hs
  obtain ⟨G, K, rfl, e1, e2⟩ := h3.split
  exact h w C ⟨h1, h2, G ++ K, (k w G e1).append e2, h4, h5⟩

/-! ### Calls -/
section
variable {Y : Type} (ft : FT) (s : Sg) (k : Res → Option Y)
def avsOf (s : Sg) : List Operand → Option (List AV)
  | [] => some []
  | x :: xs => (opd s x).bind fun v => (avsOf s xs).bind fun vs => some (v :: vs)
def sCallX (f : FS) (xs : List AV) (kx : List Ent → List Ent → List Ent → Option GhQ → dens (f.rs ++ outs f.ps) → Option Y) : Option Y := (argsOf ft s s.chs f.ps xs).bind fun a =>
  (pullAll (dedup a.lent []) a.rest).bind fun pl => match (allDp f.rs && outDp f.ps) || pl.1.isEmpty with
  | true => (appP f.ps f.m a.d).bind fun r => kx pl.1 a.own pl.2 a.gh r
  | false => chkT (backR f.rs && outDp f.ps) ((appP f.ps f.m a.d).bind fun r => kx [] (a.own ++ pl.1) pl.2 a.gh r)
def callK (f : FS) (xs : List AV) (L M R : List Ent) (gh : Option GhQ) (r : dens (f.rs ++ outs f.ps)) : Option Y :=
    k ⟨L, M, R, resChs s.nxt f.rs (hFst f.rs (outs f.ps) (toH _ r)) ++ backs gh f.ps xs (hSnd f.rs (outs f.ps) (toH _ r)), resAv s.nxt f.rs (hFst f.rs (outs f.ps) (toH _ r))⟩
def sCallF (g : FuncId) (xs : List Operand) : Option Y := (fs ft g).bind fun f => chkT (!f.ov) <| (avsOf s xs).bind fun vs => sCallX ft s f vs (callK s k f vs)
def lenR : (ts : List Ty) → denH ts → Int
  | [.sl _ t], d => ((List.length (α := t.den) d.1 : Nat) : Int)
  | _, _ => 1
def isNilR (ts : List Ty) (d : denH ts) : Bool := decide (lenR ts d = 0)
def sCallN (g : FuncId) (xs : List Operand) : Option Y := (fs ft g).bind fun f => chkT (!f.ov) <| (avsOf s xs).bind fun vs => sCallX ft s f vs fun L M R gh r =>
    if isNilR f.rs (hFst f.rs (outs f.ps) (toH _ r)) then k ⟨L, M, R, backs gh f.ps vs (hSnd f.rs (outs f.ps) (toH _ r)), .one (.val (.slice none 0 0))⟩
    else callK s k f vs L M R gh r
def boxClo (f : FS) (n : Nat) : Bool := match f.ps.drop n with
  | [.ptr _ _] => true
  | _ => false
def ptrClo (t n : Nat) : Option (FuncId × Hdr) := match look s.env t with
  | some (.one (.own h)) => (clo1 h s.chs).bind fun c => (fs ft c.1).bind fun f => match boxClo f n with
    | true => some c
    | false => none
  | _ => none
def sCallB (c : FuncId × Hdr) (xs : List Operand) : Option Y := (fs ft c.1).bind fun f => chkT (!f.ov) <| (avsOf s xs).bind fun vs => sCallX ft s f (vs ++ [.one (.ptr c.2 0)]) (callK s k f (vs ++ [.one (.ptr c.2 0)]))
def fnTy (n : Nat) : LV → Option (List Ty × List Ty)
  | .fn _ a b _ => some (a, b)
  | .own h => (cloOf h s.chs).bind fun q => (fs ft q.1).bind fun f => (rdTys ((f.ps.drop q.2.1.length).take n)).bind fun a => some (a, f.rs ++ outs f.ps)
  | _ => none
def argsR : (ts : List Ty) → List Operand → Option (denH ts × List Hdr)
  | [], [] => some ((), [])
  | t :: ts, x :: xs => (opd s x).bind fun v => (lendAv s.chs t v).bind fun a => (argsR ts xs).bind fun r => some ((a.1, r.1), a.2 ++ r.2)
  | _, _ => none
def sCallV (t : Nat) (xs : List Operand) : Option Y := (oneOf0 (look s.env t)).bind fun y => (fnTy ft s xs.length y).bind fun ab => (fnOf ft s.chs 4 ab.1 ab.2 y).bind fun q => (argsR s ab.1 xs).bind fun d =>
  (pullAll (dedup (q.lent ++ d.2) []) s.chs).bind fun pl => chkT (allDp ab.2) ((app ab.1 q.e d.1).bind fun r => k ⟨pl.1, [], pl.2, resChs s.nxt ab.2 (toH _ r), resAv s.nxt ab.2 (toH _ r)⟩)
where oneOf0 : Option AV → Option LV
  | some (.one x) => some x
  | _ => none
end
section
variable {Y : Type} {ft : FT} {s : Sg} {k : Res → Option Y} {P : Program} {w0 : World} {o : Oper} {res : Y}
theorem lent_of {J : Hp} {θ : Th} {hs : List Hdr} {l : List Ent} (e2 : l.map (·.1) = dedup hs []) (hsub : ∀ e ∈ l, e ∈ s.chs) (hr : ∀ {α : Type} (R : Rep α) (v : List Value) (a : α), Ch.own R v a ∈ l.map (toCh P θ) → R.rd J v a) (hb : ∀ g c E, Ch.blk g c E ∈ l.map (toCh P θ) → J g = some (.cells c.toArray E (0, 0))) : Lent J θ s.chs hs := fun h hh => by
  have hd : h ∈ l.map (·.1) := by
    rw [e2]
    rcases dedup_mem (acc := []) hh with h1 | h1
    · exact h1
    · cases h1
  obtain ⟨e, he, h1⟩ := List.mem_map.1 hd
  refine ⟨fun q hq => ?_, fun q hq => ?_, fun q hq => ?_⟩
  · have := row_uniq hq (hsub e he) h1
    subst this
    exact hr _ _ _ (List.mem_map.2 ⟨_, he, rfl⟩)
  · have := tree_uniq hq (hsub e he) h1
    subst this
    exact hr _ _ _ (List.mem_map.2 ⟨_, he, rfl⟩)
  · have := blk_uniq hq (hsub e he) h1
    subst this
    exact hb _ _ _ (List.mem_map.2 ⟨_, he, rfl⟩)
theorem argsOf_perm : ∀ {ps : List PM} {xs : List AV} {chs : List Ent} {r : Args ps}, argsOf ft s chs ps xs = some r → chs.Perm (r.own ++ r.rest)
  | [], [], chs, r, h => by obtain rfl := Option.some.inj (show some _ = some r from h); exact List.Perm.refl _
  | .rd t :: ps, x :: xs, chs, r, h => by
    obtain ⟨a, ha, h⟩ := bind_some (show (lendAv s.chs t x).bind _ = some r from h)
    obtain ⟨q, hq, h⟩ := bind_some h
    obtain rfl := Option.some.inj h
    exact argsOf_perm (ps := ps) hq
  | .ow t :: ps, x :: xs, chs, r, h => by
    obtain ⟨hg, h⟩ := chkT_ok (show chkT (isAggA x == t.isProd) _ = some r from h)
    obtain ⟨cs, hcs, h⟩ := bind_some h
    obtain ⟨q, hq, h⟩ := bind_some h
    obtain ⟨he, h⟩ := chkT_ok h
    obtain ⟨r', hr, h⟩ := bind_some h
    obtain rfl := Option.some.inj h
    show chs.Perm ((q.used ++ r'.own) ++ r'.rest)
    rw [List.append_assoc]
    exact (takeData_perm hq).trans ((argsOf_perm hr).append_left _)
  | .eat t :: ps, x :: xs, chs, r, h => by
    obtain ⟨hg, h⟩ := chkT_ok (show chkT (isAggA x == t.isProd) _ = some r from h)
    obtain ⟨cs, hcs, h⟩ := bind_some h
    obtain ⟨q, hq, h⟩ := bind_some h
    obtain ⟨he, h⟩ := chkT_ok h
    obtain ⟨r', hr, h⟩ := bind_some h
    obtain rfl := Option.some.inj h
    show chs.Perm ((q.used ++ r'.own) ++ r'.rest)
    rw [List.append_assoc]
    exact (takeData_perm hq).trans ((argsOf_perm hr).append_left _)
  | .fn a b :: ps, x :: xs, chs, r, h => by
    unfold argsOf at h
    split at h
    · obtain ⟨q, hq, h⟩ := bind_some h
      obtain ⟨r', hr, h⟩ := bind_some h
      obtain rfl := Option.some.inj h
      exact argsOf_perm (ps := ps) hr
    · cases h
  | .ptr T t :: ps, x :: xs, chs, r, h => by
    unfold argsOf at h
    split at h
    · obtain ⟨ho, h⟩ := chkT_ok h
      obtain ⟨q, hq, h⟩ := bind_some h
      obtain ⟨r', hr, h⟩ := bind_some h
      obtain rfl := Option.some.inj h
      show chs.Perm ((q.2.1 ++ r'.own) ++ r'.rest)
      rw [List.append_assoc]
      exact (pullBox_perm hq).trans ((argsOf_perm hr).append_left _)
    · cases h
  | .crs T E :: ps, x :: xs, chs, r, h => by
    unfold argsOf at h
    split at h
    · obtain ⟨ho, h⟩ := chkT_ok h
      obtain ⟨q, hq, h⟩ := bind_some h
      obtain ⟨r', hr, h⟩ := bind_some h
      obtain ⟨hn, h⟩ := chkT_ok h
      obtain rfl := Option.some.inj h
      exact (pullCur_ok hq).1.trans ((argsOf_perm hr).cons _)
    · cases h
  | .fk g :: ps, x :: xs, chs, r, h => by
    unfold argsOf at h
    split at h
    · obtain ⟨hk, h⟩ := chkT_ok h
      obtain ⟨r', hr, h⟩ := bind_some h
      obtain rfl := Option.some.inj h
      exact argsOf_perm (ps := ps) hr
    · cases h
  | .kb g T t :: ps, x :: xs, chs, r, h => by
    unfold argsOf at h
    split at h
    · obtain ⟨c, hc, h⟩ := bind_some h
      obtain ⟨hk, h⟩ := chkT_ok h
      obtain ⟨q, hq, h⟩ := bind_some h
      obtain ⟨r', hr, h⟩ := bind_some h
      obtain ⟨hn, h⟩ := chkT_ok h
      obtain rfl := Option.some.inj h
      show chs.Perm ((q.2.1 ++ r'.own) ++ r'.rest)
      rw [List.append_assoc]
      exact (pullBox_perm hq).trans ((argsOf_perm hr).append_left _)
    · cases h
  | .kc g :: ps, x :: xs, chs, r, h => by
    unfold argsOf at h
    split at h
    · obtain ⟨c, hc, h⟩ := bind_some h
      obtain ⟨hk, h⟩ := chkT_ok h
      obtain ⟨r', hr, h⟩ := bind_some h
      obtain ⟨hn, h⟩ := chkT_ok h
      obtain rfl := Option.some.inj h
      exact argsOf_perm (ps := ps) hr
    · cases h
  | .kb _ _ _ :: _, [], _, _, h => by cases h
  | .kc _ :: _, [], _, _, h => by cases h
  | .cap _ _ :: _, _ :: _, _, _, h => by cases h
  | .capf _ _ _ :: _, _ :: _, _, _, h => by cases h
  | [], _ :: _, _, r, h => by cases h
  | .rd _ :: _, [], _, r, h => by cases h
  | .ow _ :: _, [], _, r, h => by cases h
  | .eat _ :: _, [], _, r, h => by cases h
  | .fn _ _ :: _, [], _, r, h => by cases h
  | .ptr _ _ :: _, [], _, r, h => by cases h
  | .cap _ _ :: _, [], _, _, h => by cases h
  | .capf _ _ _ :: _, [], _, _, h => by cases h
  | .fk _ :: _, [], _, _, h => by cases h
  | .crs _ _ :: _, [], _, _, h => by cases h
theorem backT_easy : ∀ {t : Ty} {d : t.den} {cs : List LV}, ∀ g ∈ backT t d cs, Easy g.2 := by
  intro t
  induction t with
  | prod a b iha ihb =>
    intro d cs g hg
    rcases List.mem_append.1 hg with hg | hg
    · exact iha g hg
    · exact ihb g hg
  | wr t ih => intro d cs g hg; exact ih g hg
  | sl E t ih =>
    intro d cs g hg
    cases cs with
    | nil => cases hg
    | cons x l =>
      cases x with
      | own h => obtain rfl := List.mem_singleton.1 hg; trivial
      | _ => cases hg
  | _ => intro d cs g hg; cases hg
theorem backs_says {gh : Option GhQ} : ∀ {ps : List PM} {xs : List AV} {d : denH (outs ps)}, ∀ g ∈ backs gh ps xs d, ∀ ver c, SaysH g.2 ver c → False
  | [], xs, d => fun g hg => by cases xs <;> cases hg
  | .ow t :: ps, [], d => fun g hg => by cases hg
  | .ow t :: ps, x :: xs, d => fun g hg => by
    have hg : g ∈ ((avCells x).elim [] fun cs => backT t d.1 cs) ++ backs gh ps xs d.2 := hg
    rcases List.mem_append.1 hg with hg | hg
    · cases hb : avCells x with
      | none => rw [hb] at hg; cases hg
      | some cs => rw [hb] at hg; exact fun ver c k => easy_says (backT_easy g hg) k
    · exact backs_says g hg
  | .ptr T t :: ps, [], d => fun g hg => by cases hg
  | .ptr T t :: ps, x :: xs, d => fun g hg => by
    have hg : g ∈ (match (generalizing := false) x with | .one (.ptr h _) => [(h, Chk.box T t d.1)] | _ => []) ++ backs gh ps xs d.2 := hg
    rcases List.mem_append.1 hg with hg | hg
    · split at hg
      · obtain rfl := List.mem_singleton.1 hg; exact fun ver c k => k
      · cases hg
    · exact backs_says g hg
  | .rd _ :: ps, [], d => fun g hg => by cases hg
  | .rd _ :: ps, _ :: xs, d => backs_says (ps := ps)
  | .eat _ :: ps, [], d => fun g hg => by cases hg
  | .eat _ :: ps, _ :: xs, d => backs_says (ps := ps)
  | .fn _ _ :: ps, [], d => fun g hg => by cases hg
  | .fn _ _ :: ps, _ :: xs, d => backs_says (ps := ps)
  | .cap _ _ :: ps, [], d => fun g hg => by cases hg
  | .cap _ _ :: ps, _ :: xs, d => backs_says (ps := ps)
  | .capf _ _ _ :: ps, [], d => fun g hg => by cases hg
  | .fk _ :: ps, [], d => fun g hg => by cases hg
  | .capf _ _ _ :: ps, _ :: xs, d => backs_says (ps := ps)
  | .fk _ :: ps, _ :: xs, d => backs_says (ps := ps)
  | .kc _ :: ps, [], d => fun g hg => by cases hg
  | .kc _ :: ps, _ :: xs, d => backs_says (ps := ps)
  | .kb _ T t :: ps, [], d => fun g hg => by cases hg
  | .kb _ T t :: ps, x :: xs, d => fun g hg => by
    have hg : g ∈ (match (generalizing := false) gh with | some (.box h) => [(h, Chk.box T t d.1)] | _ => []) ++ backs gh ps xs d.2 := hg
    rcases List.mem_append.1 hg with hg | hg
    · split at hg
      · obtain rfl := List.mem_singleton.1 hg; exact fun ver c k => k
      · cases hg
    · exact backs_says g hg
  | .crs T E :: ps, [], d => fun g hg => by cases hg
  | .crs T E :: ps, x :: xs, d => fun g hg => by
    have hg : g ∈ (match (generalizing := false) x, gh with | .one (.ptr h _), some (.cur g l) => [(h, Chk.blk T [.rd g (.sl E (.int .u8)) l, .val (.int .i64 d.1.1), .val (.int .i64 d.1.2)])] | _, _ => []) ++ backs gh ps xs d.2 := hg
    rcases List.mem_append.1 hg with hg | hg
    · split at hg
      · obtain rfl := List.mem_singleton.1 hg; exact fun ver c k => k
      · cases hg
    · exact backs_says g hg
theorem perm_out {α : Type} (A L O C : List α) : (A ++ (L ++ (O ++ C))).Perm (O ++ (A ++ (L ++ C))) := by
  rw [← List.append_assoc A L (O ++ C), ← List.append_assoc A L C]
  exact List.perm_append_comm_assoc _ _ _
theorem perm_back {α : Type} (B A L C : List α) : (B ++ (A ++ (L ++ C))).Perm (L ++ (A ++ B) ++ C) := by
  have h : (B ++ (A ++ L)).Perm (L ++ (A ++ B)) := List.perm_append_comm.trans ((List.Perm.of_eq (List.append_assoc ..)).trans (List.perm_append_comm_assoc _ _ _))
  have := h.append_right C
  rwa [List.append_assoc, List.append_assoc] at this
theorem OpT_give {P : Program} {I : Hp} {w0 : World} {o : Oper} {ev : Operand → Value} {ls rn : List Ch} {fact : Value → Prop} {gv : Value → List Ch} (hd : ∀ v, Ch.back (gv v))
    (h : ∀ J, I.le J → (∀ {α : Type} (R : Rep α) (v : List Value) (a : α), Ch.own R v a ∈ ls → R.rd J v a) → (∀ g l E, Ch.blk g l E ∈ ls → J g = some (.cells l.toArray E (0, 0))) → OpT P J w0 o ev rn fact gv) : OpT P I w0 o ev (ls ++ rn) fact gv := by
  intro w C hs
  rw [List.append_assoc] at hs
  obtain ⟨J, h1, h2, h3, h4, h5⟩ := St_lend hs
  exact (h J h1 h2 h3 w _ h4).imp fun v w' hv => ⟨hv.1, hv.2.back h1 (hd v)⟩
theorem perm_drop {α : Type} (L G O C : List α) : (L ++ (G ++ O) ++ C).Perm (O ++ (L ++ C) ++ G) := by
  refine (List.Perm.append_right C List.perm_append_comm).trans ?_
  rw [List.append_assoc, List.append_assoc]
  exact List.perm_append_comm
theorem isNilR_ok {ts : List Ty} {d : denH ts} {v : Value} (h : isNilR ts d = true) (k : NilIff ts d v) : v = .slice none 0 0 := by
  have h := of_decide_eq_true h
  unfold lenR at h
  split at h
  · exact k (Int.ofNat.inj h)
  · exact absurd h (by decide)
def ghV (θ : Th) : Option GhQ → Value
  | some q => q.v θ
  | none => undef
theorem ghV_ok {θ : Th} {o : Option GhQ} : ∀ q, o = some q → ghV θ o = q.v θ := fun q h => by rw [h]; rfl
theorem avsOf_ok {J : Hp} {θ : Th} (hf : Fine P w0 J θ s) : ∀ {xs : List Operand} {vs : List AV}, avsOf s xs = some vs → xs.map (evL (envL θ s)) = vs.map (·.v θ) ∧ ∀ x ∈ vs, x.ok P w0 J θ s.nxt s.chs
  | [], vs, h => by obtain rfl := Option.some.inj (show some _ = some vs from h); exact ⟨rfl, fun x hx => by cases hx⟩
  | x :: xs, vs, h => by
    obtain ⟨v, hv', h⟩ := bind_some (show (opd s x).bind _ = some vs from h)
    obtain ⟨us, hus, h⟩ := bind_some h
    obtain rfl := Option.some.inj h
    obtain ⟨k1, k2⟩ := avsOf_ok hf hus
    refine ⟨by rw [List.map_cons, List.map_cons, k1, opd_ev (θ := θ) hv'], fun y hy => ?_⟩
    rcases List.mem_cons.1 hy with rfl | hy
    · exact opd_ok hf hv'
    · exact k2 y hy
def Calls1 (P : Program) (w0 : World) (s : Sg) (cv : Operand) (g : FuncId) (xs : List Operand) (vs : List AV) : Prop := ∀ J θ, Fine P w0 J θ s → ∃ cap : Array Value, evL (envL θ s) cv = .func (.func g) #[] cap ∧ xs.map (evL (envL θ s)) ++ cap.toList = vs.map (·.v θ) ∧ ∀ x ∈ vs, x.ok P w0 J θ s.nxt s.chs
theorem calls1_f {g : FuncId} {xs : List Operand} {vs : List AV} (h : avsOf s xs = some vs) : Calls1 P w0 s (.func g) g xs vs := fun J θ hf => by
  obtain ⟨k1, k2⟩ := avsOf_ok hf h
  exact ⟨#[], rfl, by rw [k1]; simp, k2⟩
theorem calls1_b {t n : Nat} {c : FuncId × Hdr} {xs : List Operand} {vs : List AV} (hp : ptrClo ft s t n = some c) (h : avsOf s xs = some vs) : Calls1 P w0 s (.tmp t) c.1 xs (vs ++ [.one (.ptr c.2 0)]) := fun J θ hf => by
  unfold ptrClo at hp
  split at hp
  · rename_i hh hlk
    obtain ⟨c', hc, hp⟩ := bind_some hp
    obtain ⟨f, hf', hp⟩ := bind_some hp
    split at hp
    · obtain rfl := Option.some.inj hp
      obtain ⟨k1, k2⟩ := avsOf_ok hf h
      obtain ⟨ver, hm⟩ := clo1_ok hc
      have hok := (hf.chs _ hm).2.2
      have hfv : hv θ hh = .func (.func c'.1) #[] #[.pointer (some ⟨bk (hv θ c'.2), 0, none⟩)] := hok.2.2
      have hid : c'.2.id < s.nxt := hok.2.1 (.ptr c'.2 0) (by simp)
      refine ⟨#[.pointer (some ⟨bk (hv θ c'.2), 0, none⟩)], ?_, ?_, fun x hx => ?_⟩
      · rw [← hfv]; exact opd_ev (x := .tmp t) (θ := θ) hlk
      · rw [k1, List.map_append]; rfl
      · rcases List.mem_append.1 hx with hx | hx
        · exact k2 x hx
        · obtain rfl := List.mem_singleton.1 hx
          exact hid
    · cases hp
  · cases hp
theorem sCallX_ok (hF : FTok P ft) {f : FS} {g : FuncId} (hen : Enters P g) {fact : dens (f.rs ++ outs f.ps) → Value → Prop} (hcon : ∀ w0 J γ vs (d : denP f.ps) r, Lay P J → PArgs P w0 J γ f.ps vs d → appP f.ps f.m d = some r →
    Con P g vs.toArray J w0 (owCh γ f.ps vs d) (fact r) (fun v => resGv f.rs (hFst f.rs (outs f.ps) (toH _ r)) v ++ outCh γ f.ps vs (hSnd f.rs (outs f.ps) (toH _ r)))) {xs : Array Operand} {ts : Array TypeId} {cv : Operand} {vs : List AV} (hcv : Calls1 P w0 s cv g xs.toList vs) (ho : o.op = .call { callee := .value cv, args := xs, argTypes := ts }) {kx : List Ent → List Ent → List Ent → Option GhQ → dens (f.rs ++ outs f.ps) → Option Y} (h : sCallX ft s f vs kx = some res) :
    ∃ L M R r a, kx L M R a.gh r = some res ∧ s.chs.Perm (L ++ M ++ R) ∧ argsOf ft s s.chs f.ps vs = some a ∧ ∀ J θ, Fine P w0 J θ s → OpT P J w0 o (evL (envL θ s)) (L.map (toCh P θ) ++ M.map (toCh P θ)) (fact r) (fun v => L.map (toCh P θ) ++ (resGv f.rs (hFst f.rs (outs f.ps) (toH _ r)) v ++ outCh (ghV θ a.gh) f.ps (vs.map (·.v θ)) (hSnd f.rs (outs f.ps) (toH _ r)))) := by
  obtain ⟨a, ha, h⟩ := bind_some h
  obtain ⟨pl, hpl, h⟩ := bind_some h
  obtain ⟨p2, e2⟩ := pullAll_ok hpl
  have hpp : s.chs.Perm (a.own ++ a.rest) := argsOf_perm ha
  have hperm : s.chs.Perm (pl.1 ++ a.own ++ pl.2) := by
    refine hpp.trans ((p2.append_left a.own).trans ?_)
    rw [List.append_assoc]
    exact List.perm_append_comm_assoc _ _ _
  split at h
  · rename_i hc
    obtain ⟨r, hr, h⟩ := bind_some h
    rw [Bool.or_eq_true, Bool.and_eq_true] at hc
    refine ⟨_, _, _, r, a, h, hperm, ha, fun J θ hf => ?_⟩
    obtain ⟨cap, q1, q2, q3⟩ := hcv J θ hf
    rcases hc with ⟨hc1, hc2⟩ | hc
    · refine OpT_lend (fun v => deeps_append (resGv_deep _ _ hc1) (outCh_deep _ _ _ hc2)) fun J' hJ hrd hbl => ?_
      obtain ⟨k1, k2, k3⟩ := argsOf_ok hF hf hJ ha q3 (fun e he => he) (lent_of e2 (fun e he => hperm.mem_iff.2 (by simp [he])) hrd hbl) (ghV θ a.gh) ghV_ok
      exact OpT.sepTo k3 (opT_call hen ho q1 (by rw [List.nil_append, q2]) (hcon w0 J' (ghV θ a.gh) _ a.d r (hf.lay.mono hJ) k1 hr))
    · have hpl : pl.1 = [] := List.isEmpty_iff.1 hc
      obtain ⟨k1, k2, k3⟩ := argsOf_ok hF hf Hp.le.rfl ha q3 (fun e he => he) (lent_of (P := P) e2 (fun e he => hperm.mem_iff.2 (by simp [he])) (by rw [hpl]; intro α R v x hm; cases hm) (by rw [hpl]; intro g c E hm; cases hm)) (ghV θ a.gh) ghV_ok
      rw [hpl]
      exact OpT.sepTo k3 (opT_call hen ho q1 (by rw [List.nil_append, q2]) (hcon w0 J (ghV θ a.gh) _ a.d r hf.lay k1 hr))
  · obtain ⟨hc, h⟩ := chkT_ok h
    obtain ⟨r, hr, h⟩ := bind_some h
    rw [Bool.and_eq_true] at hc
    refine ⟨[], _, _, r, a, h, (by
      rw [List.nil_append]
      refine hperm.trans ?_
      exact List.Perm.append_right _ List.perm_append_comm), ha, fun J θ hf => ?_⟩
    obtain ⟨cap, q1, q2, q3⟩ := hcv J θ hf
    have := OpT_give (P := P) (I := J) (w0 := w0) (o := o) (ev := evL (envL θ s)) (ls := pl.1.map (toCh P θ)) (rn := a.own.map (toCh P θ)) (fact := fact r) (gv := fun v => resGv f.rs (hFst f.rs (outs f.ps) (toH _ r)) v ++ outCh (ghV θ a.gh) f.ps (vs.map (·.v θ)) (hSnd f.rs (outs f.ps) (toH _ r))) (fun v => resGv_back (outCh_deep _ _ _ hc.2) _ _ hc.1) fun J' hJ hrd hbl => by
        obtain ⟨k1, k2, k3⟩ := argsOf_ok hF hf hJ ha q3 (fun e he => he) (lent_of e2 (fun e he => hperm.mem_iff.2 (by simp [he])) hrd hbl) (ghV θ a.gh) ghV_ok
        exact OpT.sepTo k3 (opT_call hen ho q1 (by rw [List.nil_append, q2]) (hcon w0 J' (ghV θ a.gh) _ a.d r (hf.lay.mono hJ) k1 hr))
    rw [List.map_nil, List.nil_append, List.map_append]
    exact OpT.permN List.perm_append_comm this
section
variable {f : FS} {vs : List AV} {L M R : List Ent} {r : dens (f.rs ++ outs f.ps)} {a : Args f.ps} (hvs : ∀ J θ, Fine P w0 J θ s → ∀ x ∈ vs, x.ok P w0 J θ s.nxt s.chs)
include hvs
theorem call_good (ha : argsOf ft s s.chs f.ps vs = some a) (hperm : s.chs.Perm (L ++ M ++ R))
    (h1 : ∀ J θ, Fine P w0 J θ s → OpT P J w0 o (evL (envL θ s)) (L.map (toCh P θ) ++ M.map (toCh P θ)) (resFa f.rs) (fun v => L.map (toCh P θ) ++ (resGv f.rs (hFst f.rs (outs f.ps) (toH _ r)) v ++ outCh (ghV θ a.gh) f.ps (vs.map (·.v θ)) (hSnd f.rs (outs f.ps) (toH _ r))))) :
    Good P w0 s o ⟨L, M, R, resChs s.nxt f.rs (hFst f.rs (outs f.ps) (toH _ r)) ++ backs a.gh f.ps vs (hSnd f.rs (outs f.ps) (toH _ r)), resAv s.nxt f.rs (hFst f.rs (outs f.ps) (toH _ r))⟩ := by
  have hez : ∀ g ∈ resChs s.nxt f.rs (hFst f.rs (outs f.ps) (toH _ r)) ++ backs a.gh f.ps vs (hSnd f.rs (outs f.ps) (toH _ r)), ∀ ver c, SaysH g.2 ver c → False := fun g hg => by
    rcases List.mem_append.1 hg with hg | hg
    · exact fun ver c k => easy_says (resChs_easy _ _ g hg) k
    · exact backs_says g hg
  refine ⟨hperm, fun J θ hf g hg ver c hs => (hez g hg ver c hs).elim, fun J θ hf => ?_⟩
  rw [List.map_append]
  refine OpT.post (h1 J θ hf) fun v w C hv0 hst => ?_
  have hst1 : St J w0 w (resGv f.rs (hFst f.rs (outs f.ps) (toH _ r)) v ++ (L.map (toCh P θ) ++ (outCh (ghV θ a.gh) f.ps (vs.map (·.v θ)) (hSnd f.rs (outs f.ps) (toH _ r)) ++ C))) := by
    refine hst.perm ?_
    rw [List.append_assoc, List.append_assoc]
    exact List.perm_append_comm_assoc _ _ _
  obtain ⟨q1, q2, q3, q4⟩ := res_fine (P := P) (m := s.nxt) (θ := upd θ s.nxt v) (n := s.nxt + 1) (chs := Res.chs ⟨L, M, R, resChs s.nxt f.rs (hFst f.rs (outs f.ps) (toH _ r)) ++ backs a.gh f.ps vs (hSnd f.rs (outs f.ps) (toH _ r)), resAv s.nxt f.rs (hFst f.rs (outs f.ps) (toH _ r))⟩ s.nxt) (Nat.lt_succ_self _) (upd_self (vs := θ) (i := s.nxt) (v := v)) f.rs (hFst f.rs (outs f.ps) (toH _ r)) _ hv0 hst1
  have q5 : St J w0 w (outCh (ghV θ a.gh) f.ps (vs.map (·.v θ)) (hSnd f.rs (outs f.ps) (toH _ r)) ++ (((resChs s.nxt f.rs (hFst f.rs (outs f.ps) (toH _ r))).map fun g => toCh P (upd θ s.nxt v) (g.1, s.nxt, g.2)) ++ (L.map (toCh P θ) ++ C))) := q4.perm (perm_out _ _ _ _)
  obtain ⟨b1, b2⟩ := backs_ok (P := P) (θ := θ) (θ' := upd θ s.nxt v) (m := s.nxt) hf Same.upd (Nat.le_refl _) (hSnd f.rs (outs f.ps) (toH _ r)) ha (hvs J θ hf) (fun e he => he) (fun q hq => ⟨hq, ghV_ok q hq⟩) q5
  refine ⟨⟨q1, q2, fun g hg => ?_⟩, ?_⟩
  · rcases List.mem_append.1 hg with hg | hg
    · exact easy_ok (resChs_easy _ _ g hg) (by rw [q3 g hg]; exact Nat.lt_succ_self _) (Nat.lt_succ_self _)
    · exact easy2_ok (b2 g hg).1 (Nat.le_succ _) (Nat.lt_succ_of_lt (b2 g hg).2) (Nat.lt_succ_self _)
  · show St J w0 w (L.map (toCh P θ) ++ ((resChs s.nxt f.rs (hFst f.rs (outs f.ps) (toH _ r)) ++ backs a.gh f.ps vs (hSnd f.rs (outs f.ps) (toH _ r))).map _) ++ C)
    rw [List.map_append]
    exact b1.perm (perm_back _ _ _ _)
theorem call_goodN (ha : argsOf ft s s.chs f.ps vs = some a) (hperm : s.chs.Perm (L ++ M ++ R)) (hn : isNilR f.rs (hFst f.rs (outs f.ps) (toH _ r)) = true)
    (h1 : ∀ J θ, Fine P w0 J θ s → OpT P J w0 o (evL (envL θ s)) (L.map (toCh P θ) ++ M.map (toCh P θ)) (fun v => resFa f.rs v ∧ NilIff f.rs (hFst f.rs (outs f.ps) (toH _ r)) v) (fun v => L.map (toCh P θ) ++ (resGv f.rs (hFst f.rs (outs f.ps) (toH _ r)) v ++ outCh (ghV θ a.gh) f.ps (vs.map (·.v θ)) (hSnd f.rs (outs f.ps) (toH _ r))))) :
    Good P w0 s o ⟨L, M, R, backs a.gh f.ps vs (hSnd f.rs (outs f.ps) (toH _ r)), .one (.val (.slice none 0 0))⟩ := by
  refine ⟨hperm, fun J θ hf g hg ver c hs => (backs_says g hg ver c hs).elim, fun J θ hf => ?_⟩
  rw [List.map_append]
  refine OpT.post (h1 J θ hf) fun v w C hv0 hst => ?_
  have q5 : St J w0 w (outCh (ghV θ a.gh) f.ps (vs.map (·.v θ)) (hSnd f.rs (outs f.ps) (toH _ r)) ++ (L.map (toCh P θ) ++ C)) := by
    refine St.left (ds := resGv f.rs (hFst f.rs (outs f.ps) (toH _ r)) v) (hst.perm ?_)
    exact perm_drop _ _ _ _
  obtain ⟨b1, b2⟩ := backs_ok (P := P) (θ := θ) (θ' := upd θ s.nxt v) (m := s.nxt) hf Same.upd (Nat.le_refl _) (hSnd f.rs (outs f.ps) (toH _ r)) ha (hvs J θ hf) (fun e he => he) (fun q hq => ⟨hq, ghV_ok q hq⟩) q5
  refine ⟨⟨Eq.refl true, (isNilR_ok hn hv0.2).symm, fun g hg => easy2_ok (b2 g hg).1 (Nat.le_succ _) (Nat.lt_succ_of_lt (b2 g hg).2) (Nat.lt_succ_self _)⟩, ?_⟩
  refine b1.perm ?_
  rw [List.append_assoc]
  exact List.perm_append_comm_assoc _ _ _
end
theorem calls1_ok {cv : Operand} {g : FuncId} {xs : List Operand} {vs : List AV} (h : Calls1 P w0 s cv g xs vs) : ∀ J θ, Fine P w0 J θ s → ∀ x ∈ vs, x.ok P w0 J θ s.nxt s.chs := fun J θ hf => by
  obtain ⟨cap, -, -, h⟩ := h J θ hf
  exact h
theorem sCallF_ok (hF : FTok P ft) {g : FuncId} {xs : Array Operand} {ts : Array TypeId} (ho : o.op = .call { callee := .value (.func g), args := xs, argTypes := ts }) (h : sCallF ft s k g xs.toList = some res) : Oks P w0 s o k res := by
  obtain ⟨f, hf', h⟩ := bind_some h
  obtain ⟨hov, h⟩ := chkT_ok h
  obtain ⟨vs, hvs, h⟩ := bind_some h
  have hov : f.ov = false := by simpa using hov
  have hfo := hF.get hf'
  have hc := calls1_f (P := P) (w0 := w0) (g := g) hvs
  obtain ⟨L, M, R, r, a, h, hp, ha, h1⟩ := sCallX_ok (w0 := w0) hF (hfo.en hov) (fact := fun _ => resFa f.rs) (hfo.con hov) hc ho h
  exact ⟨_, h, call_good (calls1_ok hc) ha hp h1⟩
theorem sCallB_ok (hF : FTok P ft) {t n : Nat} {c : FuncId × Hdr} (hpc : ptrClo ft s t n = some c) {xs : Array Operand} {ts : Array TypeId} (ho : o.op = .call { callee := .value (.tmp t), args := xs, argTypes := ts }) (h : sCallB ft s k c xs.toList = some res) : Oks P w0 s o k res := by
  obtain ⟨f, hf', h⟩ := bind_some h
  obtain ⟨hov, h⟩ := chkT_ok h
  obtain ⟨vs, hvs, h⟩ := bind_some h
  have hov : f.ov = false := by simpa using hov
  have hfo := hF.get hf'
  have hc := calls1_b (P := P) (w0 := w0) hpc hvs
  obtain ⟨L, M, R, r, a, h, hp, ha, h1⟩ := sCallX_ok (w0 := w0) hF (hfo.en hov) (fact := fun _ => resFa f.rs) (hfo.con hov) hc ho h
  exact ⟨_, h, call_good (calls1_ok hc) ha hp h1⟩
theorem sCallN_ok (hF : FTok P ft) {g : FuncId} {xs : Array Operand} {ts : Array TypeId} (hcl : ∀ f, fs ft g = some f → NilOk P g f) (ho : o.op = .call { callee := .value (.func g), args := xs, argTypes := ts }) (h : sCallN ft s k g xs.toList = some res) : Oks P w0 s o k res := by
  obtain ⟨f, hf', h⟩ := bind_some h
  obtain ⟨hov, h⟩ := chkT_ok h
  obtain ⟨vs, hvs, h⟩ := bind_some h
  have hov : f.ov = false := by simpa using hov
  have hfo := hF.get hf'
  have hc := calls1_f (P := P) (w0 := w0) (g := g) hvs
  obtain ⟨L, M, R, r, a, h, hp, ha, h1⟩ := sCallX_ok (w0 := w0) hF (hfo.en hov) (fact := fun r v => resFa f.rs v ∧ NilIff f.rs (hFst f.rs (outs f.ps) (toH _ r)) v) (hcl f hf') hc ho h
  split at h
  · exact ⟨_, h, call_goodN (calls1_ok hc) ha hp ‹_› h1⟩
  · exact ⟨_, h, call_good (calls1_ok hc) ha hp fun J θ hf => OpT.weak (h1 J θ hf) (fun v hv => hv.1) fun v _ => rfl⟩
theorem argsR_ok {J J' : Hp} {θ : Th} (hf : Fine P w0 J θ s) (hJ : J.le J') : ∀ {ts : List Ty} {xs : List Operand} {r : denH ts × List Hdr}, argsR s ts xs = some r → Lent J' θ s.chs r.2 → RArgs J' ts (xs.map (evL (envL θ s))) r.1
  | [], [], r, h, _ => by obtain rfl := Option.some.inj (show some _ = some r from h); exact Eq.refl _
  | t :: ts, x :: xs, r, h, hl => by
    obtain ⟨v, hv', h⟩ := bind_some (show (opd s x).bind _ = some r from h)
    obtain ⟨a, ha, h⟩ := bind_some h
    obtain ⟨q, hq, h⟩ := bind_some h
    obtain rfl := Option.some.inj h
    obtain ⟨cs, c1, c2⟩ := lendAv_ok ha (AV.ok_same Same.rfl (Nat.le_refl _) Newer.rfl (opd_ok hf hv') hJ) hl.l
    rw [← opd_ev (θ := θ) hv'] at c1
    exact ⟨_, cs, _, rfl, c1, c2, argsR_ok hf hJ hq hl.r⟩
  | [], _ :: _, r, h, _ => by cases h
  | _ :: _, [], r, h, _ => by cases h
theorem sCallV_ok (hF : FTok P ft) {t : Nat} {xs : Array Operand} {ts : Array TypeId} (ho : o.op = .call { callee := .value (.tmp t), args := xs, argTypes := ts }) (h : sCallV ft s k t xs.toList = some res) : Oks P w0 s o k res := by
  obtain ⟨y, hy, h⟩ := bind_some h
  obtain ⟨ab, hab, h⟩ := bind_some h
  obtain ⟨q, hq, h⟩ := bind_some h
  obtain ⟨d, hd, h⟩ := bind_some h
  obtain ⟨pl, hpl, h⟩ := bind_some h
  obtain ⟨hc1, h⟩ := chkT_ok h
  obtain ⟨r, hr, h⟩ := bind_some h
  have hy : look s.env t = some (.one y) := by
    unfold sCallV.oneOf0 at hy
    split at hy
    · rename_i x hx
      rw [hx, Option.some.inj hy]
    · cases hy
  obtain ⟨p2, e2⟩ := pullAll_ok hpl
  refine ⟨_, h, by simpa using p2, fun J θ hf g hg ver c hs => (easy_says (resChs_easy _ _ g hg) hs).elim, fun J θ hf => ?_⟩
  have hyo : y.ok P w0 J θ s.nxt := opd_ok (x := .tmp t) hf hy
  have h1 : OpT P J w0 o (evL (envL θ s)) (pl.1.map (toCh P θ) ++ []) (resFa ab.2) (fun v => pl.1.map (toCh P θ) ++ resGv ab.2 (toH _ r) v) := by
    refine OpT_lend (fun v => resGv_deep _ _ hc1) fun J' hJ hrd hbl => ?_
    have hl := lent_of (s := s) e2 (fun e he => p2.mem_iff.2 (by simp [he])) hrd hbl
    obtain ⟨kk, first, capt, h3, h4, h5⟩ := fnOf_ok hF hf.lay hf.chs hq hyo J' hJ hl.l
    have hcon := h5 J' Hp.le.rfl _ d.1 (argsR_ok hf hJ hd hl.r) r hr
    have hev : evL (envL θ s) (.tmp t) = .func (.func kk) first capt := (opd_ev (x := .tmp t) hy).trans h3
    exact opT_call h4 ho hev (by simp) hcon
  rw [List.append_nil] at h1
  show OpT P J w0 o _ ((pl.1 ++ []).map (toCh P θ)) _ _
  rw [List.append_nil]
  refine OpT.post h1 fun v w C hv0 hst => ?_
  have hst1 : St J w0 w (resGv ab.2 (toH _ r) v ++ (pl.1.map (toCh P θ) ++ C)) := by
    refine hst.perm ?_
    rw [List.append_assoc]
    exact List.perm_append_comm_assoc _ _ _
  obtain ⟨q1, q2, q3, q4⟩ := res_fine (P := P) (m := s.nxt) (θ := upd θ s.nxt v) (n := s.nxt + 1) (chs := Res.chs ⟨pl.1, [], pl.2, resChs s.nxt ab.2 (toH _ r), resAv s.nxt ab.2 (toH _ r)⟩ s.nxt) (Nat.lt_succ_self _) (upd_self (vs := θ) (i := s.nxt) (v := v)) ab.2 (toH _ r) _ hv0 hst1
  refine ⟨⟨q1, q2, fun g hg => easy_ok (resChs_easy _ _ g hg) (by rw [q3 g hg]; exact Nat.lt_succ_self _) (Nat.lt_succ_self _)⟩, ?_⟩
  show St J w0 w (pl.1.map (toCh P θ) ++ ((resChs s.nxt ab.2 (toH _ r)).map _) ++ C)
  refine q4.perm ?_
  rw [List.append_assoc]
  exact List.perm_append_comm_assoc _ _ _
end

/-! ### Function values made; what is frozen, read -/
section
variable {Y : Type} (tt : TT) (s : Sg) (k : Res → Option Y)
def partOfAv : AV → Option (Bool × List LV)
  | .one x => some (false, [x])
  | .agg xs => some (true, xs)
  | _ => none
def partsAv (s : Sg) : List Operand → Option (List (Bool × List LV))
  | [] => some []
  | x :: xs => (opd s x).bind fun v => (partOfAv v).bind fun y => (partsAv s xs).bind fun ys => some (y :: ys)
def onesAv (s : Sg) : List Operand → Option (List LV)
  | [] => some []
  | x :: xs => match opd s x with
    | some (.one y) => (onesAv s xs).bind fun ys => some (y :: ys)
    | _ => none
def sMakeF (fn : Fn) (first captured : Array Operand) : Option Y := match fn with
  | .func g => (partsAv s first.toList).bind fun ys => (onesAv s captured.toList).bind fun xs => k ⟨[], [], s.chs, [(⟨s.nxt, []⟩, .clo g ys xs)], .one (.own ⟨s.nxt, []⟩)⟩
  | _ => none
def sLoadZ (T : TypeId) (x : Operand) : Option Y := (td tt T).bind fun d => match opd s x with
  | some (.one (.fz h T' t a off)) => (fldAt d.agg t off d.n).bind fun p => chkT (p.ty.isProd == d.agg) (k (.pure s (avRd s.nxt p.ty (p.get a))))
  | some (.one (.fzf h T' ps rs e)) => chkT (Nat.beq d.n 1 && !d.agg) (k (.pure s (.one (.fn ⟨s.nxt, []⟩ ps rs e))))
  | _ => none
def sFieldZ (T : TypeId) (x : Operand) (f : Nat) : Option Y := (td tt T).bind fun d => (d.fields[f]?).bind fun q => match opd s x with
  | some (.one (.fz h T' t a off)) => k (.pure s (.one (.fz h T' t a (off + q.1))))
  | _ => none
end
section
variable {Y : Type} {tt : TT} {s : Sg} {k : Res → Option Y} {P : Program} {w0 : World} {o : Oper} {res : Y} {x : Operand}
theorem partsAv_ok {J : Hp} {θ : Th} (hf : Fine P w0 J θ s) : ∀ {l : List Operand} {ys : List (Bool × List LV)}, partsAv s l = some ys → l.map (evL (envL θ s)) = ys.map (partV θ) ∧ ∀ y ∈ ys, ∀ x ∈ y.2, x.ok P w0 J θ s.nxt
  | [], ys, h => by obtain rfl := Option.some.inj (show some _ = some ys from h); exact ⟨rfl, fun y hy => by cases hy⟩
  | x :: l, ys, h => by
    obtain ⟨v, hv', h⟩ := bind_some (show (opd s x).bind _ = some ys from h)
    obtain ⟨y, hy, h⟩ := bind_some h
    obtain ⟨zs, hz, h⟩ := bind_some h
    obtain rfl := Option.some.inj h
    obtain ⟨k1, k2⟩ := partsAv_ok hf hz
    have hvo := opd_ok hf hv'
    have hev := opd_ev (θ := θ) hv'
    have key : v.v θ = partV θ y ∧ ∀ x ∈ y.2, x.ok P w0 J θ s.nxt := by
      cases v with
      | one z => obtain rfl := Option.some.inj (show some _ = some y from hy); exact ⟨rfl, fun x hx => by obtain rfl := List.mem_singleton.1 hx; exact hvo⟩
      | agg zs => obtain rfl := Option.some.inj (show some _ = some y from hy); exact ⟨rfl, hvo⟩
      | _ => cases hy
    refine ⟨by rw [List.map_cons, List.map_cons, k1, hev, key.1], fun z hz => ?_⟩
    rcases List.mem_cons.1 hz with rfl | hz
    · exact key.2
    · exact k2 z hz
theorem onesAv_ok {J : Hp} {θ : Th} (hf : Fine P w0 J θ s) : ∀ {l : List Operand} {ys : List LV}, onesAv s l = some ys → l.map (evL (envL θ s)) = ys.map (·.v θ) ∧ ∀ x ∈ ys, x.ok P w0 J θ s.nxt
  | [], ys, h => by obtain rfl := Option.some.inj (show some _ = some ys from h); exact ⟨rfl, fun y hy => by cases hy⟩
  | x :: l, ys, h => by
    unfold onesAv at h
    split at h
    · rename_i y hy
      obtain ⟨zs, hz, h⟩ := bind_some h
      obtain rfl := Option.some.inj h
      obtain ⟨k1, k2⟩ := onesAv_ok hf hz
      have hvo := opd_ok hf hy
      refine ⟨by rw [List.map_cons, List.map_cons, k1, opd_ev (θ := θ) hy]; rfl, fun z hz => ?_⟩
      rcases List.mem_cons.1 hz with rfl | hz
      · exact hvo
      · exact k2 z hz
    · cases h
theorem sMakeF_ok {fn : Fn} {first captured : Array Operand} (ho : o.op = .makeFunc fn first captured) (h : sMakeF s k fn first captured = some res) : Oks P w0 s o k res := by
  cases fn with
  | func g =>
    obtain ⟨ys, hys, h⟩ := bind_some (show (partsAv s first.toList).bind _ = some res from h)
    obtain ⟨xs, hxs, h⟩ := bind_some h
    refine ⟨_, h, List.Perm.refl _, says_plain rfl, fun J θ hf => ?_⟩
    obtain ⟨k1, k2⟩ := partsAv_ok hf hys
    obtain ⟨k3, k4⟩ := onesAv_ok hf hxs
    refine OpT.post (opT_make_func ho rfl) fun v w C hv0 hst => ?_
    rw [k1, k3] at hv0
    have hh : hv (upd θ s.nxt v) ⟨s.nxt, []⟩ = v := upd_self
    refine ⟨⟨⟨Nat.lt_succ_self _, by rw [hh, hv0]; rfl⟩, hh, fun g hg => ?_⟩, ?_⟩
    · obtain rfl := List.mem_singleton.1 hg
      refine ⟨Nat.lt_succ_self _, Nat.lt_succ_self _, fun y hy x hx => LV.ok_same Same.upd (Nat.le_succ _) (k2 y hy x hx) Hp.le.rfl, fun x hx => LV.ok_same Same.upd (Nat.le_succ _) (k4 x hx) Hp.le.rfl, ?_⟩
      rw [hh, map_v_same Same.upd k4, List.map_congr_left fun y hy => partV_same Same.upd (k2 y hy)]
      exact hv0
    · exact St.emp.2 hst
  | _ => cases h
theorem sLoadZ_ok (hT : TTok P tt) {T : TypeId} (ho : o.op = .load T x) (h : sLoadZ tt s k T x = some res) : Oks P w0 s o k res := by
  unfold sLoadZ at h
  obtain ⟨d, hd, h⟩ := bind_some h
  have hdk := hT.get hd
  split at h
  · rename_i hh T' t a off hx
    obtain ⟨p, hp, h⟩ := bind_some h
    obtain ⟨hg, h⟩ := chkT_ok h
    have hg : p.ty.isProd = d.agg := by simpa using hg
    have hp := fldAt_ok _ _ _ _ hp
    refine ⟨_, h, List.Perm.refl _, says_plain rfl, fun J θ hf => ?_⟩
    obtain ⟨h1, cells, h2, h3⟩ := opd_ok hf hx
    obtain ⟨c, e1, e2⟩ := hp.fld J cells a h3
    have hl : c.length = d.n := (p.ty.rep.rd_len e2).trans (p.ty.rep_size.trans hp.size)
    have e1' : (cells.drop off).take d.n = c := by rw [← hp.size, ← p.ty.rep_size]; exact e1
    refine OpT.weak (opT_load_fro h2 hdk.ti ho (opd_ev (θ := θ) hx) hdk.one e1' hl rfl) (fun v hv0 => ?_) (fun v hv0 => rfl)
    have hlds : Lds p.ty.isProd c v := by
      rw [hg]
      cases hb : d.agg with
      | true => rw [hb] at hv0; exact hv0
      | false =>
        rw [hb] at hv0
        have h1' : d.n = 1 := by
          have := hdk.one
          rw [hb] at this
          simpa using this
        obtain ⟨u, rfl⟩ := List.length_eq_one_iff.1 (hl.trans h1')
        rw [show v = u from hv0]; rfl
    have := avRd_fine (P := P) (w0 := w0) (J := J) (θ := upd θ s.nxt v) (id := s.nxt) (n := s.nxt + 1) (chs := (Res.pure s (avRd s.nxt p.ty (p.get a))).chs s.nxt) (Nat.lt_succ_self _) upd_self p.ty (p.get a) c e2 hlds
    exact ⟨this.1, this.2, fun g hg => by cases hg⟩
  · rename_i hh T' ps rs e hx
    obtain ⟨hn, h⟩ := chkT_ok h
    rw [Bool.and_eq_true] at hn
    have hn1 := Nat.eq_of_beq_eq_true hn.1
    have hn2 : d.agg = false := by simpa using hn.2
    refine ⟨_, h, List.Perm.refl _, says_plain rfl, fun J θ hf => ?_⟩
    obtain ⟨h1, u, h2, h3⟩ := opd_ok hf hx
    refine OpT.weak (opT_load_fro (d := [u]) (u := u) h2 hdk.ti ho (opd_ev (θ := θ) hx) hdk.one (by rw [hn1]; rfl) (by rw [hn1]; rfl) (by rw [hn2]; rfl)) (fun v hv0 => ?_) (fun v hv0 => rfl)
    subst hv0
    have hh : hv (upd θ s.nxt v) ⟨s.nxt, []⟩ = v := upd_self
    exact ⟨⟨Nat.lt_succ_self _, by rw [hh]; exact h3⟩, hh, fun g hg => by cases hg⟩
  · cases h
theorem sFieldZ_ok (hT : TTok P tt) {T : TypeId} {f : Nat} (ho : o.op = .fieldAddr T x f) (h : sFieldZ tt s k T x f = some res) : Oks P w0 s o k res := by
  unfold sFieldZ at h
  obtain ⟨d, hd, h⟩ := bind_some h
  obtain ⟨q, hq, h⟩ := bind_some h
  have hf := (hT.get hd).fld f q hq
  split at h
  · rename_i hh T' t a off hx
    exact ⟨_, h, good_val (fun J θ hF => opT_field_addr hf ho (opd_ev (θ := θ) hx)) fun J θ hF => (by have := opd_ok hF hx; exact this)⟩
  · cases h
end
end Go.Proofs.YtfkjjnddefojjaaGreatDoor.R
/- More operations: pointers looked at, least and greatest, parts of slices, nodes of trees. No program text is named here. -/
set_option linter.unusedVariables false
set_option linter.unusedSimpArgs false
set_option linter.unnecessarySimpa false
set_option linter.unusedSectionVars false
namespace Go.Proofs.YtfkjjnddefojjaaGreatDoor.R
open Go.RowKit
open Go.Proofs.YtfkjjnddefojjaaGreatDoor.D

section
variable {P : Program} {I : Hp} {w0 : World} {o : Oper} {ev : Operand → Value}
theorem opT_nilc {x : Operand} {a : Addr} (ho : o.op = .nilCheck x) (hx : ev x = .pointer (some a)) : OpT P I w0 o ev [] (· = .pointer (some a)) (fun _ => []) :=
  opT_val fun w => by simp only [execOp, ho, hx]; rfl
theorem opT_min {x y : Operand} {T U : TypeId} {m n : Int} (ho : o.op = .call { callee := .builtin .min, args := #[x, y], argTypes := #[T, U] }) (hx : ev x = .int .i64 m) (hy : ev y = .int .i64 n) : OpT P I w0 o ev [] (· = .int .i64 (min m n)) (fun _ => []) :=
  opT_val fun w => by
    have e : min m n = if n < m then n else m := by split <;> omega
    rw [e]
    simp [execOp, ho, hx, hy, resolve, invoke, builtin, Builtin.min_, Builtin.min2]
theorem opT_max {x y : Operand} {T U : TypeId} {m n : Int} (ho : o.op = .call { callee := .builtin .max, args := #[x, y], argTypes := #[T, U] }) (hx : ev x = .int .i64 m) (hy : ev y = .int .i64 n) : OpT P I w0 o ev [] (· = .int .i64 (max m n)) (fun _ => []) :=
  opT_val fun w => by
    have e : max m n = if m < n then n else m := by split <;> omega
    rw [e]
    simp [execOp, ho, hx, hy, resolve, invoke, builtin, Builtin.max_, Builtin.max2]
theorem run_eq_ptr {t e : TypeId} {a : Option Addr} {w : World} (hT : P.underlying t = some (.pointer e)) : (Op.equal t (.pointer a) (.pointer none)).run P w = .ok a.isNone w := by
  have key : ∀ n, (Op.equalIn (n + 1) t (.pointer a) (.pointer none)).run P w = .ok a.isNone w := fun n => by
    unfold Op.equalIn
    rw [Sem.run_bind, run_underlying hT, Result.andThen_ok]
    cases a <;> rfl
  exact key 9999
theorem run_eq_sl {t e : TypeId} {a : Option Addr} {l c : Nat} {w : World} (hT : P.underlying t = some (.slice e)) : (Op.equal t (.slice a l c) (.slice none 0 0)).run P w = .ok (isNilV (.slice a l c)) w := by
  have key : ∀ n, (Op.equalIn (n + 1) t (.slice a l c) (.slice none 0 0)).run P w = .ok (isNilV (.slice a l c)) w := fun n => by
    unfold Op.equalIn
    rw [Sem.run_bind, run_underlying hT, Result.andThen_ok]
    cases a <;> rfl
  exact key 9999
theorem opT_eqn {x y : Operand} {t u e : TypeId} {a : Option Addr} {l c : Nat} (hT : P.underlying t = some (.slice e)) (ho : o.op = .binOp .eql t x y u) (hx : ev x = .slice a l c) (hy : ev y = .slice none 0 0) : OpT P I w0 o ev [] (· = .bool (isNilV (.slice a l c))) (fun _ => []) :=
  opT_val fun w => by
    have g1 : eqGuard .eql t x y (.slice a l c) (.slice none 0 0) = pure () := rfl
    have g2 : binOp .eql t (.slice a l c) (.slice none 0 0) = (do pure (.bool (← Op.equal t (.slice a l c) (.slice none 0 0)))) := rfl
    simp only [execOp, ho, hx, hy, g1, g2, Sem.run_bind, Sem.run_pure, run_eq_sl hT, Result.andThen_ok]
theorem opT_eqp {x y : Operand} {t u e : TypeId} {a : Option Addr} (hT : P.underlying t = some (.pointer e)) (ho : o.op = .binOp .eql t x y u) (hx : ev x = .pointer a) (hy : ev y = .pointer none) : OpT P I w0 o ev [] (· = .bool a.isNone) (fun _ => []) :=
  opT_val fun w => by
    have g1 : eqGuard .eql t x y (.pointer a) (.pointer none) = pure () := rfl
    have g2 : binOp .eql t (.pointer a) (.pointer none) = (do pure (.bool (← Op.equal t (.pointer a) (.pointer none)))) := rfl
    simp only [execOp, ho, hx, hy, g1, g2, Sem.run_bind, Sem.run_pure, run_eq_ptr hT, Result.andThen_ok]
theorem opT_nep {x y : Operand} {t u e : TypeId} {a : Option Addr} (hT : P.underlying t = some (.pointer e)) (ho : o.op = .binOp .neq t x y u) (hx : ev x = .pointer a) (hy : ev y = .pointer none) : OpT P I w0 o ev [] (· = .bool (!a.isNone)) (fun _ => []) :=
  opT_val fun w => by
    have g1 : eqGuard .neq t x y (.pointer a) (.pointer none) = pure () := rfl
    have g2 : binOp .neq t (.pointer a) (.pointer none) = (do pure (.bool (!(← Op.equal t (.pointer a) (.pointer none))))) := rfl
    simp only [execOp, ho, hx, hy, g1, g2, Sem.run_bind, Sem.run_pure, run_eq_ptr hT, Result.andThen_ok]
end

section
variable {Y : Type} (tt : TT) (s : Sg) (k : Res → Option Y)
def sNilC (x : Operand) : Option Y := match opd s x with
  | some (.one (.ptr h off)) => k (.pure s (.one (.ptr h off)))
  | some (.one (.rd h (.tree T E t) d)) => (Tr.get d).bind fun _ => k (.pure s (.one (.rd h (.tree T E t) d)))
  | _ => none
def sMin (x y : Operand) : Option Y := match opd s x, opd s y with
  | some (.one (.val (.int .i64 m))), some (.one (.val (.int .i64 n))) => kv s k (.int .i64 (min m n))
  | _, _ => none
def sMax (x y : Operand) : Option Y := match opd s x, opd s y with
  | some (.one (.val (.int .i64 m))), some (.one (.val (.int .i64 n))) => kv s k (.int .i64 (max m n))
  | _, _ => none
def sEqP (b : BinOp) (T : TypeId) (x y : Operand) : Option Y := (td tt T).bind fun q => q.pt.bind fun _ => match opd s x, opd s y with
  | some (.one (.rd h (.tree T' E t) d)), some (.one (.val v)) => chkT (isNilP v) (match b with
    | .eql => kv s k (.bool d.isNil)
    | .neq => k (.pure s (.one (.nb d.isNil)))
    | _ => none)
  | some (.one (.ptr h off)), some (.one (.val v)) => chkT (isNilP v) (match b with
    | .eql => kv s k (.bool false)
    | .neq => kv s k (.bool true)
    | _ => none)
  | _, _ => none
def sEqN (b : BinOp) (T : TypeId) (x y : Operand) : Option Y := (td tt T).bind fun q => q.el.bind fun _ => match opd s x, opd s y, b with
  | some (.one (.rdn h b (.sl E t) d)), some (.one (.val v)), .eql => chkT (isNil v) (kv s k (.bool b))
  | some (.one (.own h)), some (.one (.val v)), .eql => chkT (isNil v) ((rowOf h s.chs).bind fun r => (chk (0 < (r.xs.length : Int))).bind fun _ => k ⟨[r.ent h], [], r.rest, [], .one (.val (.bool false))⟩)
  | some (.one (.val u)), some (.one (.val v)), .eql => chkT (isNil v && isNil u) (kv s k (.bool true))
  | _, _, _ => none
def sFieldT (T : TypeId) (x : Operand) (f : Nat) : Option Y := (td tt T).bind fun d => (d.fields[f]?).bind fun q => match opd s x with
  | some (.one (.rd h (.tree T' E t) a)) => (Tr.get a).bind fun p => k (.pure s (.one (.fz h T' (.prod t (.sl E (.tree T' E t))) p q.1)))
  | _ => none
def rdSl (s : Sg) (x : Operand) : Option (Hdr × (E : TypeId) × (t : Ty) × List t.den) := match opd s x with
  | some (.one (.rd h (.sl E t) xs)) => some (h, ⟨E, t, xs⟩)
  | _ => none
def asI (s : Sg) (x : Operand) : Option Int := match opd s x with
  | some (.one (.val (.int .i64 m))) => some m
  | _ => none
def newRd (E : TypeId) (t : Ty) (xs : List t.den) : Option Y := k (.pure s (.one (.rd ⟨s.nxt, []⟩ (.sl E t) xs)))
def sSliceR (T : TypeId) (x : Operand) (lo hi : Option Operand) : Option Y := (td tt T).bind fun d => d.el.bind fun E' => (td tt E').bind fun e => (rdSl s x).bind fun r => chkT (Nat.beq e.n r.2.2.1.size) (match lo, hi with
  | some l, none => (asI s l).bind fun l => (chk (0 ≤ l ∧ l ≤ (r.2.2.2.length : Int))).bind fun _ => newRd s k r.2.1 r.2.2.1 (r.2.2.2.drop l.toNat)
  | none, some h => (asI s h).bind fun h => (chk (0 ≤ h ∧ h ≤ (r.2.2.2.length : Int))).bind fun _ => newRd s k r.2.1 r.2.2.1 (r.2.2.2.take h.toNat)
  | some l, some h => (asI s l).bind fun l => (asI s h).bind fun h => (chk (0 ≤ l ∧ l ≤ h ∧ h ≤ (r.2.2.2.length : Int))).bind fun _ => newRd s k r.2.1 r.2.2.1 ((r.2.2.2.take h.toNat).drop l.toNat)
  | none, none => none)
def sSliceO (T : TypeId) (x : Operand) (lo hi : Option Operand) : Option Y := (td tt T).bind fun d => match d.el, opd s x, lo, hi with
  | some E', some (.one (.own h)), none, some hi => (rowOf h s.chs).bind fun r => (td tt E').bind fun e => chkT (Nat.beq e.n r.t.size) ((asI s hi).bind fun m => (chk (0 ≤ m ∧ m ≤ (r.xs.length : Int))).bind fun _ => newRow s k r.E r.t [r.ent h] r.rest (r.xs.take m.toNat))
  | _, _, _, _ => none
def sSliceD (T : TypeId) (x : Operand) (lo hi : Option Operand) : Option Y := (td tt T).bind fun d => match d.el, opd s x, lo, hi with
  | some E', some (.one (.own h)), some lo, none => (rowOf h s.chs).bind fun r => (td tt E').bind fun e => chkT (Nat.beq e.n r.t.size) ((asI s lo).bind fun m => (chk (0 ≤ m ∧ m ≤ (r.xs.length : Int))).bind fun _ => newRow s k r.E r.t [r.ent h] r.rest (r.xs.drop m.toNat))
  | _, _, _, _ => none
def sSliceV (T : TypeId) (x : Operand) (lo hi : Option Operand) : Option Y := (td tt T).bind fun d => match d.el, opd s x, lo, hi with
  | some E', some (.one (.own h)), some lo, none => (rowOf h s.chs).bind fun r => (td tt E').bind fun e => chkT (Nat.beq e.n r.t.size) ((asI s lo).bind fun m => (chk (0 ≤ m ∧ m ≤ (r.xs.length : Int))).bind fun _ => k ⟨[r.ent h], [], r.rest, [], .sub h r.ver r.E r.t r.xs m⟩)
  | _, _, _, _ => none
def sSliceW (T : TypeId) (x : Operand) (lo hi : Option Operand) : Option Y := (td tt T).bind fun d => match d.el, opd s x, lo, hi with
  | some E', some (.one (.own h)), none, some hi => (rowOf h s.chs).bind fun r => (td tt E').bind fun e => chkT (Nat.beq e.n r.t.size) ((asI s hi).bind fun m => (chk (0 ≤ m ∧ m ≤ (r.xs.length : Int))).bind fun _ => k ⟨[r.ent h], [], r.rest, [], .pre h r.ver r.E r.t r.xs m⟩)
  | _, _, _, _ => none
structure Src0 where
  h : Hdr
  sub : Bool
  ver : Nat
  lo : Int
def copyTo : AV → Option Src0
  | .one (.own h) => some ⟨h, false, 0, 0⟩
  | .sub h ver _ _ _ l => some ⟨h, true, ver, l⟩
  | _ => none
def sCopyI (h : Hdr) (ver : Nat) (E : TypeId) (k1 : IntKind) (xs : List Int) (rest : List Ent) (lo : Int) (y : AV) : Option Y := match y with
  | .one (.rd _ (.sl _ (.int k2)) ys) => chkT (k1 == k2) ((chk (0 ≤ lo ∧ lo ≤ (xs.length : Int))).bind fun _ => k ⟨[], [(h, ver, .own (.sl E (.int k1)) xs)], rest, [(h, .own (.sl E (.int k1)) (cpyI xs lo.toNat ys))], .one (.val (.int .i64 ((min ys.length (xs.length - lo.toNat) : Nat) : Int)))⟩)
  | .pre h2 v2 _ _ _ hi => chkT (Hdr.beq h2 h && Nat.beq v2 ver) ((chk (0 ≤ lo ∧ lo ≤ (xs.length : Int))).bind fun _ => (chk (0 ≤ hi ∧ hi ≤ (xs.length : Int))).bind fun _ => k ⟨[], [(h, ver, .own (.sl E (.int k1)) xs)], rest, [(h, .own (.sl E (.int k1)) (cpyI xs lo.toNat (xs.take hi.toNat)))], .one (.val (.int .i64 ((min (xs.take hi.toNat).length (xs.length - lo.toNat) : Nat) : Int)))⟩)
  | _ => none
def copyRow (r : Row) : Option ((k : IntKind) × List Int) := match r.t, r.xs with
  | .int k, xs => some ⟨k, xs⟩
  | _, _ => none
def sCopy (T : TypeId) (x y : Operand) : Option Y := (td tt T).bind fun d => d.el.bind fun E => (td tt E).bind fun e => chkT (Nat.beq e.n 1) ((opd s x).bind fun xv => (copyTo xv).bind fun c => (rowOf c.h s.chs).bind fun r => chkT (Nat.beq r.E E && (!c.sub || Nat.beq c.ver r.ver)) ((copyRow r).bind fun q => (opd s y).bind fun yv => sCopyI k c.h r.ver r.E q.1 q.2 r.rest c.lo yv))
def sClone (E b : Nat) (x : Operand) : Option Y := match opd s x with
  | some (.sub h ver E' t xs l) => (rowOf h s.chs).bind fun r => chkT (Nat.beq r.ver ver && (t.sh && Nat.beq t.size 1)) ((appI b [] (xs.drop l.toNat)).bind fun zs => k ⟨[r.ent h], [], r.rest, [(⟨s.nxt, []⟩, .own (.sl E t) zs)], .one (.own ⟨s.nxt, []⟩)⟩)
  | some (.one (.own h)) => (rowOf h s.chs).bind fun r => chkT (r.t.sh && Nat.beq r.t.size 1) ((appI b [] r.xs).bind fun zs => k ⟨[r.ent h], [], r.rest, [(⟨s.nxt, []⟩, .own (.sl E r.t) zs)], .one (.own ⟨s.nxt, []⟩)⟩)
  | some (.one (.rd h (.sl E' t) xs)) => chkT (t.sh && Nat.beq t.size 1) ((appI b [] xs).bind fun zs => newRow s k E t [] s.chs zs)
  | _ => none
end
section
variable {Y : Type} {tt : TT} {s : Sg} {k : Res → Option Y} {P : Program} {w0 : World} {o : Oper} {res : Y} {x y : Operand}
theorem good_new {av : AV} {fact : Hp → Th → Value → Prop} (hop : ∀ J θ, Fine P w0 J θ s → OpT P J w0 o (evL (envL θ s)) [] (fact J θ) (fun _ => [])) (hok : ∀ J θ v, Fine P w0 J θ s → fact J θ v → av.ok P w0 J (upd θ s.nxt v) (s.nxt + 1) s.chs ∧ av.v (upd θ s.nxt v) = v) : Good P w0 s o (Res.pure s av) :=
  ⟨List.Perm.refl _, fun _ _ _ g hg => (by cases hg), fun J θ hf => OpT.weak (hop J θ hf) (fun v hv => by
    obtain ⟨h1, h2⟩ := hok J θ v hf hv
    exact ⟨h1, h2, fun g hg => by cases hg⟩) (fun v hv => rfl)⟩
theorem sNilC_ok (ho : o.op = .nilCheck x) (h : sNilC s k x = some res) : Oks P w0 s o k res := by
  unfold sNilC at h
  split at h
  · rename_i hh off hx
    exact ⟨_, h, good_val (fun J θ hf => opT_nilc ho (opd_ev hx)) fun J θ hf => opd_ok hf hx⟩
  · rename_i hh T E t d hx
    obtain ⟨p, hp, h⟩ := bind_some h
    refine ⟨_, h, good_val (fun J θ hf => ?_) fun J θ hf => opd_ok hf hx⟩
    have hxo : (hh.id < s.nxt ∧ (Ty.tree T E t).rep.rd J [hv θ hh] d) := opd_ok hf hx
    obtain ⟨b, e, -⟩ := tree_get (E := E) hxo.2 hp
    have hev : evL (envL θ s) x = .pointer (some ⟨b, 0, none⟩) := (opd_ev hx).trans e
    have := opT_nilc (P := P) (I := J) (w0 := w0) ho hev
    rwa [← hev, opd_ev (θ := θ) hx] at this
  · cases h
theorem sMin_ok {T U : TypeId} (ho : o.op = .call { callee := .builtin .min, args := #[x, y], argTypes := #[T, U] }) (h : sMin s k x y = some res) : Oks P w0 s o k res := by
  unfold sMin at h
  split at h
  · rename_i m n hx hy
    exact kv_ok h rfl fun J θ hf => opT_min ho (opd_ev hx) (opd_ev hy)
  · cases h
theorem sMax_ok {T U : TypeId} (ho : o.op = .call { callee := .builtin .max, args := #[x, y], argTypes := #[T, U] }) (h : sMax s k x y = some res) : Oks P w0 s o k res := by
  unfold sMax at h
  split at h
  · rename_i m n hx hy
    exact kv_ok h rfl fun J θ hf => opT_max ho (opd_ev hx) (opd_ev hy)
  · cases h
theorem sEqP_ok (hT : TTok P tt) {b : BinOp} {t u : TypeId} (ho : o.op = .binOp b t x y u) (h : sEqP tt s k b t x y = some res) : Oks P w0 s o k res := by
  obtain ⟨q, hq, h⟩ := bind_some h
  obtain ⟨e, he, h⟩ := bind_some h
  have hpt := (hT.get hq).pt e he
  split at h
  · rename_i hh T' E t' d v hx hy
    obtain ⟨hn, h⟩ := chkT_ok h
    have hn := isNilP_ok hn
    subst hn
    have key : ∀ J θ, Fine P w0 J θ s → ∃ a : Option Addr, evL (envL θ s) x = .pointer a ∧ a.isNone = d.isNil := fun J θ hf => by
      have hxo : (hh.id < s.nxt ∧ (Ty.tree T' E t').rep.rd J [hv θ hh] d) := opd_ok hf hx
      obtain ⟨a, e1, e2⟩ := tree_nil hxo.2
      exact ⟨a, (opd_ev hx).trans e1, e2⟩
    split at h
    · refine kv_ok h rfl fun J θ hf => ?_
      obtain ⟨a, e1, e2⟩ := key J θ hf
      rw [← e2]
      exact opT_eqp hpt ho e1 (opd_ev hy)
    · refine ⟨_, h, good_val (fun J θ hf => ?_) fun _ _ _ => trivial⟩
      obtain ⟨a, e1, e2⟩ := key J θ hf
      show OpT P J w0 o _ [] (· = .bool (!d.isNil)) _
      rw [← e2]
      exact opT_nep hpt ho e1 (opd_ev hy)
    · cases h
  · rename_i hh off v hx hy
    obtain ⟨hn, h⟩ := chkT_ok h
    have hn := isNilP_ok hn
    subst hn
    split at h
    · exact kv_ok h rfl fun J θ hf => opT_eqp hpt ho (opd_ev hx) (opd_ev hy)
    · exact kv_ok h rfl fun J θ hf => opT_nep hpt ho (opd_ev hx) (opd_ev hy)
    · cases h
  · cases h
theorem sEqN_ok (hT : TTok P tt) {b : BinOp} {t u : TypeId} (ho : o.op = .binOp b t x y u) (h : sEqN tt s k b t x y = some res) : Oks P w0 s o k res := by
  obtain ⟨q, hq, h⟩ := bind_some h
  obtain ⟨e, he, h⟩ := bind_some h
  have hel := (hT.get hq).el e he
  split at h
  · rename_i hh b' E t' d v hx hy _ _
    obtain ⟨hn, h⟩ := chkT_ok h
    have hn := isNil_ok hn
    subst hn
    refine kv_ok h rfl fun J θ hf => ?_
    have hxo : (hh.id < s.nxt ∧ (Ty.sl E t').rep.rd J [hv θ hh] d ∧ isNilV (hv θ hh) = b') := opd_ok hf hx
    obtain ⟨h1, ⟨ao, cap, h2, -⟩, h3⟩ := hxo
    have h2 : hv θ hh = .slice ao d.length cap := by simpa using h2
    rw [h2] at h3
    rw [← h3]
    exact opT_eqn hel ho ((opd_ev hx).trans h2) (opd_ev hy)
  · rename_i hh v hx hy _ _
    obtain ⟨hn, h⟩ := chkT_ok h
    have hn := isNil_ok hn
    subst hn
    obtain ⟨r, hr, h⟩ := bind_some h
    obtain ⟨u0, hc, h⟩ := bind_some h
    have hc := chk_some hc
    obtain ⟨hp, -⟩ := rowOf_ok hr
    refine ⟨_, h, perm1 hp, says_plain rfl, fun J θ hf => OpT.weak (opT_rd1 (fact := (· = .bool false)) fun hD => ?_) (fun u hu => ?_) (fun u hu => rfl)⟩
    · obtain ⟨ao, cap, e1, e2, e3⟩ := hD
      obtain ⟨bb, off, rfl⟩ := e2 (by omega)
      exact opT_eqn hel ho ((opd_ev hx).trans e1) (opd_ev hy)
    · subst hu
      exact ⟨Eq.refl true, rfl, fun g hg => by cases hg⟩
  · rename_i u v hx hy _ _
    obtain ⟨hn, h⟩ := chkT_ok h
    rw [Bool.and_eq_true] at hn
    have hv := isNil_ok hn.1
    have hu := isNil_ok hn.2
    subst hv
    subst hu
    exact kv_ok h rfl fun J θ hf => opT_eqn hel ho (opd_ev hx) (opd_ev hy)
  · cases h
theorem sFieldT_ok (hT : TTok P tt) {T : TypeId} {f : Nat} (ho : o.op = .fieldAddr T x f) (h : sFieldT tt s k T x f = some res) : Oks P w0 s o k res := by
  obtain ⟨d, hd, h⟩ := bind_some h
  obtain ⟨q, hq, h⟩ := bind_some h
  split at h
  · rename_i hh T' E t a hx
    obtain ⟨p, hp, h⟩ := bind_some h
    have hfl := (hT.get hd).fld f q hq
    have key : ∀ J θ, Fine P w0 J θ s → hh.id < s.nxt ∧ ∃ b, hv θ hh = .pointer (some ⟨b, 0, none⟩) ∧ ∃ cells : List Value, J b = some (.cells cells.toArray T' (0, 0)) ∧ (Ty.prod t (.sl E (.tree T' E t))).rep.rd J cells p := fun J θ hf => by
      have hxo : (hh.id < s.nxt ∧ (Ty.tree T' E t).rep.rd J [hv θ hh] a) := opd_ok hf hx
      obtain ⟨b, e, cells, k1, k2⟩ := tree_get (E := E) hxo.2 hp
      exact ⟨hxo.1, b, e, cells, k1, k2⟩
    refine ⟨_, h, good_val (fun J θ hf => ?_) fun J θ hf => ?_⟩
    · obtain ⟨-, b, e, -⟩ := key J θ hf
      have hev : evL (envL θ s) x = .pointer (some ⟨b, 0, none⟩) := (opd_ev hx).trans e
      have := opT_field_addr (P := P) (I := J) (w0 := w0) hfl ho hev
      rw [Nat.zero_add] at this
      show OpT P J w0 o _ [] (· = .pointer (some ⟨bk (hv θ hh), q.1, none⟩)) _
      rw [e]
      exact this
    · obtain ⟨h1, b, e, cells, k1, k2⟩ := key J θ hf
      exact ⟨h1, cells, by rw [e]; exact k1, k2⟩
  · cases h
theorem rdSl_ok {r : Hdr × (E : TypeId) × (t : Ty) × List t.den} (h : rdSl s x = some r) : opd s x = some (.one (.rd r.1 (.sl r.2.1 r.2.2.1) r.2.2.2)) := by
  unfold rdSl at h
  split at h
  · rename_i hx
    obtain rfl := Option.some.inj h
    exact hx
  · cases h
theorem asI_ok {m : Int} (h : asI s x = some m) (θ : Th) : evL (envL θ s) x = .int .i64 m := by
  unfold asI at h
  split at h
  · rename_i hx
    obtain rfl := Option.some.inj h
    exact opd_ev hx
  · cases h
theorem newRd_ok {E : TypeId} {t : Ty} {xs : List t.den} (h : newRd s k E t xs = some res) (hop : ∀ J θ, Fine P w0 J θ s → OpT P J w0 o (evL (envL θ s)) [] (fun v => (Ty.sl E t).rep.rd J [v] xs) (fun _ => [])) : Oks P w0 s o k res :=
  ⟨_, h, good_new (fact := fun J θ v => (Ty.sl E t).rep.rd J [v] xs) hop fun J θ v hf hv' => ⟨⟨Nat.lt_succ_self _, by rw [hv_new]; exact hv'⟩, hv_new⟩⟩
theorem sSliceR_ok (hT : TTok P tt) {T : TypeId} {lo hi : Option Operand} (ho : o.op = .slice T x lo hi none) (h : sSliceR tt s k T x lo hi = some res) : Oks P w0 s o k res := by
  obtain ⟨d, hd, h⟩ := bind_some h
  obtain ⟨E', hE, h⟩ := bind_some h
  obtain ⟨e, he, h⟩ := bind_some h
  obtain ⟨⟨hh, E, t, xs⟩, hr, h⟩ := bind_some h
  have hx := rdSl_ok hr
  obtain ⟨hn, h⟩ := chkT_ok h
  have hn : e.n = t.size := Nat.eq_of_beq_eq_true hn
  have hdE := (hT.get hd).el E' hE
  have hti := (hT.get he).ti
  have key : ∀ J θ, Fine P w0 J θ s → (rSlice E t.rep).rd J [hv θ hh] xs := fun J θ hf => (opd_ok hf hx).2
  have hsz : t.rep.size = e.n := t.rep_size.trans hn.symm
  split at h
  · rename_i l
    obtain ⟨m, hm, h⟩ := bind_some h
    obtain ⟨u, hc, h⟩ := bind_some h
    have hc := chk_some hc
    refine newRd_ok h fun J θ hf => OpT.weak (opT_slice_l hdE hti (Hd.of_rd (key J θ hf)) ho (opd_ev hx) (asI_ok hm θ) hc) (fun v hv' => ?_) (fun v hv' => rfl)
    subst hv'
    exact rd_sub_l (key J θ hf) (by simp only at hc ⊢; omega) hsz
  · rename_i hi
    obtain ⟨m, hm, h⟩ := bind_some h
    obtain ⟨u, hc, h⟩ := bind_some h
    have hc := chk_some hc
    refine newRd_ok h fun J θ hf => OpT.weak (opT_slice_h hdE hti (Hd.of_rd (key J θ hf)) ho (opd_ev hx) (asI_ok hm θ) hc) (fun v hv' => ?_) (fun v hv' => rfl)
    subst hv'
    exact rd_sub_h (key J θ hf) (by simp only at hc ⊢; omega) hsz
  · rename_i l hi
    obtain ⟨m, hm, h⟩ := bind_some h
    obtain ⟨m2, hm2, h⟩ := bind_some h
    obtain ⟨u, hc, h⟩ := bind_some h
    have hc := chk_some hc
    refine newRd_ok h fun J θ hf => OpT.weak (opT_slice_lh hdE hti (Hd.of_rd (key J θ hf)) ho (opd_ev hx) (asI_ok hm θ) (asI_ok hm2 θ) hc) (fun v hv' => ?_) (fun v hv' => rfl)
    subst hv'
    exact rd_sub (key J θ hf) (by simp only at hc ⊢; omega) (by simp only at hc ⊢; omega) hsz
  · cases h
theorem own_drop {α : Type} {E : TypeId} {R : Rep α} {I : Hp} {w : World} {C : List Ch} {v : Value} {xs : List α} {m n : Nat} (h : St I w0 w (Ch.own (rSlice E R) [v] xs :: C)) (hm : m ≤ xs.length) (hn : R.size = n) : St I w0 w (Ch.own (rSlice E R) [subV v m xs.length n] (xs.drop m) :: C) := by
  obtain ⟨h1, h2, F, ⟨G, K, rfl, k, e⟩, h4, h5⟩ := h
  obtain ⟨hl, k⟩ := k
  have hlen : (xs.drop m).length = xs.length - m := List.length_drop
  rcases k with ⟨hv', rfl, rfl⟩ | ⟨g, ofs, cap, cur, K1, hv', k1, k2, k3, k4, rfl, k5⟩
  · obtain rfl : v = .slice none 0 0 := by simpa using hv'
    obtain rfl : m = 0 := by simpa using hm
    refine ⟨h1, h2, [] ++ K, ⟨[], K, rfl, ⟨by simp, .inl ⟨?_, rfl, rfl⟩⟩, e⟩, h4, h5⟩
    simp [subV, sliced]
  · obtain rfl : v = .slice (some ⟨g, ofs, none⟩) xs.length cap := by simpa using hv'
    have hk5 := k5
    rw [← List.take_append_drop m xs] at k5
    obtain ⟨c1, c2, G1, G2, f1, f2, rfl, -, q1⟩ := k5.cut2
    have hp : ((g :: (G1 ++ G2)) ++ K).Perm (((g :: G2) ++ K) ++ G1) := by
      rw [List.append_assoc]
      show (g :: ((G1 ++ G2) ++ K)).Perm (g :: (G2 ++ (K ++ G1)))
      have : ((G1 ++ G2) ++ K).Perm (G2 ++ (K ++ G1)) := by
        rw [List.append_assoc, ← List.append_assoc G2 K G1]; exact List.perm_append_comm
      exact this.cons g
    have hdr : cur.toList.drop (ofs + m * R.size) = c2 := by
      rw [← List.drop_drop, f1]
      have : (xs.take m).length = m := by rw [List.length_take]; omega
      rw [this] at f2
      exact List.drop_left' f2
    by_cases hc : cap = m
    · have hx0 : xs.drop m = [] := List.eq_nil_of_length_eq_zero (by omega)
      rw [hx0] at q1
      obtain rfl : G2 = [] := q1
      refine ⟨h1, h2, (g :: []) ++ K, ⟨g :: [], K, rfl, ⟨by rw [hlen]; omega, .inr ⟨g, ofs, 0, cur, [], ?_, k1, by rw [hlen]; omega, Nat.zero_le _, by omega, rfl, by rw [hx0]; rfl⟩⟩, e⟩, (List.nodup_append.1 (hp.nodup_iff.1 h4)).1, fun b hb => h5 b (hp.mem_iff.2 (List.mem_append_left _ hb))⟩
      rw [hlen]
      simp [subV, sliced, hc]
    · refine ⟨h1, h2, (g :: G2) ++ K, ⟨g :: G2, K, rfl, ⟨by rw [hlen]; omega, .inr ⟨g, ofs + m * R.size, cap - m, cur, G2, ?_, k1, by rw [hlen]; omega, by omega, ?_, rfl, by rw [hdr]; exact q1⟩⟩, e⟩, (List.nodup_append.1 (hp.nodup_iff.1 h4)).1, fun b hb => h5 b (hp.mem_iff.2 (List.mem_append_left _ hb))⟩
      · rw [hlen, hn]
        simp [subV, sliced, Addr.add_mid, hc]
      · have : m * R.size + (cap - m) * R.size = cap * R.size := by rw [← Nat.add_mul]; congr 1; omega
        omega
theorem own_take {α : Type} {E : TypeId} {R : Rep α} {I : Hp} {w : World} {C : List Ch} {v : Value} {xs : List α} {m n : Nat} (h : St I w0 w (Ch.own (rSlice E R) [v] xs :: C)) (hm : m ≤ xs.length) (hn : R.size = n) : St I w0 w (Ch.own (rSlice E R) [subV v 0 m n] (xs.take m) :: C) := by
  obtain ⟨h1, h2, F, ⟨G, K, rfl, k, e⟩, h4, h5⟩ := h
  obtain ⟨hl, k⟩ := k
  have hlen : (xs.take m).length = m := by rw [List.length_take]; omega
  rcases k with ⟨hv', rfl, rfl⟩ | ⟨g, ofs, cap, cur, K1, hv', k1, k2, k3, k4, rfl, k5⟩
  · obtain rfl : v = .slice none 0 0 := by simpa using hv'
    obtain rfl : m = 0 := by simpa using hm
    refine ⟨h1, h2, [] ++ K, ⟨[], K, rfl, ⟨by simp, .inl ⟨?_, rfl, rfl⟩⟩, e⟩, h4, h5⟩
    simp [subV, sliced]
  · obtain rfl : v = .slice (some ⟨g, ofs, none⟩) xs.length cap := by simpa using hv'
    rw [← List.take_append_drop m xs] at k5
    obtain ⟨G1, G2, rfl, q1, -⟩ := k5.parts
    have hp : ((g :: (G1 ++ G2)) ++ K).Perm (((g :: G1) ++ K) ++ G2) := by
      rw [List.append_assoc]
      show (g :: ((G1 ++ G2) ++ K)).Perm (g :: (G1 ++ (K ++ G2)))
      rw [List.append_assoc]
      exact (List.perm_append_comm.append_left G1).cons g
    refine ⟨h1, h2, (g :: G1) ++ K, ⟨g :: G1, K, rfl, ⟨by rw [hlen]; omega, .inr ⟨g, ofs, cap, cur, G1, ?_, k1, by rw [hlen]; omega, k3, k4, rfl, q1⟩⟩, e⟩, (List.nodup_append.1 (hp.nodup_iff.1 h4)).1, fun b hb => h5 b (hp.mem_iff.2 (List.mem_append_left _ hb))⟩
    rw [hlen]
    simp [subV, sliced, Addr.add]
theorem sSliceO_ok (hT : TTok P tt) {T : TypeId} {lo hi : Option Operand} (ho : o.op = .slice T x lo hi none) (h : sSliceO tt s k T x lo hi = some res) : Oks P w0 s o k res := by
  obtain ⟨d, hd, h⟩ := bind_some h
  split at h
  · rename_i E' hh hi' he hx _
    obtain ⟨r, hr, h⟩ := bind_some h
    obtain ⟨e, hE, h⟩ := bind_some h
    obtain ⟨hn, h⟩ := chkT_ok h
    have hn : e.n = r.t.size := Nat.eq_of_beq_eq_true hn
    obtain ⟨m, hm, h⟩ := bind_some h
    obtain ⟨u, hc, h⟩ := bind_some h
    have hc := chk_some hc
    obtain ⟨hp, -⟩ := rowOf_ok hr
    have hsz : r.t.rep.size = e.n := r.t.rep_size.trans hn.symm
    refine ⟨_, h, good_row (rs := []) (perm2 hp) fun J θ hf => ?_⟩
    have h1 : OpT P J w0 o (evL (envL θ s)) [Ch.own (rSlice r.E r.t.rep) [hv θ hh] r.xs] (· = subV (hv θ hh) 0 m.toNat e.n) (fun _ => [Ch.own (rSlice r.E r.t.rep) [hv θ hh] r.xs]) := opT_rd1 fun hD => opT_slice_h ((hT.get hd).el _ he) (hT.get hE).ti hD ho (opd_ev hx) (asI_ok hm θ) hc
    refine OpT.post h1 fun v w C hv' hs => ⟨trivial, ?_⟩
    subst hv'
    exact own_take hs (by omega) hsz
  · cases h
theorem sSliceD_ok (hT : TTok P tt) {T : TypeId} {lo hi : Option Operand} (ho : o.op = .slice T x lo hi none) (h : sSliceD tt s k T x lo hi = some res) : Oks P w0 s o k res := by
  obtain ⟨d, hd, h⟩ := bind_some h
  split at h
  · rename_i E' hh lo' he hx _
    obtain ⟨r, hr, h⟩ := bind_some h
    obtain ⟨e, hE, h⟩ := bind_some h
    obtain ⟨hn, h⟩ := chkT_ok h
    have hn : e.n = r.t.size := Nat.eq_of_beq_eq_true hn
    obtain ⟨m, hm, h⟩ := bind_some h
    obtain ⟨u, hc, h⟩ := bind_some h
    have hc := chk_some hc
    obtain ⟨hp, -⟩ := rowOf_ok hr
    have hsz : r.t.rep.size = e.n := r.t.rep_size.trans hn.symm
    refine ⟨_, h, good_row (rs := []) (perm2 hp) fun J θ hf => ?_⟩
    have h1 : OpT P J w0 o (evL (envL θ s)) [Ch.own (rSlice r.E r.t.rep) [hv θ hh] r.xs] (· = subV (hv θ hh) m.toNat r.xs.length e.n) (fun _ => [Ch.own (rSlice r.E r.t.rep) [hv θ hh] r.xs]) := opT_rd1 fun hD => opT_slice_l ((hT.get hd).el _ he) (hT.get hE).ti hD ho (opd_ev hx) (asI_ok hm θ) hc
    refine OpT.post h1 fun v w C hv' hs => ⟨trivial, ?_⟩
    subst hv'
    exact own_drop hs (by omega) hsz
  · cases h
theorem sub_row {h : Hdr} {ver : Nat} {E : TypeId} {t : Ty} {xs : List t.den} {l : Int} {J : Hp} {θ : Th} {r : Row} (hr : rowOf h s.chs = some r) (hv : r.ver = ver) (hm : AV.ok P w0 J θ s.nxt s.chs (.sub h ver E t xs l)) : r.ent h = (h, ver, .own (.sl E t) xs) := by
  obtain ⟨hp, -⟩ := rowOf_ok hr
  have := hm.2.2.2 (r.ent h) (hp.mem_iff.2 (by simp)) _ ⟨rfl, .inl ⟨hv, rfl⟩⟩
  show (h, r.ver, Chk.own (.sl r.E r.t) r.xs) = _
  rw [hv, show Chk.own (.sl r.E r.t) r.xs = _ from this]
theorem sSliceV_ok (hT : TTok P tt) {T : TypeId} {lo hi : Option Operand} (ho : o.op = .slice T x lo hi none) (h : sSliceV tt s k T x lo hi = some res) : Oks P w0 s o k res := by
  obtain ⟨d, hd, h⟩ := bind_some h
  split at h
  · rename_i E' hh lo' he hx _
    obtain ⟨r, hr, h⟩ := bind_some h
    obtain ⟨e, hE, h⟩ := bind_some h
    obtain ⟨hn, h⟩ := chkT_ok h
    have hn : e.n = r.t.size := Nat.eq_of_beq_eq_true hn
    obtain ⟨m, hm, h⟩ := bind_some h
    obtain ⟨u, hc, h⟩ := bind_some h
    have hc := chk_some hc
    obtain ⟨hp, -⟩ := rowOf_ok hr
    refine ⟨_, h, perm1 hp, says_plain rfl, fun J θ hf => OpT.weak (opT_rd1 (fact := (· = subV (hv θ hh) m.toNat r.xs.length e.n)) fun hD => opT_slice_l ((hT.get hd).el _ he) (hT.get hE).ti hD ho (opd_ev hx) (asI_ok hm θ) hc) (fun u hu => ?_) (fun u hu => rfl)⟩
    have hok := ent_ok hf hp
    refine ⟨⟨Nat.lt_succ_of_lt hok.1, hc, (rowOf_mem hr hok.2.1).newer (Res.newer (perm1 hp) (says_plain rfl J θ hf)) (Nat.le_succ _)⟩, ?_, fun g hg => by cases hg⟩
    rw [hu, hn]
    show subV (hv (upd θ s.nxt _) hh) _ _ _ = subV (hv θ hh) _ _ _
    rw [show hv (upd θ s.nxt _) hh = hv θ hh from hv_same Same.upd hok.1]
  · cases h
theorem sSliceW_ok (hT : TTok P tt) {T : TypeId} {lo hi : Option Operand} (ho : o.op = .slice T x lo hi none) (h : sSliceW tt s k T x lo hi = some res) : Oks P w0 s o k res := by
  obtain ⟨d, hd, h⟩ := bind_some h
  split at h
  · rename_i E' hh hi' he hx _
    obtain ⟨r, hr, h⟩ := bind_some h
    obtain ⟨e, hE, h⟩ := bind_some h
    obtain ⟨hn, h⟩ := chkT_ok h
    have hn : e.n = r.t.size := Nat.eq_of_beq_eq_true hn
    obtain ⟨m, hm, h⟩ := bind_some h
    obtain ⟨u, hc, h⟩ := bind_some h
    have hc := chk_some hc
    obtain ⟨hp, -⟩ := rowOf_ok hr
    refine ⟨_, h, perm1 hp, says_plain rfl, fun J θ hf => OpT.weak (opT_rd1 (fact := (· = subV (hv θ hh) 0 m.toNat e.n)) fun hD => opT_slice_h ((hT.get hd).el _ he) (hT.get hE).ti hD ho (opd_ev hx) (asI_ok hm θ) hc) (fun u hu => ?_) (fun u hu => rfl)⟩
    have hok := ent_ok hf hp
    refine ⟨⟨Nat.lt_succ_of_lt hok.1, hc, (rowOf_mem hr hok.2.1).newer (Res.newer (perm1 hp) (says_plain rfl J θ hf)) (Nat.le_succ _)⟩, ?_, fun g hg => by cases hg⟩
    rw [hu, hn]
    show subV (hv (upd θ s.nxt _) hh) _ _ _ = subV (hv θ hh) _ _ _
    rw [show hv (upd θ s.nxt _) hh = hv θ hh from hv_same Same.upd hok.1]
  · cases h
theorem good_upd {e : Ent} {rest : List Ent} {t : Ty} {d : t.den} {v : Value} (hp : s.chs.Perm (e :: rest)) (h1 : v.oneCell' = true) (hop : ∀ J θ, Fine P w0 J θ s → OpT P J w0 o (evL (envL θ s)) [toCh P θ e] (· = v) (fun _ => [Ch.own t.rep [hv θ e.1] d])) : Good P w0 s o ⟨[], [e], rest, [(e.1, .own t d)], .one (.val v)⟩ := by
  refine ⟨perm2 hp, says_plain rfl, fun J θ hf => OpT.weak (hop J θ hf) (fun u hu => ?_) (fun u hu => ?_)⟩
  · have hok := ent_ok hf hp
    refine ⟨h1, hu.symm, fun g hg => ?_⟩
    obtain rfl := List.mem_singleton.1 hg
    exact ⟨Nat.lt_succ_of_lt hok.1, Nat.lt_succ_self _, trivial⟩
  · have hok := ent_ok hf hp
    show [Ch.own t.rep [hv θ e.1] d] = [Ch.own t.rep [hv (upd θ s.nxt u) e.1] d]
    rw [show hv (upd θ s.nxt u) e.1 = hv θ e.1 from hv_same Same.upd hok.1]
theorem copyRow_ent {r : Row} {q : (k : IntKind) × List Int} {h : Hdr} (hq : copyRow r = some q) : r.ent h = (h, r.ver, .own (.sl r.E (.int q.1)) q.2) := by
  obtain ⟨ver, E, t, xs, rest⟩ := r
  unfold copyRow at hq
  split at hq
  · rename_i k xs' h1 h2
    obtain rfl := Option.some.inj hq
    subst h1
    obtain rfl := eq_of_heq h2
    rfl
  · cases hq
theorem sCopy_ok (hT : TTok P tt) {T U : TypeId} (ho : o.op = .call { callee := .builtin .copy, args := #[x, y], argTypes := #[T, U] }) (h : sCopy tt s k T x y = some res) : Oks P w0 s o k res := by
  obtain ⟨d, hd, h⟩ := bind_some h
  obtain ⟨E, hE, h⟩ := bind_some h
  obtain ⟨e, he, h⟩ := bind_some h
  obtain ⟨hn, h⟩ := chkT_ok h
  have hn : e.n = 1 := Nat.eq_of_beq_eq_true hn
  obtain ⟨xv, hx, h⟩ := bind_some h
  obtain ⟨c, hc, h⟩ := bind_some h
  obtain ⟨r, hr, h⟩ := bind_some h
  obtain ⟨hver, h⟩ := chkT_ok h
  rw [Bool.and_eq_true] at hver
  have hrE : r.E = E := Nat.eq_of_beq_eq_true hver.1
  obtain ⟨q, hq, h⟩ := bind_some h
  obtain ⟨yv, hy, h⟩ := bind_some h
  obtain ⟨hp, -⟩ := rowOf_ok hr
  have hent := copyRow_ent (h := c.h) hq
  rw [hent, hrE] at hp
  have hTe := (hT.get hd).el E hE
  have hsz : (P.info? E).map (·.size) = some 1 := by have := (hT.get he).ti; rw [hn] at this; exact ti_one this
  have hto : ∀ J θ, Fine P w0 J θ s → (evL (envL θ s) x = hv θ c.h ∧ c.lo.toNat = 0) ∨ evL (envL θ s) x = subV (hv θ c.h) c.lo.toNat q.2.length 1 := by
    intro J θ hf
    unfold copyTo at hc
    split at hc
    · obtain rfl := Option.some.inj hc
      exact .inl ⟨opd_ev hx, rfl⟩
    · rename_i hh ver' E' t' xs' l
      obtain rfl := Option.some.inj hc
      have hv2 : ver' = r.ver := Nat.eq_of_beq_eq_true (by simpa using hver.2)
      have h1 := sub_row hr hv2.symm (opd_ok hf hx)
      rw [hent] at h1
      have h2 : (Chk.own (.sl r.E (.int q.1)) q.2) = Chk.own (.sl E' t') xs' := (Prod.mk.inj (Prod.mk.inj h1).2).2
      injection h2 with h3 h4
      injection h3 with h5 h6
      subst h6
      obtain rfl := eq_of_heq h4
      right
      rw [opd_ev (θ := θ) hx]
      rfl
    · cases hc
  unfold sCopyI at h
  split at h
  · rename_i hh E' k2 ys
    obtain ⟨hk, h⟩ := chkT_ok h
    have hk : q.1 = k2 := by simpa using hk
    subst hk
    obtain ⟨u, hlo, h⟩ := bind_some h
    have hlo := chk_some hlo
    rw [hrE] at h
    refine ⟨_, h, good_upd (e := (c.h, r.ver, .own (.sl E (.int q.1)) q.2)) hp rfl fun J θ hf => ?_⟩
    have l1 : c.lo.toNat ≤ q.2.length := by omega
    exact opT_copy_rd (lo := c.lo.toNat) (opd_ok hf hy).2 hTe hsz ho rfl (opd_ev hy) l1 (hto J θ hf)
  · rename_i h2 v2 E' t' xs' hi
    obtain ⟨hk, h9⟩ := chkT_ok h
    clear h
    rw [Bool.and_eq_true] at hk
    have e1 := Hdr.beq_eq hk.1
    subst e1
    have e2 : v2 = r.ver := Nat.eq_of_beq_eq_true hk.2
    subst e2
    obtain ⟨u, hlo, h9⟩ := bind_some h9
    have hlo := chk_some hlo
    obtain ⟨u, hhi, h9⟩ := bind_some h9
    have hhi := chk_some hhi
    have l1 : c.lo.toNat ≤ q.2.length := by omega
    have l2 : hi.toNat ≤ q.2.length := by omega
    rw [hrE] at h9
    refine ⟨_, h9, good_upd (e := (c.h, r.ver, .own (.sl E (.int q.1)) q.2)) hp rfl fun J θ hf => ?_⟩
    have hyo : c.h.id < s.nxt ∧ (0 ≤ hi ∧ hi ≤ (xs'.length : Int)) ∧ Mem s.chs s.nxt c.h r.ver (.own (.sl E' t') xs') := opd_ok hf hy
    have h1 : (Chk.own (.sl E (.int q.1)) q.2) = Chk.own (.sl E' t') xs' := hyo.2.2.2 (c.h, r.ver, .own (.sl E (.int q.1)) q.2) (hp.mem_iff.2 (by simp)) _ ⟨rfl, .inl ⟨rfl, rfl⟩⟩
    injection h1 with h3 h4
    injection h3 with h5 h6
    subst h6
    obtain rfl := eq_of_heq h4
    exact opT_copy_self (lo := c.lo.toNat) (hi := hi.toNat) hTe hsz ho rfl ((opd_ev hy).trans rfl) l1 l2 (hto J θ hf)
  · cases h
inductive All2 {α β : Type} (p : α → β → Prop) : List α → List β → Prop
  | nil : All2 p [] []
  | cons {a : α} {b : β} {l : List α} {m : List β} (h : p a b) (k : All2 p l m) : All2 p (a :: l) (b :: m)
theorem All2.length_eq {α β : Type} {p : α → β → Prop} {l : List α} {m : List β} (h : All2 p l m) : l.length = m.length := by
  induction h with
  | nil => rfl
  | cons _ _ ih => rw [List.length_cons, List.length_cons, ih]
theorem els_raw {α : Type} {R : Rep α} (hR : R.Sh) (h1 : R.size = 1) {I : Hp} {w : World} : ∀ {xs : List α} {cur : List Value} {K : List Nat}, OwnEls R I w cur xs K → ∃ ps : List Raw, K = [] ∧ OwnEls rRaw I w cur ps [] ∧ All2 (fun p x => R.rd I [p.1] x) ps xs
  | [], cur, K, h => ⟨[], h, rfl, .nil⟩
  | x :: xs, cur, K, ⟨c, rest, G, K1, e1, e2, e3, e4, e5⟩ => by
    obtain ⟨rfl, hrd⟩ := hR e4
    obtain ⟨p, rfl⟩ := List.length_eq_one_iff.1 (e2.trans h1)
    obtain ⟨ps, rfl, k2, k3⟩ := els_raw hR h1 e5
    exact ⟨⟨p, R.rd_one hrd p (by simp)⟩ :: ps, e3, ⟨[p], rest, [], [], e1, rfl, rfl, ⟨rfl, rfl⟩, k2⟩, .cons hrd k3⟩
theorem raw_els {α : Type} {R : Rep α} (hC : Cpy R R) (h1 : R.size = 1) {I : Hp} {w : World} : ∀ {xs : List α} {ps : List Raw} {cur : List Value} {K : List Nat}, OwnEls rRaw I w cur ps K → All2 (fun p x => R.rd I [p.1] x) ps xs → K = [] ∧ OwnEls R I w cur xs []
  | [], [], cur, K, h, _ => ⟨h, rfl⟩
  | x :: xs, p :: ps, cur, K, h, hh => by
    obtain ⟨c, rest, G, K1, e1, e2, e3, e4, e5⟩ := h
    cases hh with
    | cons hp hps =>
      obtain ⟨rfl, e4⟩ := e4
      obtain rfl : c = [p.1] := e4
      obtain ⟨rfl, k⟩ := raw_els hC h1 e5 hps
      exact ⟨e3, [p.1], rest, [], [], e1, h1.symm, rfl, hC hp, k⟩
  | [], _ :: _, _, _, _, hh => by cases hh
  | _ :: _, [], _, _, _, hh => by cases hh
theorem row_raw {α : Type} {E : TypeId} {R : Rep α} (hR : R.Sh) (h1 : R.size = 1) {I : Hp} {w : World} {C : List Ch} {v : Value} {xs : List α} (h : St I w0 w (Ch.own (rSlice E R) [v] xs :: C)) : ∃ ps : List Raw, All2 (fun p x => R.rd I [p.1] x) ps xs ∧ St I w0 w (Ch.own (rSlice E rRaw) [v] ps :: C) := by
  obtain ⟨a1, a2, F, ⟨G, K, rfl, ⟨hl, k⟩, e⟩, a4, a5⟩ := h
  rcases k with ⟨hv', rfl, rfl⟩ | ⟨g, ofs, cap, cur, K1, hv', k1, k2, k3, k4, rfl, k5⟩
  · exact ⟨[], .nil, a1, a2, [] ++ K, ⟨[], K, rfl, ⟨Nat.zero_le _, .inl ⟨hv', rfl, rfl⟩⟩, e⟩, a4, a5⟩
  · obtain ⟨ps, rfl, q1, q2⟩ := els_raw hR h1 k5
    have hlen := q2.length_eq
    exact ⟨ps, q2, a1, a2, [g] ++ K, ⟨[g], K, rfl, ⟨by rw [hlen]; exact hl, .inr ⟨g, ofs, cap, cur, [], by rw [hlen]; exact hv', k1, by rw [hlen]; exact k2, k3, by rw [h1] at k4; exact k4, rfl, q1⟩⟩, e⟩, a4, a5⟩
theorem raw_row {α : Type} {E : TypeId} {R : Rep α} (hC : Cpy R R) (h1 : R.size = 1) {I : Hp} {w : World} {C : List Ch} {v : Value} {xs : List α} {ps : List Raw} (hp : All2 (fun p x => R.rd I [p.1] x) ps xs) (h : St I w0 w (Ch.own (rSlice E rRaw) [v] ps :: C)) : St I w0 w (Ch.own (rSlice E R) [v] xs :: C) := by
  obtain ⟨a1, a2, F, ⟨G, K, rfl, ⟨hl, k⟩, e⟩, a4, a5⟩ := h
  have hlen := hp.length_eq
  rcases k with ⟨hv', rfl, rfl⟩ | ⟨g, ofs, cap, cur, K1, hv', k1, k2, k3, k4, rfl, k5⟩
  · cases hp
    exact ⟨a1, a2, [] ++ K, ⟨[], K, rfl, ⟨Nat.zero_le _, .inl ⟨hv', rfl, rfl⟩⟩, e⟩, a4, a5⟩
  · obtain ⟨rfl, q1⟩ := raw_els hC h1 k5 hp
    exact ⟨a1, a2, [g] ++ K, ⟨[g], K, rfl, ⟨by rw [← hlen]; exact hl, .inr ⟨g, ofs, cap, cur, [], by rw [← hlen]; exact hv', k1, by rw [← hlen]; exact k2, k3, by rw [h1]; exact k4, rfl, q1⟩⟩, e⟩, a4, a5⟩
theorem rd_raw {α : Type} {E : TypeId} {R : Rep α} (h1 : R.size = 1) {I : Hp} {v : Value} {xs : List α} (h : (rSlice E R).rd I [v] xs) : ∃ ps : List Raw, All2 (fun p x => R.rd I [p.1] x) ps xs ∧ (rSlice E rRaw).rd I [v] ps := by
  obtain ⟨ao, cap, e, hl, h⟩ := h
  obtain rfl : v = .slice ao xs.length cap := by simpa using e
  rcases h with rfl | ⟨b, off, ccs, t, fr, rfl, h2, h3⟩
  · exact ⟨[], .nil, ao, cap, rfl, hl, .inl rfl⟩
  · have key : ∀ (xs : List α) (k0 : Nat), (∀ i x, xs[i]? = some x → ∃ c : List Value, c.length = R.size ∧ (∀ j, j < R.size → ccs.toList[off + (k0 + i) * R.size + j]? = c[j]?) ∧ R.rd I c x) → ∃ ps : List Raw, All2 (fun p x => R.rd I [p.1] x) ps xs ∧ ∀ i p, ps[i]? = some p → ccs.toList[off + (k0 + i)]? = some p.1 := by
      intro xs
      induction xs with
      | nil => intro k0 _; exact ⟨[], .nil, fun i p hp => by simp at hp⟩
      | cons x xs ih =>
        intro k0 h
        obtain ⟨c, e1, e2, e3⟩ := h 0 x rfl
        obtain ⟨p, rfl⟩ := List.length_eq_one_iff.1 (e1.trans h1)
        obtain ⟨ps, q1, q2⟩ := ih (k0 + 1) fun i y hy => by
          have := h (i + 1) y (by simpa using hy)
          rwa [show k0 + (i + 1) = k0 + 1 + i from by omega] at this
        refine ⟨⟨p, R.rd_one e3 p (by simp)⟩ :: ps, .cons e3 q1, fun i u hu => ?_⟩
        cases i with
        | zero =>
          obtain rfl : ⟨p, R.rd_one e3 p (by simp)⟩ = u := by simpa using hu
          have := e2 0 (by rw [h1]; exact Nat.one_pos)
          rw [h1, Nat.mul_one, Nat.add_zero] at this
          rw [Nat.add_zero] at this ⊢
          exact this
        | succ i =>
          have := q2 i u (by simpa using hu)
          rwa [show k0 + 1 + i = k0 + (i + 1) from by omega] at this
    obtain ⟨ps, q1, q2⟩ := key xs 0 (fun i x hx => by rw [Nat.zero_add]; exact h3 i x hx)
    have hlen := q1.length_eq
    refine ⟨ps, q1, _, cap, by rw [hlen], by rw [hlen]; exact hl, .inr ⟨b, off, ccs, t, fr, rfl, h2, fun i p hp => ?_⟩⟩
    have k1 := q2 i p hp
    refine ⟨[p.1], rfl, fun j hj => ?_, rfl⟩
    have hj : j = 0 := by have : j < 1 := hj; omega
    subst hj
    rw [Nat.zero_add] at k1
    show ccs.toList[off + i * 1 + 0]? = _
    rw [Nat.mul_one, Nat.add_zero]
    exact k1
theorem forall2_drop {α β : Type} {p : α → β → Prop} : ∀ {xs : List α} {ys : List β} (n : Nat), All2 p xs ys → All2 p (xs.drop n) (ys.drop n)
  | _, _, 0, h => h
  | _, _, n + 1, .nil => .nil
  | _, _, n + 1, .cons _ h => forall2_drop n h
theorem appI_nil {α : Type} {b : Nat} {xs zs : List α} (h : appI b [] xs = some zs) : zs = xs ∧ (∀ {β : Type} (ys : List β), ys.length = xs.length → appI b [] ys = some ys) := by
  obtain ⟨h1, h2⟩ := appI_some h
  refine ⟨h1, fun ys hy => ?_⟩
  unfold appI
  rw [if_pos (by rw [hy]; exact h2)]; rfl
theorem clone_own {E' : TypeId} {α : Type} {R : Rep α} (hR : R.Sh) (hC : Cpy R R) (h1 : R.size = 1) {kf : FuncId} {E b : Nat} (hcl : CloneOk P kf E b) {xs zs : List α} {l : Nat} (hl : l ≤ xs.length) (hz : appI b [] (xs.drop l) = some zs) {v u : Value} (hu : u = subV v l xs.length 1 ∨ (l = 0 ∧ u = v)) {ts : Array TypeId} {J : Hp} {θ : Th} (hlay : Lay P J) (ho : o.op = .call { callee := .value (.func kf), args := #[x], argTypes := ts }) {ev : Operand → Value} (hev : ev x = u) (hevf : ev (.func kf) = .func (.func kf) #[] #[]) :
    OpT P J w0 o ev [Ch.own (rSlice E' R) [v] xs] (fun _ => True) (fun r => [Ch.own (rSlice E' R) [v] xs, Ch.own (rSlice E R) [r] zs]) := by
  obtain ⟨rfl, happ⟩ := appI_nil hz
  intro w C hs
  obtain ⟨ps, hp, hs1⟩ := row_raw hR h1 hs
  have hlen := hp.length_eq
  have h2 : OpT P J w0 o ev ([Ch.own (rSlice E' rRaw) [v] ps] ++ []) (fun _ => True) (fun r => [Ch.own (rSlice E' rRaw) [v] ps] ++ [Ch.own (rSlice E rRaw) [r] (ps.drop l)]) := by
    refine OpT_lend (fun v => ⟨dp_own (dp_slice dp_raw), trivial⟩) fun J' hJ hrd hbl => ?_
    have hr := hrd (rSlice E' rRaw) [v] ps (by simp)
    have hr2 : (rSlice E' rRaw).rd J' [u] (ps.drop l) := by
      rcases hu with rfl | ⟨rfl, rfl⟩
      · rw [← hlen]
        exact rd_sub_l hr (by omega) rfl
      · exact hr
    exact opT_call hcl.1 ho hevf (by simp [hev]) (hcl.2 E' J' w0 u (ps.drop l) (ps.drop l) (hlay.mono hJ) hr2 (happ _ (by rw [List.length_drop, List.length_drop, hlen])))
  have := h2 w C (by simpa using hs1)
  refine this.imp fun r w' hr => ⟨trivial, ?_⟩
  have h3 : St J w0 w' (Ch.own (rSlice E' rRaw) [v] ps :: Ch.own (rSlice E rRaw) [r] (ps.drop l) :: C) := by simpa using hr.2
  have h4 := raw_row hC h1 hp h3
  have h5 := raw_row hC h1 (forall2_drop l hp) (h4.perm (List.Perm.swap _ _ _))
  exact h5.perm (List.Perm.swap _ _ _)
theorem clone_rd {E' : TypeId} {α : Type} {R : Rep α} (hC : Cpy R R) (h1 : R.size = 1) {kf : FuncId} {E b : Nat} (hcl : CloneOk P kf E b) {xs zs : List α} (hz : appI b [] xs = some zs) {v : Value} {ts : Array TypeId} {J : Hp} (hlay : Lay P J) (hr : (rSlice E' R).rd J [v] xs) (ho : o.op = .call { callee := .value (.func kf), args := #[x], argTypes := ts }) {ev : Operand → Value} (hev : ev x = v) (hevf : ev (.func kf) = .func (.func kf) #[] #[]) :
    OpT P J w0 o ev [] (fun _ => True) (fun r => [Ch.own (rSlice E R) [r] zs]) := by
  obtain ⟨rfl, happ⟩ := appI_nil hz
  obtain ⟨ps, hp, hr2⟩ := rd_raw h1 hr
  have := opT_call (P := P) (w0 := w0) (o := o) hcl.1 ho hevf (by simp [hev]) (hcl.2 E' J w0 v ps ps hlay hr2 (happ _ hp.length_eq))
  exact OpT.post this fun r w C _ hs => ⟨trivial, raw_row hC h1 hp hs⟩
theorem good_row1 {e : Ent} {rest : List Ent} {E : TypeId} {t : Ty} {xs : List t.den} (hp : s.chs.Perm (e :: rest)) (hop : ∀ J θ, Fine P w0 J θ s → OpT P J w0 o (evL (envL θ s)) [toCh P θ e] (fun _ => True) (fun v => [toCh P θ e, Ch.own (Ty.sl E t).rep [v] xs])) : Good P w0 s o ⟨[e], [], rest, [(⟨s.nxt, []⟩, .own (.sl E t) xs)], .one (.own ⟨s.nxt, []⟩)⟩ :=
  good_row (rs := [e]) (ns := []) hp fun J θ hf => fun w C hs => (hop J θ hf w C hs).imp fun v w hv => ⟨hv.1, hv.2.perm ((List.Perm.swap _ _ _).append_right C)⟩
theorem sClone_ok {kf : FuncId} {E b : Nat} (hcl : CloneOk P kf E b) {ts : Array TypeId} (ho : o.op = .call { callee := .value (.func kf), args := #[x], argTypes := ts }) (h : sClone s k E b x = some res) : Oks P w0 s o k res := by
  unfold sClone at h
  split at h
  · rename_i hh ver E' t xs l hx
    obtain ⟨r, hr, h⟩ := bind_some h
    obtain ⟨hc, h⟩ := chkT_ok h
    rw [Bool.and_eq_true, Bool.and_eq_true] at hc
    have hver := Nat.eq_of_beq_eq_true hc.1
    have hsz : t.size = 1 := Nat.eq_of_beq_eq_true hc.2.2
    obtain ⟨zs, hz, h⟩ := bind_some h
    obtain ⟨hp, -⟩ := rowOf_ok hr
    refine ⟨_, h, good_row1 hp fun J θ hf => ?_⟩
    have hxo := opd_ok hf hx
    have he := sub_row hr hver hxo
    rw [he]
    refine clone_own (Ty.sh_ok hc.2.1) (Ty.cpy hc.2.1) (t.rep_size.trans hsz) hcl (l := l.toNat) (by have := hxo.2.1; omega) hz (.inl ?_) (J := J) (θ := θ) hf.lay ho rfl rfl
    rw [← hsz]
    exact opd_ev hx
  · rename_i hh hx
    obtain ⟨r, hr, h⟩ := bind_some h
    obtain ⟨hc, h⟩ := chkT_ok h
    rw [Bool.and_eq_true] at hc
    have hsz : r.t.size = 1 := Nat.eq_of_beq_eq_true hc.2
    obtain ⟨zs, hz, h⟩ := bind_some h
    obtain ⟨hp, -⟩ := rowOf_ok hr
    refine ⟨_, h, good_row1 hp fun J θ hf => ?_⟩
    exact clone_own (Ty.sh_ok hc.1) (Ty.cpy hc.1) (r.t.rep_size.trans hsz) hcl (l := 0) (Nat.zero_le _) (by simpa using hz) (.inr ⟨rfl, opd_ev hx⟩) (J := J) (θ := θ) hf.lay ho rfl rfl
  · rename_i hh E' t xs hx
    obtain ⟨hc, h⟩ := chkT_ok h
    rw [Bool.and_eq_true] at hc
    have hsz : t.size = 1 := Nat.eq_of_beq_eq_true hc.2
    obtain ⟨zs, hz, h⟩ := bind_some h
    exact ⟨_, h, good_row (rs := []) (ns := []) (List.Perm.refl _) fun J θ hf => clone_rd (Ty.cpy hc.1) (t.rep_size.trans hsz) hcl hz hf.lay (opd_ok hf hx).2 ho (opd_ev hx) rfl⟩
  · cases h
end
end Go.Proofs.YtfkjjnddefojjaaGreatDoor.R
