/- Types of data, values of slots that carry data, states; what they say of an activation. No program text is named here. -/
import Derived.Test.YtfkocnnphjkmfaaSub
set_option linter.unusedVariables false
set_option linter.unusedSimpArgs false
set_option linter.unnecessarySimpa false
set_option linter.unusedSectionVars false
namespace Go.Proofs.Ytfkocnnphjkmfaa.R
open Go.RowKit
open Go.Proofs.Ytfkocnnphjkmfaa.D

/-! ### Types -/
inductive Ty
  | int (k : IntKind) | bool | str
  | prod (a b : Ty)
  | sl (E : TypeId) (t : Ty)
  | fro (t : Ty)
  | wr (t : Ty)
  deriving DecidableEq
def Ty.den : Ty → Type
  | .int _ => Int
  | .bool => Bool
  | .str => ByteArray
  | .prod a b => a.den × b.den
  | .sl _ t => List t.den
  | .fro t => t.den
  | .wr t => t.den
def Ty.size : Ty → Nat
  | .prod a b => a.size + b.size
  | .fro t => t.size
  | .wr t => t.size
  | _ => 1
def Ty.isProd : Ty → Bool
  | .prod _ _ => true
  | .fro t => t.isProd
  | .wr _ => true
  | _ => false
def Ty.rep : (t : Ty) → Rep t.den
  | .int k => rFlat Int (.int k) fun _ => rfl
  | .bool => rBool
  | .str => rStr
  | .prod a b => rProd a.rep b.rep
  | .sl E t => rSlice E t.rep
  | .fro t => rFro t.rep
  | .wr t => t.rep
def Ty.erase : Ty → Ty
  | .prod a b => .prod a.erase b.erase
  | .sl E t => .sl E t.erase
  | .fro t => t.erase
  | .wr t => .wr t.erase
  | t => t
theorem Ty.rep_size : ∀ t : Ty, t.rep.size = t.size
  | .int _ => rfl
  | .bool => rfl
  | .str => rfl
  | .prod a b => by show a.rep.size + b.rep.size = _; rw [rep_size a, rep_size b]; rfl
  | .sl _ _ => rfl
  | .fro t => rep_size t
  | .wr t => rep_size t
theorem Ty.size_pos : ∀ t : Ty, 0 < t.size
  | .int _ => Nat.one_pos
  | .bool => Nat.one_pos
  | .str => Nat.one_pos
  | .prod a b => Nat.add_pos_left (size_pos a) _
  | .sl _ _ => Nat.one_pos
  | .fro t => size_pos t
  | .wr t => size_pos t
/-- owned or frozen does not matter to what is read -/
abbrev Pk := (α : Type) × (Nat × (Hp → List Value → α → Prop))
def Ty.pk (t : Ty) : Pk := ⟨t.den, t.rep.size, t.rep.rd⟩
def pkProd (p q : Pk) : Pk := ⟨p.1 × q.1, p.2.1 + q.2.1, fun I cs x => ∃ c d, cs = c ++ d ∧ p.2.2 I c x.1 ∧ q.2.2 I d x.2⟩
def pkSl (p : Pk) : Pk := ⟨List p.1, 1, fun I cs xs => ∃ ao cap, cs = [.slice ao xs.length cap] ∧ (xs.length ≤ lim ∧ xs.length ≤ cap) ∧ (xs = [] ∨ ∃ b off ccs t fr, ao = some ⟨b, off, none⟩ ∧ I b = some (.cells ccs t fr) ∧
    ∀ i x, xs[i]? = some x → ∃ c : List Value, c.length = p.2.1 ∧ (∀ j, j < p.2.1 → ccs.toList[off + i * p.2.1 + j]? = c[j]?) ∧ p.2.2 I c x)⟩
theorem Ty.pk_erase : ∀ t : Ty, t.erase.pk = t.pk
  | .int _ => rfl
  | .bool => rfl
  | .str => rfl
  | .prod a b => by
    show pkProd a.erase.pk b.erase.pk = pkProd a.pk b.pk
    rw [pk_erase a, pk_erase b]
  | .sl _ t => by
    show pkSl t.erase.pk = pkSl t.pk
    rw [pk_erase t]
  | .fro t => pk_erase t
  | .wr t => pk_erase t
theorem Ty.pk_eq {t u : Ty} (h : t.erase = u.erase) : t.pk = u.pk := by rw [← pk_erase t, h, pk_erase u]
def castTy (t u : Ty) (d : t.den) : Option u.den := if h : t.erase = u.erase then some (cast (congrArg Sigma.fst (Ty.pk_eq h)) d) else none
theorem pk_cast {p q : Pk} (h : p = q) {I : Hp} {cs : List Value} {d : p.1} (hd : p.2.2 I cs d) : q.2.2 I cs (cast (congrArg Sigma.fst h) d) := by subst h; exact hd
theorem castTy_rd {t u : Ty} {d : t.den} {d' : u.den} (h : castTy t u d = some d') {J : Hp} {cs : List Value} (hd : t.rep.rd J cs d) : u.rep.rd J cs d' := by
  unfold castTy at h
  split at h
  · rename_i he
    obtain rfl := Option.some.inj h
    exact pk_cast (Ty.pk_eq he) hd
  · cases h
/-- the same type -/
def castEq (t u : Ty) (d : t.den) : Option u.den := if h : t = u then some (h ▸ d) else none
theorem castEq_ok {t u : Ty} {d : t.den} {d' : u.den} (h : castEq t u d = some d') : ∃ e : t = u, d' = e ▸ d := by
  unfold castEq at h
  split at h
  · rename_i he
    exact ⟨he, (Option.some.inj h).symm⟩
  · cases h
/-- held without blocks of its own -/
def Ty.sh : Ty → Bool
  | .prod a b => a.sh && b.sh
  | .sl _ _ => false
  | .fro _ => true
  | .wr t => t.sh
  | _ => true
theorem Ty.sh_ok : ∀ {t : Ty}, t.sh = true → t.rep.Sh
  | .int _, _ => sh_flat
  | .bool, _ => sh_bool
  | .str, _ => sh_str
  | .prod a b, h => by
    have h : (a.sh && b.sh) = true := h
    rw [Bool.and_eq_true] at h
    exact sh_prod (sh_ok h.1) (sh_ok h.2)
  | .sl _ _, h => by cases h
  | .fro _, _ => sh_fro
  | .wr t, h => sh_ok (t := t) h
theorem Ty.cpy : ∀ {t : Ty}, t.sh = true → Cpy t.rep t.rep
  | .int _, _ => cpy_flat
  | .bool, _ => cpy_bool
  | .str, _ => cpy_str
  | .prod a b, h => by
    have h : (a.sh && b.sh) = true := h
    rw [Bool.and_eq_true] at h
    exact cpy_prod (cpy h.1) (cpy h.2)
  | .sl _ _, h => by cases h
  | .fro _, _ => cpy_fro2
  | .wr t, h => cpy (t := t) h

/-! ### Functions -/
def dens : List Ty → Type
  | [] => Unit
  | [t] => t.den
  | t :: u :: ts => t.den × dens (u :: ts)
def denH : List Ty → Type
  | [] => Unit
  | t :: ts => t.den × denH ts
def toH : (ts : List Ty) → dens ts → denH ts
  | [], _ => ()
  | [_], d => (d, ())
  | _ :: u :: ts, d => (d.1, toH (u :: ts) d.2)
def cur : List Ty → Type → Type
  | [], R => R
  | t :: ts, R => t.den → cur ts R
def app {R : Type} : (ts : List Ty) → cur ts R → denH ts → R
  | [], f, _ => f
  | _ :: ts, f, d => app ts (f d.1) d.2
/-- the values of arguments that are read -/
def RArgs (J : Hp) : (ts : List Ty) → List Value → denH ts → Prop
  | [], vs, _ => vs = []
  | t :: ts, vs, d => ∃ v cs r, vs = v :: r ∧ Lds t.isProd cs v ∧ t.rep.rd J cs d.1 ∧ RArgs J ts r d.2
/-- the cells of a value -/
def vcells (agg : Bool) (v : Value) : List Value := match agg with
  | true => v.cells.toList
  | false => [v]
/-- what results hold, each owned whole -/
def resGo : (i : Nat) → (ts : List Ty) → denH ts → Value → List Ch
  | _, [], _, _ => []
  | i, t :: ts, d, v => Ch.own t.rep (vcells t.isProd (vg v [i])) d.1 :: resGo (i + 1) ts d.2 v
def resGv : (ts : List Ty) → denH ts → Value → List Ch
  | [t], d, v => [Ch.own t.rep (vcells t.isProd v) d.1]
  | ts, d, v => resGo 0 ts d v
def isAggV : Value → Bool
  | .agg _ => true
  | _ => false
def resFa : (ts : List Ty) → Value → Prop
  | [t], v => isAggV v = t.isProd
  | ts, v => ∃ vs, v = .tuple vs ∧ vs.size = ts.length ∧ ∀ i t, ts[i]? = some t → isAggV (vs.getD i undef) = t.isProd
/-- a function value that keeps to the model e -/
def FnOk (P : Program) (w0 : World) (J : Hp) (v : Value) (ps rs : List Ty) (e : cur ps (Option (dens rs))) : Prop :=
  ∃ k first capt, v = .func (.func k) first capt ∧ Enters P k ∧ ∀ J', J.le J' → ∀ args d, RArgs J' ps args d → ∀ r, app ps e d = some r → Con P k (first.toList ++ args ++ capt.toList).toArray J' w0 [] (resFa rs) (resGv rs (toH rs r))
theorem FnOk.mono {P : Program} {w0 : World} {J J' : Hp} {v : Value} {ps rs : List Ty} {e : cur ps (Option (dens rs))} (h : FnOk P w0 J v ps rs e) (hJ : J.le J') : FnOk P w0 J' v ps rs e := by
  obtain ⟨k, first, capt, h1, h2, h3⟩ := h
  exact ⟨k, first, capt, h1, h2, fun J2 h => h3 J2 (hJ.trans h)⟩
theorem FnOk.one {P : Program} {w0 : World} {J : Hp} {v : Value} {ps rs : List Ty} {e : cur ps (Option (dens rs))} (h : FnOk P w0 J v ps rs e) : v.oneCell' = true := by
  obtain ⟨k, first, capt, rfl, _⟩ := h; rfl

/-! ### Values that carry data -/
/-- a header: in the value of which operation, where -/
structure Hdr where
  id : Nat
  path : List Nat
def beqL : List Nat → List Nat → Bool
  | [], [] => true
  | a :: l, b :: m => Nat.beq a b && beqL l m
  | _, _ => false
def Hdr.beq (a b : Hdr) : Bool := Nat.beq a.id b.id && beqL a.path b.path
theorem beqL_eq : ∀ {l m : List Nat}, beqL l m = true → l = m
  | [], [], _ => rfl
  | a :: l, b :: m, h => by
    have h : (Nat.beq a b && beqL l m) = true := h
    rw [Bool.and_eq_true] at h
    rw [Nat.eq_of_beq_eq_true h.1, beqL_eq h.2]
  | [], _ :: _, h => by cases h
  | _ :: _, [], h => by cases h
theorem Hdr.beq_eq {a b : Hdr} (h : a.beq b = true) : a = b := by
  unfold Hdr.beq at h
  rw [Bool.and_eq_true] at h
  obtain ⟨i, p⟩ := a
  obtain ⟨j, q⟩ := b
  obtain rfl : i = j := Nat.eq_of_beq_eq_true h.1
  obtain rfl : p = q := beqL_eq h.2
  rfl
inductive LV
  | val (v : Value)
  | nb (b : Bool)
  | rd (h : Hdr) (t : Ty) (d : t.den)
  | own (h : Hdr)
  | ptr (h : Hdr) (off : Nat)
  | fn (h : Hdr) (ps rs : List Ty) (e : cur ps (Option (dens rs)))
  | fz (h : Hdr) (T : TypeId) (t : Ty) (d : t.den) (off : Nat)
  | fzf (h : Hdr) (T : TypeId) (ps rs : List Ty) (e : cur ps (Option (dens rs)))
/-- keys and values of maps -/
inductive MK
  | int | ii
def MK.den : MK → Type
  | .int => Int
  | .ii => Int × Int
def MK.dec : (k : MK) → DecidableEq k.den
  | .int => (inferInstance : DecidableEq Int)
  | .ii => (inferInstance : DecidableEq (Int × Int))
def MK.lit : (k : MK) → k.den → Lit
  | .int => iLit
  | .ii => iiLit
def MK.ok : (k : MK) → k.den → Bool
  | .int => iOk
  | .ii => iiOk
def MK.val : (k : MK) → k.den → Value
  | .int => fun n : Int => .int .i64 n
  | .ii => fun x : Int × Int => .agg #[.int .i64 x.1, .int .i64 x.2]
inductive ME
  | int | bool
def ME.den : ME → Type
  | .int => Int
  | .bool => Bool
def ME.lit : (e : ME) → e.den → Lit
  | .int => iLit
  | .bool => bLit
def ME.ok : (e : ME) → e.den → Bool
  | .int => iOk
  | .bool => bOk
def ME.z : (e : ME) → e.den
  | .int => (0 : Int)
  | .bool => false
def ME.val : (e : ME) → e.den → Value
  | .int => fun n : Int => .int .i64 n
  | .bool => fun b : Bool => .bool b
inductive AV
  | one (x : LV)
  | agg (xs : List LV)
  | tup (ys : List (Bool × List LV))
  | elr (h : Hdr) (E : TypeId) (t : Ty) (xs : List t.den) (x : t.den) (i : Int) (off : Nat)
  | elo (h : Hdr) (ver : Nat) (E : TypeId) (t : Ty) (xs : List t.den) (x : t.den) (i : Int) (off : Nat)
  | any (h : Hdr)
  | und
/-- what the function holds in blocks of its own: a value of one cell; a block known whole; a value of one cell of which the part at o is taken out -/
inductive Chk
  | own (t : Ty) (d : t.den)
  | blk (T : TypeId) (cells : List LV)
  | hole (over : Nat) (t : Ty) (d : t.den) (u : Ty) (y : u.den) (f : u.den → t.den) (i : Int) (k off : Nat) (lv : LV)
  | box (T : TypeId) (t : Ty) (d : t.den)
  | map (K E : TypeId) (k : MK) (e : ME) (m : List (k.den × e.den))
  | clo (k : FuncId) (first : List (Bool × List LV)) (capt : List LV)
abbrev Ent := Hdr × Nat × Chk
structure Sg where
  env : List (Nat × Nat × AV)
  chs : List Ent
  nxt : Nat

/-- owned data from which a part of one cell, at off of the block b, is taken out: the cell holds v -/
def Ch.gap {α β : Type} (R : Rep α) (cs : List Value) (S : Rep β) (f : β → α) (b off : Nat) (v : Value) : Ch where
  holds I w K := b ∈ K ∧ (∃ cur E, w.heap[b]? = some (.cells cur E (0, 0)) ∧ cur[off]? = some v) ∧ (∀ x, x ∈ K → x < w.heap.size) ∧
    ∀ J w' v' y G, I.le J → (∀ x, x ∈ K → x ≠ b → w'.heap[x]? = w.heap[x]?) → (∀ cur E, w.heap[b]? = some (.cells cur E (0, 0)) → w'.heap[b]? = some (.cells (cur.setIfInBounds off v') E (0, 0))) → S.own J w' [v'] y G → ∃ F, F.Perm (G ++ K) ∧ R.own J w' cs (f y) F
  mono := by
    rintro I J w K ⟨h1, h2, h3, h4⟩ hJ
    exact ⟨h1, h2, h3, fun J' w' v' y G hJ' => h4 J' w' v' y G (hJ.trans hJ')⟩
  stay := by
    rintro I w w' K ⟨h1, ⟨cur, E, h2, h2'⟩, h3, h4⟩ hw
    have hb : w'.heap[b]? = some (.cells cur E (0, 0)) := by rw [hw b h1]; exact h2
    refine ⟨h1, ⟨cur, E, hb, h2'⟩, fun x hx => ?_, fun J w'' v' y G hJ k1 k2 => h4 J w'' v' y G hJ (fun x hx hne => by rw [k1 x hx hne, hw x hx]) fun cur' E' hc => k2 cur' E' (by rw [hw b h1]; exact hc)⟩
    have hlt := h3 x hx
    have : w.heap[x]? = some w.heap[x] := Array.getElem?_eq_getElem hlt
    rw [← hw x hx] at this
    exact (Array.getElem?_eq_some_iff.1 this).1
  live := fun h => h.2.2.1

/-- a block whose cells own data -/
def Ch.box {α : Type} (b : Nat) (T : TypeId) (R : Rep α) (d : α) : Ch where
  holds I w F := ∃ (cells : List Value) (G : List Nat), F = b :: G ∧ w.heap[b]? = some (.cells cells.toArray T (0, 0)) ∧ R.own I w cells d G
  mono := by
    rintro I J w F ⟨cells, G, rfl, h1, h2⟩ hJ
    exact ⟨cells, G, rfl, h1, R.own_mono h2 hJ⟩
  stay := by
    rintro I w w' F ⟨cells, G, rfl, h1, h2⟩ hw
    exact ⟨cells, G, rfl, by rw [hw b (by simp)]; exact h1, R.own_stay h2 fun c hc => hw c (by simp [hc])⟩
  live := by
    rintro I w F ⟨cells, G, rfl, h1, h2⟩ c hc
    rcases List.mem_cons.1 hc with rfl | hc
    · exact (Array.getElem?_eq_some_iff.1 h1).1
    · exact R.own_live h2 c hc
def Ch.emp : Ch where
  holds I w F := F = []
  mono h _ := h
  stay h _ := h
  live := by rintro I w F rfl b hb; cases hb
theorem St.emp {I : Hp} {w0 w : World} {C : List Ch} : St I w0 w (Ch.emp :: C) ↔ St I w0 w C := by
  constructor
  · rintro ⟨h1, h2, F, ⟨G, K, rfl, rfl, e⟩, h4, h5⟩
    exact ⟨h1, h2, K, e, h4, h5⟩
  · rintro ⟨h1, h2, F, e, h4, h5⟩
    exact ⟨h1, h2, F, ⟨[], F, rfl, rfl, e⟩, h4, h5⟩
theorem St.box {I : Hp} {w0 w : World} {C : List Ch} {α : Type} {b : Nat} {T : TypeId} {R : Rep α} {d : α} : St I w0 w (Ch.box b T R d :: C) ↔ ∃ cells, St I w0 w (Ch.blk b cells T :: Ch.own R cells d :: C) := by
  constructor
  · rintro ⟨h1, h2, F, ⟨G, K, rfl, ⟨cells, G', rfl, k1, k2⟩, e⟩, h4, h5⟩
    exact ⟨cells, h1, h2, b :: (G' ++ K), ⟨[b], G' ++ K, rfl, ⟨rfl, k1⟩, G', K, rfl, k2, e⟩, h4, h5⟩
  · rintro ⟨cells, h1, h2, F, ⟨G, K, rfl, ⟨rfl, k1⟩, G', K', rfl, k2, e⟩, h4, h5⟩
    exact ⟨h1, h2, b :: (G' ++ K'), ⟨b :: G', K', rfl, ⟨cells, G', rfl, k1, k2⟩, e⟩, h4, h5⟩

/-! ### What they are, with the values of the operations -/
abbrev Th := Nat → Value
def hv (θ : Th) (h : Hdr) : Value := vg (θ h.id) h.path
def LV.v (θ : Th) : LV → Value
  | .val v => v
  | .nb b => .bool (!b)
  | .rd h _ _ => hv θ h
  | .own h => hv θ h
  | .ptr h off => .pointer (some ⟨bk (hv θ h), off, none⟩)
  | .fn h _ _ _ => hv θ h
  | .fz h _ _ _ off => .pointer (some ⟨bk (hv θ h), off, none⟩)
  | .fzf h _ _ _ _ => .pointer (some ⟨bk (hv θ h), 0, none⟩)
def partV (θ : Th) (y : Bool × List LV) : Value := if y.1 then .agg (y.2.map (·.v θ)).toArray else match y.2 with
  | x :: _ => x.v θ
  | [] => undef
def AV.v (θ : Th) : AV → Value
  | .one x => x.v θ
  | .agg xs => .agg (xs.map (·.v θ)).toArray
  | .tup ys => .tuple (ys.map (partV θ)).toArray
  | .elr h _ t _ _ i off => pt (hv θ h) (i.toNat * t.size + off)
  | .elo h _ _ t _ _ i off => pt (hv θ h) (i.toNat * t.size + off)
  | .any h => hv θ h
  | .und => undef
def LV.ok (P : Program) (w0 : World) (J : Hp) (θ : Th) (n : Nat) : LV → Prop
  | .val v => v.oneCell' = true
  | .nb _ => True
  | .rd h t d => h.id < n ∧ t.rep.rd J [hv θ h] d
  | .own h => h.id < n ∧ (hv θ h).oneCell' = true
  | .ptr h _ => h.id < n
  | .fn h ps rs e => h.id < n ∧ FnOk P w0 J (hv θ h) ps rs e
  | .fz h T t d _ => h.id < n ∧ ∃ cells : List Value, J (bk (hv θ h)) = some (.cells cells.toArray T (0, 0)) ∧ t.rep.rd J cells d
  | .fzf h T ps rs e => h.id < n ∧ ∃ u : Value, J (bk (hv θ h)) = some (.cells [u].toArray T (0, 0)) ∧ FnOk P w0 J u ps rs e
/-- what is recalled of an entry's elder state -/
def SaysH (x : Chk) (ver : Nat) (c : Chk) : Prop := match x with
  | .hole over t d _ _ _ _ _ _ _ => over = ver ∧ c = .own t d
  | _ => False
def Says (e : Ent) (h : Hdr) (ver : Nat) (c : Chk) : Prop := e.1 = h ∧ ((e.2.1 = ver ∧ c = e.2.2) ∨ SaysH e.2.2 ver c)
/-- an entry with this header and this version, if there is one, is this -/
def Mem (chs : List Ent) (n : Nat) (h : Hdr) (ver : Nat) (c : Chk) : Prop := ver < n ∧ ∀ e, e ∈ chs → ∀ c', Says e h ver c' → c' = c
def AV.ok (P : Program) (w0 : World) (J : Hp) (θ : Th) (n : Nat) (chs : List Ent) : AV → Prop
  | .one x => x.ok P w0 J θ n
  | .agg xs => ∀ x ∈ xs, x.ok P w0 J θ n
  | .tup ys => ∀ y ∈ ys, ∀ x ∈ y.2, x.ok P w0 J θ n
  | .elr h E t xs x i _ => h.id < n ∧ getI xs i = some x ∧ (Ty.sl E t).rep.rd J [hv θ h] xs
  | .elo h ver E t xs x i _ => h.id < n ∧ getI xs i = some x ∧ Mem chs n h ver (.own (.sl E t) xs)
  | .any h => h.id < n
  | .und => True
def toCh (P : Program) (θ : Th) (e : Ent) : Ch := match e.2.2 with
  | .own t d => Ch.own t.rep [hv θ e.1] d
  | .blk T cells => Ch.blk (bk (hv θ e.1)) (cells.map (·.v θ)) T
  | .hole _ t _ u _ f i k off lv => Ch.gap t.rep [hv θ e.1] u.rep f (ptB (hv θ e.1)) (ptO (hv θ e.1) + (i.toNat * k + off)) (lv.v θ)
  | .box T t d => Ch.box (bk (hv θ e.1)) T t.rep d
  | .map K E k m md => @Ch.mp P K E k.den m.den k.dec k.lit k.ok m.lit m.z (hv θ e.1) md
  | .clo _ _ _ => Ch.emp
def okE (P : Program) (w0 : World) (J : Hp) (θ : Th) (n : Nat) (chs : List Ent) (e : Ent) : Prop := e.1.id < n ∧ e.2.1 < n ∧ match e.2.2 with
  | .own _ _ => True
  | .blk _ cells => ∀ x ∈ cells, x.ok P w0 J θ n
  | .hole over t d u y f _ _ _ lv => lv.ok P w0 J θ n ∧ over < e.2.1 ∧ f y = d ∧ ∀ l, lv = .own l → Mem chs n l e.2.1 (.own u y)
  | .box _ _ _ => True
  | .map _ _ _ _ _ => True
  | .clo k first capt => (∀ y ∈ first, ∀ x ∈ y.2, x.ok P w0 J θ n) ∧ (∀ x ∈ capt, x.ok P w0 J θ n) ∧ hv θ e.1 = .func (.func k) (first.map (partV θ)).toArray (capt.map (·.v θ)).toArray
def envL (θ : Th) (s : Sg) : List (Nat × Value) := s.env.map fun e => (e.1, e.2.2.v θ)
/-- what is said of the values: with the frozen part J -/
structure Fine (P : Program) (w0 : World) (J : Hp) (θ : Th) (s : Sg) : Prop where
  env : ∀ e ∈ s.env, e.2.2.ok P w0 J θ s.nxt s.chs
  ver : ∀ e ∈ s.env, e.2.1 < s.nxt
  nd : s.env.Pairwise fun a b => a.2.1 ≠ b.2.1
  chs : ∀ e ∈ s.chs, okE P w0 J θ s.nxt s.chs e
structure Sim (P : Program) (I : Hp) (w0 : World) (F : Ch) (n : Nat) (J : Hp) (θ : Th) (s : Sg) (a : Act) (w : World) : Prop where
  le : I.le J
  agr : Agr n a (envL θ s)
  st : St J w0 w (s.chs.map (toCh P θ) ++ [F])
  fine : Fine P w0 J θ s

section
variable {P : Program} {w0 : World} {J J' : Hp} {θ θ' : Th} {n m : Nat} {v : Value} {chs chs' : List Ent}
theorem LV.one {x : LV} (h : x.ok P w0 J θ n) : (x.v θ).oneCell' = true := by
  cases x with
  | val v => exact h
  | nb b => rfl
  | rd h' t d => exact Rep.rd_one _ h.2 _ (by simp [LV.v])
  | own h' => exact h.2
  | ptr h' off => rfl
  | fn h' ps rs e => exact h.2.one
  | fz _ _ _ _ _ => rfl
  | fzf _ _ _ _ _ => rfl
theorem one_cells {v : Value} (h : v.oneCell' = true) : v.cells = [v].toArray := by cases v <;> first | rfl | cases h
/-- values that agree below n -/
def Same (n : Nat) (θ θ' : Th) : Prop := ∀ i, i < n → θ' i = θ i
theorem Same.upd : Same n θ (upd θ n v) := fun i hi => upd_ne (by omega)
theorem Same.rfl : Same n θ θ := fun i hi => Eq.refl _
theorem Same.trans {θ'' : Th} (h : Same n θ θ') (k : Same m θ' θ'') (hm : n ≤ m) : Same n θ θ'' := fun i hi => (k i (by omega)).trans (h i hi)
theorem hv_same (hs : Same n θ θ') {h : Hdr} (hn : h.id < n) : hv θ' h = hv θ h := by unfold hv; rw [hs _ hn]
theorem LV.v_same (hs : Same n θ θ') {x : LV} (h : x.ok P w0 J θ n) : x.v θ' = x.v θ := by
  cases x with
  | val _ => rfl
  | nb _ => rfl
  | rd h' t d => exact hv_same hs h.1
  | own h' => exact hv_same hs h.1
  | ptr h' off => show Value.pointer (some ⟨bk (hv θ' h'), off, none⟩) = _; rw [hv_same hs h]; rfl
  | fn h' ps rs e => exact hv_same hs h.1
  | fz h' T t d off => show Value.pointer (some ⟨bk (hv θ' h'), off, none⟩) = _; rw [hv_same hs h.1]; rfl
  | fzf h' T ps rs e => show Value.pointer (some ⟨bk (hv θ' h'), 0, none⟩) = _; rw [hv_same hs h.1]; rfl
theorem LV.ok_same (hs : Same n θ θ') (hm : n ≤ m) {x : LV} (h : x.ok P w0 J θ n) (hJ : J.le J') : x.ok P w0 J' θ' m := by
  cases x with
  | val _ => exact h
  | nb _ => trivial
  | rd h' t d => exact ⟨Nat.lt_of_lt_of_le h.1 hm, by rw [hv_same hs h.1]; exact Rep.rd_mono _ h.2 hJ⟩
  | own h' => exact ⟨Nat.lt_of_lt_of_le h.1 hm, by rw [hv_same hs h.1]; exact h.2⟩
  | ptr h' off => exact Nat.lt_of_lt_of_le h hm
  | fn h' ps rs e => exact ⟨Nat.lt_of_lt_of_le h.1 hm, by rw [hv_same hs h.1]; exact h.2.mono hJ⟩
  | fz h' T t d off =>
    obtain ⟨h1, cells, h2, h3⟩ := h
    exact ⟨Nat.lt_of_lt_of_le h1 hm, cells, by rw [hv_same hs h1]; exact hJ _ _ h2, Rep.rd_mono _ h3 hJ⟩
  | fzf h' T ps rs e =>
    obtain ⟨h1, u, h2, h3⟩ := h
    exact ⟨Nat.lt_of_lt_of_le h1 hm, u, by rw [hv_same hs h1]; exact hJ _ _ h2, h3.mono hJ⟩
theorem map_v_same (hs : Same n θ θ') {xs : List LV} (h : ∀ x ∈ xs, x.ok P w0 J θ n) : xs.map (·.v θ') = xs.map (·.v θ) := List.map_congr_left fun x hx => LV.v_same hs (h x hx)
theorem partV_same (hs : Same n θ θ') {y : Bool × List LV} (hy : ∀ x ∈ y.2, x.ok P w0 J θ n) : partV θ' y = partV θ y := by
  unfold partV
  rw [map_v_same hs hy]
  split
  · rfl
  · cases hl : y.2 with
    | nil => rfl
    | cons x l => exact LV.v_same hs (hy x (by rw [hl]; simp))
theorem AV.v_same (hs : Same n θ θ') {x : AV} (h : x.ok P w0 J θ n chs) : x.v θ' = x.v θ := by
  cases x with
  | one x => exact LV.v_same hs h
  | agg xs => show Value.agg _ = Value.agg _; rw [map_v_same hs h]
  | tup ys =>
    show Value.tuple _ = Value.tuple _
    congr 2
    refine List.map_congr_left fun y hy => ?_
    exact partV_same hs (h y hy)
  | elr h' E t xs x i off => show pt (hv θ' h') _ = _; rw [hv_same hs h.1]; rfl
  | elo h' ver E t xs x i off => show pt (hv θ' h') _ = _; rw [hv_same hs h.1]; rfl
  | any h' => exact hv_same hs h
  | und => rfl
/-- the entries are the same, or new -/
def Newer (n : Nat) (chs chs' : List Ent) : Prop := ∀ e, e ∈ chs' → ∀ h ver c, Says e h ver c → n ≤ ver ∨ ∃ e0, e0 ∈ chs ∧ Says e0 h ver c
theorem Newer.rfl : Newer n chs chs := fun e he h ver c hs => .inr ⟨e, he, hs⟩
theorem Mem.newer (hc : Newer n chs chs') (hm : n ≤ m) {h : Hdr} {ver : Nat} {c : Chk} (k : Mem chs n h ver c) : Mem chs' m h ver c :=
  ⟨Nat.lt_of_lt_of_le k.1 hm, fun e he c' hs => by
    rcases hc e he h ver c' hs with h1 | ⟨e0, h0, h1⟩
    · have := k.1; omega
    · exact k.2 e0 h0 c' h1⟩
theorem AV.ok_same (hs : Same n θ θ') (hm : n ≤ m) (hc : Newer n chs chs') {x : AV} (h : x.ok P w0 J θ n chs) (hJ : J.le J') : x.ok P w0 J' θ' m chs' := by
  cases x with
  | one x => exact LV.ok_same hs hm h hJ
  | agg xs => exact fun x hx => LV.ok_same hs hm (h x hx) hJ
  | tup ys => exact fun y hy x hx => LV.ok_same hs hm (h y hy x hx) hJ
  | elr h' E t xs x i off => exact ⟨Nat.lt_of_lt_of_le h.1 hm, h.2.1, by rw [hv_same hs h.1]; exact Rep.rd_mono _ h.2.2 hJ⟩
  | elo h' ver E t xs x i off => exact ⟨Nat.lt_of_lt_of_le h.1 hm, h.2.1, h.2.2.newer hc hm⟩
  | any h' => exact Nat.lt_of_lt_of_le h hm
  | und => trivial
theorem toCh_same (hs : Same n θ θ') {e : Ent} (h : okE P w0 J θ n chs e) : toCh P θ' e = toCh P θ e := by
  obtain ⟨k, ver, c⟩ := e
  cases c with
  | own t d => show Ch.own _ [hv θ' k] d = _; rw [hv_same hs h.1]; rfl
  | blk T cells => show Ch.blk (bk (hv θ' k)) (cells.map (·.v θ')) T = _; rw [hv_same hs h.1, map_v_same hs h.2.2]; rfl
  | hole over t d u y f i kk off lv => show Ch.gap _ [hv θ' k] _ f (ptB (hv θ' k)) (ptO (hv θ' k) + (i.toNat * kk + off)) (lv.v θ') = _; rw [hv_same hs h.1, LV.v_same hs h.2.2.1]; rfl
  | box T t d => show Ch.box (bk (hv θ' k)) T _ d = _; rw [hv_same hs h.1]; rfl
  | map K E kk e m => show @Ch.mp P K E kk.den e.den kk.dec kk.lit kk.ok e.lit e.z (hv θ' k) m = _; rw [hv_same hs h.1]; rfl
  | clo _ _ _ => rfl
theorem okE_same (hs : Same n θ θ') (hm : n ≤ m) (hc : Newer n chs chs') {e : Ent} (h : okE P w0 J θ n chs e) (hJ : J.le J') : okE P w0 J' θ' m chs' e := by
  obtain ⟨k, ver, c⟩ := e
  cases c with
  | own t d => exact ⟨Nat.lt_of_lt_of_le h.1 hm, Nat.lt_of_lt_of_le h.2.1 hm, trivial⟩
  | blk T cells => exact ⟨Nat.lt_of_lt_of_le h.1 hm, Nat.lt_of_lt_of_le h.2.1 hm, fun x hx => LV.ok_same hs hm (h.2.2 x hx) hJ⟩
  | hole over t d u y f i kk off lv => exact ⟨Nat.lt_of_lt_of_le h.1 hm, Nat.lt_of_lt_of_le h.2.1 hm, LV.ok_same hs hm h.2.2.1 hJ, h.2.2.2.1, h.2.2.2.2.1, fun l hl => (h.2.2.2.2.2 l hl).newer hc hm⟩
  | box T t d => exact ⟨Nat.lt_of_lt_of_le h.1 hm, Nat.lt_of_lt_of_le h.2.1 hm, trivial⟩
  | map K E kk e m => exact ⟨Nat.lt_of_lt_of_le h.1 hm, Nat.lt_of_lt_of_le h.2.1 hm, trivial⟩
  | clo f first capt =>
    obtain ⟨h1, h2, h3, h4, h5⟩ := h
    refine ⟨Nat.lt_of_lt_of_le h1 hm, Nat.lt_of_lt_of_le h2 hm, fun y hy x hx => LV.ok_same hs hm (h3 y hy x hx) hJ, fun x hx => LV.ok_same hs hm (h4 x hx) hJ, ?_⟩
    show hv θ' k = _
    rw [hv_same hs h1, map_v_same hs h4, List.map_congr_left fun y hy => partV_same hs (h3 y hy)]
    exact h5
theorem map_toCh_same (hs : Same n θ θ') {l : List Ent} (h : ∀ e ∈ l, okE P w0 J θ n chs e) : l.map (toCh P θ') = l.map (toCh P θ) := List.map_congr_left fun e he => toCh_same hs (h e he)
theorem envL_same (hs : Same n θ θ') {s : Sg} (h : ∀ e ∈ s.env, e.2.2.ok P w0 J θ n chs) : envL θ' s = envL θ s := List.map_congr_left fun e he => by rw [AV.v_same hs (h e he)]
end

/-! ### Operands -/
def look (l : List (Nat × Nat × AV)) (t : Nat) : Option AV := match l with
  | [] => none
  | (u, _, v) :: l => if Nat.beq u t then some v else look l t
def constAV (v : Value) : Option AV := match v.oneCell' with
  | true => some (.one (.val v))
  | false => none
def opd (s : Sg) : Operand → Option AV
  | .tmp t => look s.env t
  | .const v => constAV v
  | .func f => some (.one (.val (.func (.func f) #[] #[])))
  | .global _ => none
theorem look_mem {t : Nat} {v : AV} : ∀ {l : List (Nat × Nat × AV)}, look l t = some v → ∃ e ∈ l, e.2.2 = v
  | (u, k, x) :: l, h => by
    unfold look at h
    split at h
    · exact ⟨(u, k, x), by simp, Option.some.inj h⟩
    · obtain ⟨e, he, e'⟩ := look_mem h
      exact ⟨e, by simp [he], e'⟩
theorem look_envL {θ : Th} {t : Nat} {v : AV} : ∀ {l : List (Nat × Nat × AV)}, look l t = some v → (l.map fun e => (e.1, e.2.2.v θ)).lookup t = some (v.v θ)
  | (u, k, x) :: l, h => by
    unfold look at h
    rw [List.map_cons, List.lookup_cons]
    split at h
    · rename_i hu
      have : u = t := Nat.eq_of_beq_eq_true hu
      subst this
      simp [Option.some.inj h]
    · rename_i hu
      have hne : (t == u) = false := by
        simp only [beq_eq_false_iff_ne]; intro e; subst e; exact hu (Nat.beq_refl t)
      rw [show (t == (u, x.v θ).1) = false from hne]
      exact look_envL h
section
variable {P : Program} {w0 : World} {J : Hp} {θ : Th} {s : Sg} {x : Operand} {v : AV}
theorem constAV_ok {c : Value} (h : constAV c = some v) : c.oneCell' = true ∧ v = .one (.val c) := by
  unfold constAV at h
  split at h
  · exact ⟨by assumption, (Option.some.inj h).symm⟩
  · cases h
theorem opd_ok (hf : Fine P w0 J θ s) (h : opd s x = some v) : v.ok P w0 J θ s.nxt s.chs := by
  cases x with
  | tmp t => obtain ⟨e, he, rfl⟩ := look_mem h; exact hf.env e he
  | const c => obtain ⟨h1, rfl⟩ := constAV_ok h; exact h1
  | func f => rw [← Option.some.inj h]; exact Eq.refl true
  | global g => cases h
theorem opd_ev (h : opd s x = some v) : evL (envL θ s) x = v.v θ := by
  cases x with
  | tmp t =>
    have := look_envL (θ := θ) h
    show ((envL θ s).lookup t).getD undef = _
    rw [show (envL θ s).lookup t = _ from this]; rfl
  | const c => obtain ⟨h1, rfl⟩ := constAV_ok h; rfl
  | func f => rw [← Option.some.inj h]; rfl
  | global g => cases h
/-- all operands are known -/
def okO (n : Nat) (s : Sg) (o : Oper) : Bool := o.op.operands.toList.all (fun x => (opd s x).isSome || match x with | .global _ => true | _ => false) && dstOk n o.dst && noSelect o
theorem okO_ok {n : Nat} {o : Oper} (h : okO n s o = true) : (knowsAll (envL θ s) o && dstOk n o.dst && noSelect o) = true := by
  unfold okO at h
  rw [Bool.and_eq_true, Bool.and_eq_true] at h
  rw [Bool.and_eq_true, Bool.and_eq_true]
  refine ⟨⟨List.all_eq_true.2 fun x hx => ?_, h.1.2⟩, h.2⟩
  have hx := List.all_eq_true.1 h.1.1 x hx
  cases x with
  | tmp t =>
    simp only [Bool.or_false] at hx
    obtain ⟨v, hv⟩ := Option.isSome_iff_exists.1 hx
    have := look_envL (θ := θ) (show look s.env t = some v from hv)
    show ((envL θ s).lookup t).isSome = true
    rw [show (envL θ s).lookup t = _ from this]; rfl
  | const c => rfl
  | func f => rfl
  | global g => rfl
end
end Go.Proofs.Ytfkocnnphjkmfaa.R
