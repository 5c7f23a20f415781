/- Operations on memory of the function's own: blocks, rows, parts taken out of rows. No program text is named here. -/
import Derived.Test.YtfkocnnphjkmfaaRC
set_option linter.unusedVariables false
set_option linter.unusedSimpArgs false
set_option linter.unnecessarySimpa false
set_option linter.unusedSectionVars false
namespace Go.Proofs.Ytfkocnnphjkmfaa.R
open Go.RowKit
open Go.Proofs.Ytfkocnnphjkmfaa.D

/-! ### Entries by their headers -/
def pull (h : Hdr) : List Ent → Option (Ent × List Ent)
  | [] => none
  | e :: l => if Hdr.beq e.1 h then some (e, l) else (pull h l).bind fun r => some (r.1, e :: r.2)
theorem pull_ok {h : Hdr} : ∀ {l : List Ent} {r : Ent × List Ent}, pull h l = some r → l.Perm (r.1 :: r.2) ∧ r.1.1 = h
  | [], r, e => by cases e
  | x :: l, r, e => by
    unfold pull at e
    split at e
    · rename_i hx
      obtain rfl := Option.some.inj e
      exact ⟨List.Perm.refl _, Hdr.beq_eq hx⟩
    · obtain ⟨q, hq, e⟩ := bind_some e
      obtain rfl := Option.some.inj e
      obtain ⟨p, k⟩ := pull_ok hq
      exact ⟨(p.cons x).trans (List.Perm.swap _ _ _), k⟩
/-- no other entry with this header -/
def noHdr (h : Hdr) (l : List Ent) : Bool := l.all fun e => !(Hdr.beq e.1 h)
theorem beqL_refl : ∀ l : List Nat, beqL l l = true
  | [] => rfl
  | a :: l => by show (Nat.beq a a && beqL l l) = true; rw [Nat.beq_refl, beqL_refl l]; rfl
theorem noHdr_ok {h : Hdr} {l : List Ent} (k : noHdr h l = true) {e : Ent} (he : e ∈ l) : e.1 ≠ h := by
  intro e1
  have := (List.all_eq_true.1 k) e he
  rw [e1] at this
  unfold Hdr.beq at this
  rw [Nat.beq_refl, beqL_refl] at this
  cases this
/-- an owned row -/
structure Row where
  ver : Nat
  E : TypeId
  t : Ty
  xs : List t.den
  rest : List Ent
def rowOf (h : Hdr) (chs : List Ent) : Option Row := (pull h chs).bind fun r => match r.1.2.2 with
  | .own (.sl E t) xs => chkT (noHdr h r.2) (some ⟨r.1.2.1, E, t, xs, r.2⟩)
  | _ => none
def Row.ent (r : Row) (h : Hdr) : Ent := (h, r.ver, .own (.sl r.E r.t) r.xs)
theorem rowOf_ok {h : Hdr} {chs : List Ent} {r : Row} (e : rowOf h chs = some r) : chs.Perm (r.ent h :: r.rest) ∧ ∀ e ∈ r.rest, e.1 ≠ h := by
  obtain ⟨q, hq, e⟩ := bind_some e
  obtain ⟨p, k⟩ := pull_ok hq
  obtain ⟨⟨h', ver, c⟩, rest⟩ := q
  obtain rfl : h' = h := k
  cases c with
  | own t' d =>
    cases t' with
    | sl E t =>
      obtain ⟨hn, e⟩ := chkT_ok (show chkT (noHdr h' rest) _ = some r from e)
      obtain rfl := Option.some.inj e
      exact ⟨p, fun e he => noHdr_ok hn he⟩
    | _ => cases e
  | _ => cases e
theorem rowOf_mem {h : Hdr} {chs : List Ent} {r : Row} (e : rowOf h chs = some r) {n : Nat} (hv : r.ver < n) : Mem chs n h r.ver (.own (.sl r.E r.t) r.xs) := by
  obtain ⟨p, k⟩ := rowOf_ok e
  refine ⟨hv, fun x hx c hs => ?_⟩
  rcases List.mem_cons.1 (p.mem_iff.1 hx) with rfl | hx
  · rcases hs.2 with h1 | h1
    · exact h1.2
    · exact h1.elim
  · exact absurd hs.1 (k x hx)
/-- a block -/
structure Blk where
  ver : Nat
  T : TypeId
  cells : List LV
  rest : List Ent
def blkOf (h : Hdr) (chs : List Ent) : Option Blk := (pull h chs).bind fun r => match r.1.2.2 with
  | .blk T cells => some ⟨r.1.2.1, T, cells, r.2⟩
  | _ => none
def Blk.ent (r : Blk) (h : Hdr) : Ent := (h, r.ver, .blk r.T r.cells)
theorem blkOf_ok {h : Hdr} {chs : List Ent} {r : Blk} (e : blkOf h chs = some r) : chs.Perm (r.ent h :: r.rest) := by
  obtain ⟨q, hq, e⟩ := bind_some e
  obtain ⟨p, k⟩ := pull_ok hq
  obtain ⟨⟨h', ver, c⟩, rest⟩ := q
  obtain rfl : h' = h := k
  cases c with
  | blk T cells =>
    obtain rfl := Option.some.inj (show some _ = some r from e)
    exact p
  | _ => cases e

/-! ### Cells -/
def avCells : AV → Option (List LV)
  | .one x => some [x]
  | .agg xs => some xs
  | _ => none
theorem avCells_ok {v : AV} {cs : List LV} (h : avCells v = some cs) {P : Program} {w0 : World} {J : Hp} {θ : Th} {n : Nat} {chs : List Ent} (hv : v.ok P w0 J θ n chs) : (∀ x ∈ cs, x.ok P w0 J θ n) ∧ (v.v θ).cells = (cs.map (·.v θ)).toArray := by
  unfold avCells at h
  split at h
  · obtain rfl := Option.some.inj h
    exact ⟨fun x hx => by obtain rfl := List.mem_singleton.1 hx; exact hv, one_cells (LV.one (show LV.ok P w0 J θ n _ from hv))⟩
  · obtain rfl := Option.some.inj h
    exact ⟨hv, rfl⟩
  · cases h
theorem all_one {P : Program} {w0 : World} {J : Hp} {θ : Th} {n : Nat} {cs : List LV} (h : ∀ x ∈ cs, x.ok P w0 J θ n) : (cs.map (·.v θ)).all (·.oneCell') = true := List.all_eq_true.2 fun v hv => by
  obtain ⟨x, hx, rfl⟩ := List.mem_map.1 hv
  exact LV.one (h x hx)
/-- data that lie in cells, read -/
def lvInt (k : IntKind) : LV → Option Int
  | .val (.int k' n) => if k' = k then some n else none
  | _ => none
def lvBool : LV → Option Bool
  | .val (.bool b) => some b
  | .nb b => some (!b)
  | _ => none
def lvStr : LV → Option ByteArray
  | .val (.string b) => some b
  | _ => none
def isNil : Value → Bool
  | .slice none 0 0 => true
  | _ => false
theorem isNil_ok {v : Value} (h : isNil v = true) : v = .slice none 0 0 := by
  unfold isNil at h
  split at h
  · rfl
  · cases h
def lvSl (E : TypeId) (t : Ty) : LV → Option (List t.den)
  | .rd _ t' d => castTy t' (.sl E t) d
  | .val v => chkT (isNil v) (some [])
  | _ => none
def hd1 {α : Type} (f : LV → Option α) : List LV → Option (α × List LV)
  | x :: r => (f x).bind fun d => some (d, r)
  | [] => none
def rdData : (t : Ty) → List LV → Option (t.den × List LV)
  | .int k, l => hd1 (lvInt k) l
  | .bool, l => hd1 lvBool l
  | .str, l => hd1 lvStr l
  | .prod a b, l => (rdData a l).bind fun x => (rdData b x.2).bind fun y => some ((x.1, y.1), y.2)
  | .sl E t, l => hd1 (lvSl E t) l
  | .fro t, l => rdData t l
  | .wr t, l => rdData t l
theorem lvInt_ok {k : IntKind} {x : LV} {n : Int} (h : lvInt k x = some n) (θ : Th) : x.v θ = .int k n := by
  unfold lvInt at h
  split at h
  · split at h
    · rename_i hk
      subst hk
      obtain rfl := Option.some.inj h
      rfl
    · cases h
  · cases h
theorem lvBool_ok {x : LV} {n : Bool} (h : lvBool x = some n) (θ : Th) : x.v θ = .bool n := by
  unfold lvBool at h
  split at h
  · obtain rfl := Option.some.inj h; rfl
  · obtain rfl := Option.some.inj h; rfl
  · cases h
theorem lvStr_ok {x : LV} {n : ByteArray} (h : lvStr x = some n) (θ : Th) : x.v θ = .string n := by
  unfold lvStr at h
  split at h
  · obtain rfl := Option.some.inj h; rfl
  · cases h
theorem lvSl_ok {E : TypeId} {t : Ty} {x : LV} {d : List t.den} (h : lvSl E t x = some d) {P : Program} {w0 : World} {J : Hp} {θ : Th} {n : Nat} (hx : x.ok P w0 J θ n) : (Ty.sl E t).rep.rd J [x.v θ] d := by
  cases x with
  | rd h' t' d' => exact castTy_rd (show castTy t' (.sl E t) d' = some d from h) hx.2
  | val v =>
    obtain ⟨h1, h⟩ := chkT_ok (show chkT (isNil v) (some []) = some d from h)
    obtain rfl := Option.some.inj h
    show (Ty.sl E t).rep.rd J [v] []
    rw [isNil_ok h1]
    exact rd_nil
  | _ => cases h
theorem hd1_ok {α : Type} {f : LV → Option α} {cs : List LV} {r : α × List LV} (h : hd1 f cs = some r) : ∃ x, cs = x :: r.2 ∧ f x = some r.1 := by
  cases cs with
  | nil => cases h
  | cons x l =>
    obtain ⟨d, hd, h⟩ := bind_some (show (f x).bind _ = some r from h)
    obtain rfl := Option.some.inj h
    exact ⟨x, rfl, hd⟩
theorem rdData_ok {P : Program} {w0 : World} {J : Hp} {θ : Th} {n : Nat} : ∀ {t : Ty} {cs : List LV} {r : t.den × List LV}, rdData t cs = some r → (∀ x ∈ cs, x.ok P w0 J θ n) → ∃ c1, cs = c1 ++ r.2 ∧ t.rep.rd J (c1.map (·.v θ)) r.1 := by
  intro t
  induction t with
  | int k =>
    intro cs r h hc
    obtain ⟨x, rfl, hx⟩ := hd1_ok (show hd1 _ _ = some r from h)
    exact ⟨[x], rfl, congrArg (fun v => [v]) (lvInt_ok hx θ)⟩
  | bool =>
    intro cs r h hc
    obtain ⟨x, rfl, hx⟩ := hd1_ok (show hd1 _ _ = some r from h)
    exact ⟨[x], rfl, congrArg (fun v => [v]) (lvBool_ok hx θ)⟩
  | str =>
    intro cs r h hc
    obtain ⟨x, rfl, hx⟩ := hd1_ok (show hd1 _ _ = some r from h)
    exact ⟨[x], rfl, congrArg (fun v => [v]) (lvStr_ok hx θ)⟩
  | prod a b iha ihb =>
    intro cs r h hc
    obtain ⟨x, hx, h⟩ := bind_some (show (rdData a cs).bind _ = some r from h)
    obtain ⟨y, hy, h⟩ := bind_some h
    obtain rfl := Option.some.inj h
    obtain ⟨c1, rfl, k1⟩ := iha hx hc
    obtain ⟨c2, e2, k2⟩ := ihb hy fun z hz => hc z (List.mem_append_right _ hz)
    exact ⟨c1 ++ c2, by rw [e2, List.append_assoc], c1.map (·.v θ), c2.map (·.v θ), by rw [List.map_append], k1, k2⟩
  | sl E t ih =>
    intro cs r h hc
    obtain ⟨x, rfl, hx⟩ := hd1_ok (show hd1 _ _ = some r from h)
    exact ⟨[x], rfl, lvSl_ok hx (hc x (by simp))⟩
  | fro t ih =>
    intro cs r h hc
    exact ih (show rdData t cs = some r from h) hc
  | wr t ih =>
    intro cs r h hc
    exact ih (show rdData t cs = some r from h) hc
end Go.Proofs.Ytfkocnnphjkmfaa.R
