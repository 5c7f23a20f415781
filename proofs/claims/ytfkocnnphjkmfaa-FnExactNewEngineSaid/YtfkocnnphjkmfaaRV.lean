/- Types: how the entries of a table are laid. No program text is named here. -/
import Derived.Test.YtfkocnnphjkmfaaRB
set_option linter.unusedVariables false
set_option linter.unusedSimpArgs false
namespace Go.Proofs.Ytfkocnnphjkmfaa.R
open Go.RowKit
open Go.Proofs.Ytfkocnnphjkmfaa.D

def FldAll (P : Program) (T : TypeId) : Nat → List (Nat × Nat) → Prop
  | _, [] => True
  | i, q :: l => TF P T i q.1 q.2 ∧ FldAll P T (i + 1) l
theorem FldAll.get {P : Program} {T : TypeId} : ∀ {l : List (Nat × Nat)} {i : Nat}, FldAll P T i l → ∀ f q, l[f]? = some q → TF P T (i + f) q.1 q.2
  | [], _, _, f, q, h => by simp at h
  | x :: l, i, ⟨h1, h2⟩, f, q, h => by
    cases f with
    | zero => simp at h; subst h; exact h1
    | succ f =>
      have := FldAll.get h2 f q (by simpa using h)
      rwa [show i + 1 + f = i + (f + 1) from by omega] at this
section
variable {P : Program} {T : TypeId}
/-- a plain type -/
theorem td_flat {n b : Nat} {ty : Ty} {z : Value} {boo : Bool} (h1 : TI P T false 1) (h2 : ty.size = 1) (h3 : TZ P T z 1 b) (h4 : z.cells = (zeroCells ty).toArray) (h5 : 1 ≤ b) (h6 : boo = true → P.underlying T = some .bool) : TDok P T ⟨false, 1, none, ty, [], some b, none, boo, none⟩ :=
  ⟨h1, rfl, h2, fun E h => by simp at h, fun f q h => by simp at h, fun b' h => by obtain rfl := Option.some.inj h; exact ⟨z, h3, h4, h5⟩, fun pl h => by simp at h, h6, fun ks h => by cases h⟩
theorem td_sl {E : TypeId} {t : Ty} (h1 : TI P T false 1) (h2 : P.underlying T = some (.slice E)) (h3 : TZ P T (.slice none 0 0) 1 24) : TDok P T ⟨false, 1, some E, .sl E t, [], some 24, none, false, none⟩ :=
  ⟨h1, rfl, rfl, fun E' h => by obtain rfl := Option.some.inj h; exact h2, fun f q h => by simp at h, fun b' h => by obtain rfl := Option.some.inj h; exact ⟨_, h3, rfl, by decide⟩, fun pl h => by simp at h, (fun h => by cases h), fun ks h => by cases h⟩
theorem td_st {n b : Nat} {ty : Ty} {fs pl : List (Nat × Nat)} {z : Value} {eq : Option (List (Option IntKind))} (h1 : TI P T true n) (h2 : ty.size = n) (h3 : FldAll P T 0 fs) (h4 : TZ P T z n b) (h5 : z.cells = (zeroCells ty).toArray) (h6 : 1 ≤ b) (h7 : TB P T pl) (h8 : ∀ ks, eq = some ks → ∀ w, Curq ks fun xs ys r => EqT P T (.agg xs.toArray) (.agg ys.toArray) r w) : TDok P T ⟨true, n, none, ty, fs, some b, some pl, false, eq⟩ :=
  ⟨h1, rfl, h2, fun E h => by simp at h, fun f q h => by have := h3.get f q h; rwa [Nat.zero_add] at this, fun b' h => by obtain rfl := Option.some.inj h; exact ⟨z, h4, h5, h6⟩, fun pl' h => by obtain rfl := Option.some.inj h; exact h7, (fun h => by cases h), h8⟩
end
end Go.Proofs.Ytfkocnnphjkmfaa.R
