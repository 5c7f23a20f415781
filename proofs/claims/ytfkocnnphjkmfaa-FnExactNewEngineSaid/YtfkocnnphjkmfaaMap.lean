/- Maps of a call's own, with values of type int: a chunk that reads as an association list. No program text is named here. -/
import Derived.Test.YtfkocnnphjkmfaaBorrow
import Derived.Maps.OwnSet
import Derived.DeepKeys4
set_option linter.unusedVariables false
set_option linter.unusedSimpArgs false
set_option linter.unnecessarySimpa false
namespace Go.Proofs.Ytfkocnnphjkmfaa.D
open Go.RowKit

/-- what the entries of a map say, newest first; keys that are 'ok' only -/
def Reads {κ ε : Type} [DecidableEq κ] (lit : κ → Lit) (ok : κ → Bool) (elit : ε → Lit) (z : ε) (D : DataW Unit) (M : List (κ × ε)) : Prop :=
  Maps.IsMap D ∧ ∀ x, ok x = true → Maps.has D (lit x) = (M.lookup x).isSome ∧ D.atKey (lit x) (.lit (elit z)) = .lit (elit ((M.lookup x).getD z))
/-- what a map has at a key -/
def lkM {κ ε : Type} [DecidableEq κ] (M : List (κ × ε)) (x : κ) : Option ε := M.lookup x
/-- keys of the type k -/
structure KeyOk (P : Program) (k : TypeId) {κ : Type} [DecidableEq κ] (val : κ → Value) (lit : κ → Lit) (ok : κ → Bool) : Prop where
  keyed : Maps.Keyed P k
  inj : ∀ x y, val x = val y → x = y
  key : ∀ x, ok x = true → keyOf P k (val x) = some (lit x)
theorem KeyOk.linj {P : Program} {k : TypeId} {κ : Type} [DecidableEq κ] {val : κ → Value} {lit : κ → Lit} {ok : κ → Bool} (K : KeyOk P k val lit ok) {x y : κ} (hx : ok x = true) (hy : ok y = true) (h : lit x = lit y) : x = y :=
  K.inj _ _ (K.keyed.inj (K.key x hx) (by rw [h]; exact K.key y hy))
theorem KeyOk.isKey {P : Program} {k : TypeId} {κ : Type} [DecidableEq κ] {val : κ → Value} {lit : κ → Lit} {ok : κ → Bool} (K : KeyOk P k val lit ok) {x : κ} (hx : ok x = true) : WideAt.IsKeyLit (lit x) := K.keyed.key (K.key x hx)
/-- values of the type e -/
structure EltOk (P : Program) (e : TypeId) {ε : Type} (enc : ε → Value) (elit : ε → Lit) (eok : ε → Bool) (z : ε) : Prop where
  plain : ∀ i, eok i = true → plainElem (H := Unit) P e (enc i) = some (.lit (elit i), [])
  inv : ∀ v y ps, plainElem (H := Unit) P e v = some (.lit (elit y), ps) → v = enc y
  zero : ∀ w, (zeroValue e).run P w = .ok (enc z) w
  zok : eok z = true
def Ch.mp (P : Program) (k e : TypeId) {κ ε : Type} [DecidableEq κ] (lit : κ → Lit) (ok : κ → Bool) (elit : ε → Lit) (z : ε) (v : Value) (M : List (κ × ε)) : Ch where
  holds I w F := ∃ b, v = .map (some b) ∧ F = [b] ∧ ∃ n D, w.ownsMap P k (plainElem P e) b n D ∧ n ≤ M.length ∧ Reads lit ok elit z D M
  mono h _ := h
  stay := by
    rintro I w w' F ⟨b, rfl, rfl, n, D, ⟨es, clock, hb, h⟩, h2⟩ hw
    exact ⟨b, rfl, rfl, n, D, ⟨es, clock, by rw [hw b (by simp)]; exact hb, h⟩, h2⟩
  live := by
    rintro I w F ⟨b, rfl, rfl, n, D, h, h2⟩ b' hb
    simp at hb; subst hb; exact h.lt
def iEnc (n : Int) : Value := .int .i64 n
def iLit (n : Int) : Lit := .int .i64 n
def iOk (n : Int) : Bool := (Lit.int .i64 n).wf
def bLit (b : Bool) : Lit := .bool b
def bOk (b : Bool) : Bool := true
theorem kk_int {P : Program} {k : TypeId} (h : P.underlying k = some (.int .i64)) : KeyOk P k (fun n : Int => Value.int .i64 n) iLit iOk := ⟨Maps.int_keyed h, fun x y h => by simpa using h, fun x hx => Maps.keyOf_int_mk h hx⟩
theorem ek_int {P : Program} {e : TypeId} (h : P.underlying e = some (.int .i64)) (hz : ∀ w, (zeroValue e).run P w = .ok (.int .i64 0) w) : EltOk P e (fun n : Int => Value.int .i64 n) iLit iOk 0 :=
  ⟨fun i hi => plainElem_int h hi, fun v y ps hp => by
    obtain ⟨a, rfl, e, -⟩ := plainElem_int_inv h hp
    have : y = a := by simpa [iLit] using congrArg Prod.fst e
    rw [this], hz, by decide⟩
theorem ek_bool {P : Program} {e : TypeId} (h : P.underlying e = some .bool) (hz : ∀ w, (zeroValue e).run P w = .ok (.bool false) w) : EltOk P e (fun n : Bool => Value.bool n) bLit bOk false :=
  ⟨fun i _ => plainElem_bool h i, fun v y ps hp => by
    unfold plainElem at hp
    cases v <;> simp [h, mapKey, bLit] at hp
    rw [hp.1], hz, rfl⟩
def iiLit (x : Int × Int) : Lit := .string (keyBytes [.int .i64 x.1, .int .i64 x.2])
def iiOk (x : Int × Int) : Bool := (Lit.int .i64 x.1).wf && (Lit.int .i64 x.2).wf
def KII (P : Program) (k : TypeId) : Prop := ∃ f0 f1, P.underlying k = some (.struct #[f0, f1]) ∧ (f0.name != "_" && f1.name != "_") = true ∧ f0.offset = 0 ∧ f1.offset = 1 ∧ P.underlying f0.type = some (.int .i64) ∧ P.underlying f1.type = some (.int .i64) ∧ P.cellsOf f0.type = 1 ∧ P.cellsOf f1.type = 1 ∧ P.cellsOf k = 2 ∧ P.keyType k = true ∧ ∃ m, P.types.size = m + 1
theorem kk_ii {P : Program} {k : TypeId} (h : KII P k) (K : WideMaps.KeyLaw P k) : KeyOk P k (fun x : Int × Int => Value.agg #[.int .i64 x.1, .int .i64 x.2]) iiLit iiOk := by
  refine ⟨Maps.Keyed.of_law K, fun x y h => ?_, fun x hx => ?_⟩
  · have h1 : x.1 = y.1 ∧ x.2 = y.2 := by simpa using h
    exact Prod.ext h1.1 h1.2
  · obtain ⟨f0, f1, hk, hn, o0, o1, u0, u1, c0, c1, ck, ht, m, hm⟩ := h
    simp only [iiOk, Bool.and_eq_true] at hx hn
    obtain ⟨hx1, hx2⟩ := hx
    have e0 : P.keyLits (m + 1) f0.type [.int .i64 x.1] = some [.int .i64 x.1] := by simp [Program.keyLits, u0, hx1]
    have e1 : P.keyLits (m + 1) f1.type [.int .i64 x.2] = some [.int .i64 x.2] := by simp [Program.keyLits, u1, hx2]
    have hkl : P.keyLits (P.types.size + 1) k [.int .i64 x.1, .int .i64 x.2] = some [.int .i64 x.1, .int .i64 x.2] := by
      rw [hm]; unfold Program.keyLits
      simp [hk, ck, hn.1, hn.2, o0, o1, c0, c1, e0, e1]
    have hf : (Value.agg #[.int .i64 x.1, .int .i64 x.2]).formed P k = true := by simp [Value.formed, hk, ck]
    unfold keyOf
    rw [hk]
    simp only [ht, hf, Bool.and_self, if_true]
    have : (Value.agg #[.int .i64 x.1, .int .i64 x.2]).cells.toList = [.int .i64 x.1, .int .i64 x.2] := rfl
    rw [this, hkl]; rfl
section
variable {P : Program} {I J : Hp} {w0 w w' : World} {cs C : List Ch} {n : Nat} {a : Act} {L L' : List (Nat × Value)} {o : Oper} {ev : Operand → Value}
variable {κ ε : Type} [DecidableEq κ] {lit : κ → Lit} {val : κ → Value} {ok : κ → Bool} {enc : ε → Value} {elit : ε → Lit} {eok : ε → Bool} {z : ε}
theorem reads_nil : Reads lit ok elit z (.map []) ([] : List (κ × ε)) := ⟨Maps.isMap_empty, fun x _ => ⟨rfl, rfl⟩⟩
theorem Reads.put {k : TypeId} (K : KeyOk P k val lit ok) {D : DataW Unit} {M : List (κ × ε)} (h : Reads lit ok elit z D M) (x : κ) (hx : ok x = true) (i : ε) : Reads lit ok elit z (D.put (lit x) (.lit (elit i))) ((x, i) :: M) := by
  refine ⟨h.1.put _ _, fun y hy => ?_⟩
  by_cases e : y = x
  · subst e
    rw [List.lookup_cons_self]
    exact ⟨Maps.has_put_same h.1 (K.isKey hy) _, Maps.atKey_put_same h.1 (K.isKey hy) _ _⟩
  · have hne : lit y ≠ lit x := fun h => e (K.linj hy hx h)
    rw [List.lookup_cons, show (y == x) = false from by simp [e]]
    exact ⟨by rw [Maps.has_put_other hne]; exact (h.2 y hy).1, by rw [Maps.atKey_put_other hne]; exact (h.2 y hy).2⟩
theorem opT_makeMap {t k e : TypeId} (ho : o.op = .makeMap t none) : OpT P I w0 o ev [] (fun _ => True) (fun v => [Ch.mp P k e lit ok elit z v []]) := by
  intro w C hs
  have hr : (execOp ev o).run P w = .ok (.value (.map (some w.heap.size))) (w.alloc (.map #[] 0)) := by
    simp only [execOp, ho]; rfl
  rw [hr]
  refine ⟨trivial, ?_⟩
  refine St.step (w := w) (c := []) (c' := [Ch.mp P k e lit ok elit z (.map (some w.heap.size)) []]) (w' := w.alloc (.map #[] 0)) hs rfl rfl rfl (by simp) ?_
  rintro F rfl - -
  refine ⟨fun b hb _ => ?_, [w.heap.size], ⟨[w.heap.size], [], rfl, ⟨_, rfl, rfl, 0, .map [], World.ownsMap_made _ _ _ _, Nat.le_refl _, reads_nil⟩, rfl⟩, by simp, by simp⟩
  show (w.heap.push _)[b]? = _
  rw [Array.getElem?_push_lt hb, Array.getElem?_eq_getElem hb]
/-- a map with one entry more, as far as memory goes -/
def putM (M : List (κ × ε)) (ok : κ → Bool) (eok : ε → Bool) (x : κ) (i : ε) : Option (List (κ × ε)) := if M.length < 9223372036854775807 ∧ ok x = true ∧ eok i = true then some ((x, i) :: M) else none
theorem opT_putMap {t k e : TypeId} {m x y : Operand} {v : Value} {q : κ} {i : ε} {M M' : List (κ × ε)} (K : KeyOk P k val lit ok) (E : EltOk P e enc elit eok z) (ht : P.underlying t = some (.map k e))
    (ho : o.op = .mapUpdate t m x y ∨ o.op = .insert t m x y) (hm : ev m = v) (hx : ev x = val q) (hy : ev y = enc i) (h : putM M ok eok q i = some M') :
    OpT P I w0 o ev [Ch.mp P k e lit ok elit z v M] (fun _ => True) (fun _ => [Ch.mp P k e lit ok elit z v M']) := by
  unfold putM at h
  split at h
  case isFalse => cases h
  rename_i hh
  obtain rfl := Option.some.inj h
  intro w C hs
  obtain ⟨h1, h2, F, ⟨G, G', rfl, ⟨b, rfl, rfl, n, D, hown, hn, hR⟩, e2⟩, h4, h5⟩ := hs
  obtain ⟨w', hrun, g1, g2⟩ := hown.update K.keyed ht (by unfold maxLen; omega) (K.key q hh.2.1) (E.plain i hh.2.2)
  have hb : b ∉ G' := by simpa using (List.nodup_cons.1 h4).1
  have hr : (execOp ev o).run P w = .ok .skip w' := by
    rcases ho with ho | ho
    · simp only [execOp, ho, hm, hx, hy, Sem.run_bind, hrun, Result.andThen_ok]; rfl
    · simp only [execOp, ho, hm, hx, hy, Sem.run_bind, hrun, Result.andThen_ok]; rfl
  rw [hr]
  refine ⟨trivial, ⟨g2.os.trans h1.1, g2.tape.trans h1.2.1, g2.output.trans h1.2.2.1, Nat.le_trans h1.2.2.2 g2.size⟩, fun c o hc => ?_, [b] ++ G', ⟨[b], G', rfl, ⟨b, rfl, rfl, n + 1, _, g1, by simpa using hn, hR.put K q hh.2.1 i⟩, e2.stay fun c hc => ?_⟩, h4, h5⟩
  · have hne : c ≠ b := fun e => by rw [e, h5 b (by simp)] at hc; cases hc
    have := h2 c o hc
    have hlt : c < w.heap.size := (Array.getElem?_eq_some_iff.1 this).1
    show w'.heap[c]? = some o
    rw [g2.block c hlt (fun e => hne (Option.some.inj e))]; exact this
  · exact g2.block c (e2.live c hc) (fun e => hb (Option.some.inj e ▸ hc))
theorem run_look {t k e : TypeId} {b n : Nat} {D : DataW Unit} {q : κ} {M : List (κ × ε)} (K : KeyOk P k val lit ok) (E : EltOk P e enc elit eok z) (ht : P.underlying t = some (.map k e)) (hq : ok q = true) (hown : w.ownsMap P k (plainElem P e) b n D) (hR : Reads lit ok elit z D M) :
    (Instr.lookup t (.map (some b)) (val q) true).run P w = .ok (.tuple #[enc ((M.lookup q).getD z), .bool (M.lookup q).isSome]) w := by
  obtain ⟨u, ps, hrun, hu⟩ := hown.look_ok K.keyed ht (E.zero w) (E.plain z E.zok) (K.key q hq)
  obtain ⟨r1, r2⟩ := hR.2 q hq
  rw [r2] at hu
  obtain rfl := E.inv _ _ _ hu
  rw [hrun, r1]
theorem opT_lookMap {t k e : TypeId} {m x : Operand} {v : Value} {q : κ} {M : List (κ × ε)} (K : KeyOk P k val lit ok) (E : EltOk P e enc elit eok z) (hq : ok q = true) (ht : P.underlying t = some (.map k e))
    (ho : o.op = .lookup t m x true) (hm : ev m = v) (hx : ev x = val q) :
    OpT P I w0 o ev [Ch.mp P k e lit ok elit z v M] (· = .tuple #[enc ((M.lookup q).getD z), .bool (M.lookup q).isSome]) (fun _ => [Ch.mp P k e lit ok elit z v M]) := by
  intro w C hs
  have hs' := hs
  obtain ⟨h1, h2, F, ⟨G, G', rfl, ⟨b, rfl, rfl, n, D, hown, hn, hR⟩, e2⟩, h4, h5⟩ := hs
  have hrun := run_look K E ht hq hown hR
  have hr : (execOp ev o).run P w = .ok (.value (.tuple #[enc ((M.lookup q).getD z), .bool (M.lookup q).isSome])) w := by
    simp only [execOp, ho, hm, hx, Sem.run_bind, hrun, Result.andThen_ok]; rfl
  rw [hr]
  exact ⟨rfl, hs'⟩
/-- without the second result -/
theorem opT_lookMap1 {t k e : TypeId} {m x : Operand} {v : Value} {q : κ} {M : List (κ × ε)} (K : KeyOk P k val lit ok) (E : EltOk P e enc elit eok z) (hq : ok q = true) (ht : P.underlying t = some (.map k e))
    (ho : o.op = .lookup t m x false) (hm : ev m = v) (hx : ev x = val q) :
    OpT P I w0 o ev [Ch.mp P k e lit ok elit z v M] (· = enc ((M.lookup q).getD z)) (fun _ => [Ch.mp P k e lit ok elit z v M]) := by
  intro w C hs
  have hs' := hs
  obtain ⟨h1, h2, F, ⟨G, G', rfl, ⟨b, rfl, rfl, n, D, hown, hn, hR⟩, e2⟩, h4, h5⟩ := hs
  obtain ⟨u, ps, hrun, hu⟩ := hown.lookup K.keyed ht (E.zero w) (E.plain z E.zok) (K.key q hq)
  obtain ⟨r1, r2⟩ := hR.2 q hq
  rw [r2] at hu
  obtain rfl := E.inv _ _ _ hu
  have hr : (execOp ev o).run P w = .ok (.value (enc ((M.lookup q).getD z))) w := by
    simp only [execOp, ho, hm, hx, Sem.run_bind, hrun, Result.andThen_ok]; rfl
  rw [hr]
  exact ⟨rfl, hs'⟩
end
/-! ### Unsigned words, conversions of ints -/
section
variable {P : Program} {I J : Hp} {w0 w w' : World} {o : Oper} {ev : Operand → Value}
theorem opU_add {x y : Operand} {t u : TypeId} {m n : Int} (ho : o.op = .binOp .add t x y u) (hx : ev x = .int .u64 m) (hy : ev y = .int .u64 n) : OpT P I w0 o ev [] (· = .int .u64 (IntKind.u64.wrap (m + n))) (fun _ => []) :=
  opT_val fun w => by simp only [execOp, ho, hx, hy]; rfl
theorem opU_sub {x y : Operand} {t u : TypeId} {m n : Int} (ho : o.op = .binOp .sub t x y u) (hx : ev x = .int .u64 m) (hy : ev y = .int .u64 n) : OpT P I w0 o ev [] (· = .int .u64 (IntKind.u64.wrap (m - n))) (fun _ => []) :=
  opT_val fun w => by simp only [execOp, ho, hx, hy]; rfl
theorem opU_mul {x y : Operand} {t u : TypeId} {m n : Int} (ho : o.op = .binOp .mul t x y u) (hx : ev x = .int .u64 m) (hy : ev y = .int .u64 n) : OpT P I w0 o ev [] (· = .int .u64 (IntKind.u64.wrap (m * n))) (fun _ => []) :=
  opT_val fun w => by simp only [execOp, ho, hx, hy]; rfl
def andU (m n : Int) : Int := bits .and .u64 m n
theorem opU_and {x y : Operand} {t u : TypeId} {m n : Int} (ho : o.op = .binOp .and t x y u) (hx : ev x = .int .u64 m) (hy : ev y = .int .u64 n) : OpT P I w0 o ev [] (· = .int .u64 (andU m n)) (fun _ => []) :=
  opT_val fun w => by simp only [execOp, ho, hx, hy]; rfl
theorem opU_shr {x y : Operand} {t u : TypeId} {m n : Int} (ho : o.op = .binOp .shr t x y u) (hx : ev x = .int .u64 m) (hy : ev y = .int .u64 n) (h0 : 0 ≤ n) : OpT P I w0 o ev [] (· = .int .u64 (shrI m n)) (fun _ => []) :=
  opT_val fun w => by simp [execOp, ho, hx, hy, eqGuard, binOp, Op.shift, show ¬ n < 0 from by omega, Result.andThen, shrI, IntKind.bits]
theorem opT_conv_int {x : Operand} {s d : TypeId} {k k' : IntKind} {m : Int} (hs : P.underlying s = some (.int k)) (hd : P.underlying d = some (.int k')) (ho : o.op = .convert s d x) (hx : ev x = .int k m) : OpT P I w0 o ev [] (· = .int k' (k'.wrap m)) (fun _ => []) :=
  opT_val fun w => by simp [execOp, ho, hx, convert, Conv.intToInt, run_underlying hs, run_underlying hd, Result.andThen]
end
end Go.Proofs.Ytfkocnnphjkmfaa.D
