/- The operations' laws, each as a step on assertions. No program text is named here. -/
import Derived.Test.YtfkocnnphjkmfaaDraw
import Derived.Deep.MidRow
import Derived.Maps.AppendAt
import Derived.OwnWalk
set_option linter.unusedVariables false
set_option linter.unusedSimpArgs false
set_option linter.unnecessarySimpa false
namespace Go.Proofs.Ytfkocnnphjkmfaa.D
open Go.RowKit

/-! ### Facts of types -/
def isRowD : TypeDesc → Bool
  | .struct _ | .array _ _ => true
  | _ => false
/-- a type's kind (struct or not) and its number of cells -/
def TI (P : Program) (T : TypeId) (agg : Bool) (n : Nat) : Prop := (∃ d, P.underlying T = some d ∧ isRowD d = agg) ∧ (P.info? T).map (·.size) = some n
def TZ (P : Program) (T : TypeId) (z : Value) (n bytes : Nat) : Prop := (P.info? T).map (fun i => (i.zero, i.size, i.bytes)) = some (some z, n, bytes)
def TF (P : Program) (T : TypeId) (f off n : Nat) : Prop := ∃ fs fd, P.underlying T = some (.struct fs) ∧ fs[f]? = some fd ∧ fd.offset = off ∧ (P.info? fd.type).map (·.size) = some (n + 1)
section
variable {P : Program}
theorem TI.run_agg {T : TypeId} {agg : Bool} {n : Nat} (h : TI P T agg n) (w : World) : (isAgg T).run P w = .ok agg w := by
  obtain ⟨⟨d, hd, rfl⟩, -⟩ := h
  unfold isAgg
  rw [Sem.run_bind, run_underlying hd w]
  cases d <;> rfl
theorem TI.run_size {T : TypeId} {agg : Bool} {n : Nat} (h : TI P T agg n) (w : World) : (sizeOf T).run P w = .ok n w := by
  obtain ⟨-, h⟩ := h
  cases hq : P.info? T with
  | none => simp [hq] at h
  | some i =>
    have : i.size = n := by simpa [hq] using h
    simp [sizeOf, typeInfo, hq, this]
theorem TZ.run_zero {T : TypeId} {z : Value} {n b : Nat} (h : TZ P T z n b) (w : World) : (zeroValue T).run P w = .ok z w := by
  obtain ⟨i, hi, h1, h2, h3⟩ := info_parts h
  simp [zeroValue, typeInfo, hi, h1]
theorem TZ.run_size {T : TypeId} {z : Value} {n b : Nat} (h : TZ P T z n b) (w : World) : (sizeOf T).run P w = .ok n w := by
  obtain ⟨i, hi, h1, h2, h3⟩ := info_parts h
  simp [sizeOf, typeInfo, hi, h2]

variable {I : Hp} {w0 : World} {o : Oper} {ev : Operand → Value}
/-! ### Operations that only reckon -/
theorem opT_val {v : Value} (h : ∀ w, (execOp ev o).run P w = .ok (.value v) w) : OpT P I w0 o ev [] (· = v) (fun _ => []) := by
  intro w C hs
  rw [h]
  exact ⟨rfl, hs⟩
theorem opT_move {x : Operand} {v : Value} (ho : o.op = .move x) (hv : ev x = v) : OpT P I w0 o ev [] (· = v) (fun _ => []) :=
  opT_val fun w => by simp only [execOp, ho, hv]; rfl
theorem opT_assign {x : Operand} {v : Value} (ho : o.op = .assign x) (hv : ev x = v) : OpT P I w0 o ev [] (· = v) (fun _ => []) :=
  opT_val fun w => by simp only [execOp, ho, hv]; rfl
theorem opT_pick {c x y : Operand} {b : Bool} {v : Value} (ho : o.op = .pick c x y) (hc : ev c = .bool b) (hv : (if b then ev x else ev y) = v) : OpT P I w0 o ev [] (· = v) (fun _ => []) :=
  opT_val fun w => by simp only [execOp, ho, hc, asBool, ← hv]; cases b <;> rfl
theorem opT_extract {x : Operand} {vs : Array Value} {i : Nat} {v : Value} (ho : o.op = .extract x i) (hx : ev x = .tuple vs) (hv : vs[i]? = some v) : OpT P I w0 o ev [] (· = v) (fun _ => []) :=
  opT_val fun w => by simp [execOp, ho, hx, Instr.extract, hv, Result.andThen]
theorem opT_not {x : Operand} {t : TypeId} {b : Bool} (ho : o.op = .unOp .not t x) (hx : ev x = .bool b) : OpT P I w0 o ev [] (· = .bool (!b)) (fun _ => []) :=
  opT_val fun w => by simp only [execOp, ho, hx]; rfl
theorem opT_neg {x : Operand} {t : TypeId} {n : Int} (ho : o.op = .unOp .neg t x) (hx : ev x = .int .i64 n) : OpT P I w0 o ev [] (· = .int .i64 (IntKind.i64.wrap (-n))) (fun _ => []) :=
  opT_val fun w => by simp [execOp, ho, hx, Op.unary, Op.intArith, Result.andThen]
def isCmp : BinOp → Bool
  | .eql | .neq | .lss | .leq | .gtr | .geq => true
  | _ => false
def cmpI : BinOp → Int → Int → Bool
  | .eql, a, b => a == b
  | .neq, a, b => a != b
  | .lss, a, b => decide (a < b)
  | .leq, a, b => decide (a ≤ b)
  | .gtr, a, b => decide (a > b)
  | _, a, b => decide (a ≥ b)
theorem opT_cmp {x y : Operand} {b : BinOp} {t u : TypeId} {k : IntKind} {m n : Int} {c : Bool} (ho : o.op = .binOp b t x y u) (hx : ev x = .int k m) (hy : ev y = .int k n) (hb : isCmp b = true) (hc : cmpI b m n = c) : OpT P I w0 o ev [] (· = .bool c) (fun _ => []) :=
  opT_val fun w => by
    subst hc
    simp only [execOp, ho, hx, hy]
    cases b <;> first | exact absurd hb (by decide) | (cases k <;> rfl)
def binI : BinOp → Int → Int → Int
  | .add, a, b => IntKind.i64.wrap (a + b)
  | .sub, a, b => IntKind.i64.wrap (a - b)
  | .mul, a, b => IntKind.i64.wrap (a * b)
  | _, a, _ => a
theorem opT_add {x y : Operand} {t u : TypeId} {m n : Int} (ho : o.op = .binOp .add t x y u) (hx : ev x = .int .i64 m) (hy : ev y = .int .i64 n) : OpT P I w0 o ev [] (· = .int .i64 (IntKind.i64.wrap (m + n))) (fun _ => []) :=
  opT_val fun w => by simp only [execOp, ho, hx, hy]; rfl
theorem opT_sub {x y : Operand} {t u : TypeId} {m n : Int} (ho : o.op = .binOp .sub t x y u) (hx : ev x = .int .i64 m) (hy : ev y = .int .i64 n) : OpT P I w0 o ev [] (· = .int .i64 (IntKind.i64.wrap (m - n))) (fun _ => []) :=
  opT_val fun w => by simp only [execOp, ho, hx, hy]; rfl
theorem opT_mul {x y : Operand} {t u : TypeId} {m n : Int} (ho : o.op = .binOp .mul t x y u) (hx : ev x = .int .i64 m) (hy : ev y = .int .i64 n) : OpT P I w0 o ev [] (· = .int .i64 (IntKind.i64.wrap (m * n))) (fun _ => []) :=
  opT_val fun w => by simp only [execOp, ho, hx, hy]; rfl
def quoI (m n : Int) : Int := IntKind.i64.wrap (m.tdiv n)
theorem opT_quo {x y : Operand} {t u : TypeId} {m n : Int} (ho : o.op = .binOp .quo t x y u) (hx : ev x = .int .i64 m) (hy : ev y = .int .i64 n) (h0 : n ≠ 0) : OpT P I w0 o ev [] (· = .int .i64 (quoI m n)) (fun _ => []) :=
  opT_val fun w => by simp [execOp, ho, hx, hy, eqGuard, binOp, Op.intDiv, h0, Result.andThen, quoI]
theorem opT_rem {x y : Operand} {t u : TypeId} {m n : Int} (ho : o.op = .binOp .rem t x y u) (hx : ev x = .int .i64 m) (hy : ev y = .int .i64 n) (h0 : n ≠ 0) : OpT P I w0 o ev [] (· = .int .i64 (m.tmod n)) (fun _ => []) :=
  opT_val fun w => by simp [execOp, ho, hx, hy, eqGuard, binOp, Op.intDiv, h0, Result.andThen]
def shlI (m n : Int) : Int := IntKind.i64.wrap (m * 2 ^ (min n.toNat 64))
def shrI (m n : Int) : Int := m.fdiv (2 ^ (min n.toNat 64))
theorem opT_shl {x y : Operand} {t u : TypeId} {m n : Int} (ho : o.op = .binOp .shl t x y u) (hx : ev x = .int .i64 m) (hy : ev y = .int .i64 n) (h0 : 0 ≤ n) : OpT P I w0 o ev [] (· = .int .i64 (shlI m n)) (fun _ => []) :=
  opT_val fun w => by simp [execOp, ho, hx, hy, eqGuard, binOp, Op.shift, show ¬ n < 0 from by omega, Result.andThen, shlI, IntKind.bits]
theorem opT_shr {x y : Operand} {t u : TypeId} {m n : Int} (ho : o.op = .binOp .shr t x y u) (hx : ev x = .int .i64 m) (hy : ev y = .int .i64 n) (h0 : 0 ≤ n) : OpT P I w0 o ev [] (· = .int .i64 (shrI m n)) (fun _ => []) :=
  opT_val fun w => by simp [execOp, ho, hx, hy, eqGuard, binOp, Op.shift, show ¬ n < 0 from by omega, Result.andThen, shrI, IntKind.bits]
def andI (m n : Int) : Int := IntKind.i64.wrap ((BitVec.ofInt 64 m &&& BitVec.ofInt 64 n).toNat : Nat)
def orI (m n : Int) : Int := IntKind.i64.wrap ((BitVec.ofInt 64 m ||| BitVec.ofInt 64 n).toNat : Nat)
def xorI (m n : Int) : Int := IntKind.i64.wrap ((BitVec.ofInt 64 m ^^^ BitVec.ofInt 64 n).toNat : Nat)
theorem opT_and {x y : Operand} {t u : TypeId} {m n : Int} (ho : o.op = .binOp .and t x y u) (hx : ev x = .int .i64 m) (hy : ev y = .int .i64 n) : OpT P I w0 o ev [] (· = .int .i64 (andI m n)) (fun _ => []) :=
  opT_val fun w => by simp only [execOp, ho, hx, hy]; rfl
theorem opT_or {x y : Operand} {t u : TypeId} {m n : Int} (ho : o.op = .binOp .or t x y u) (hx : ev x = .int .i64 m) (hy : ev y = .int .i64 n) : OpT P I w0 o ev [] (· = .int .i64 (orI m n)) (fun _ => []) :=
  opT_val fun w => by simp only [execOp, ho, hx, hy]; rfl
theorem opT_xor {x y : Operand} {t u : TypeId} {m n : Int} (ho : o.op = .binOp .xor t x y u) (hx : ev x = .int .i64 m) (hy : ev y = .int .i64 n) : OpT P I w0 o ev [] (· = .int .i64 (xorI m n)) (fun _ => []) :=
  opT_val fun w => by simp only [execOp, ho, hx, hy]; rfl
theorem run_eq_bool {t : TypeId} {b c : Bool} (hT : P.underlying t = some .bool) (w : World) : (Op.equal t (.bool b) (.bool c)).run P w = .ok (b == c) w := by
  unfold Op.equal Op.maxDepth
  rw [Op.equalIn, Sem.run_bind, run_underlying hT]; rfl
theorem opT_eqb {x y : Operand} {t u : TypeId} {b c : Bool} (hT : P.underlying t = some .bool) (ho : o.op = .binOp .eql t x y u) (hx : ev x = .bool b) (hy : ev y = .bool c) : OpT P I w0 o ev [] (· = .bool (b == c)) (fun _ => []) :=
  opT_val fun w => by
    have g1 : eqGuard .eql t x y (.bool b) (.bool c) = pure () := rfl
    have g2 : binOp .eql t (.bool b) (.bool c) = (do pure (.bool (← Op.equal t (.bool b) (.bool c)))) := rfl
    simp only [execOp, ho, hx, hy, g1, g2, Sem.run_bind, Sem.run_pure, run_eq_bool hT, Result.andThen_ok]
theorem opT_neb {x y : Operand} {t u : TypeId} {b c : Bool} (hT : P.underlying t = some .bool) (ho : o.op = .binOp .neq t x y u) (hx : ev x = .bool b) (hy : ev y = .bool c) : OpT P I w0 o ev [] (· = .bool (b != c)) (fun _ => []) :=
  opT_val fun w => by
    have g1 : eqGuard .neq t x y (.bool b) (.bool c) = pure () := rfl
    have g2 : binOp .neq t (.bool b) (.bool c) = (do pure (.bool (!(← Op.equal t (.bool b) (.bool c))))) := rfl
    simp only [execOp, ho, hx, hy, g1, g2, Sem.run_bind, Sem.run_pure, run_eq_bool hT, Result.andThen_ok]; rfl
theorem opT_field_addr {x : Operand} {T : TypeId} {f g off b n : Nat} (hf : TF P T f off n) (ho : o.op = .fieldAddr T x f) (hx : ev x = .pointer (some ⟨g, b, none⟩)) : OpT P I w0 o ev [] (· = .pointer (some ⟨g, b + off, none⟩)) (fun _ => []) := by
  obtain ⟨fs, fd, h1, h2, h3, h4⟩ := hf
  refine opT_val fun w => ?_
  cases hq : P.info? fd.type with
  | none => simp [hq] at h4
  | some i =>
    have h5 : i.size = n + 1 := by simpa [hq] using h4
    simp [execOp, ho, hx, Instr.fieldAt, Instr.sureAddr, run_underlying h1, h2, fieldPlace, sizeOf, typeInfo, hq, h5, h3, Result.andThen, Addr.add_mid]
theorem opT_len_s {x : Operand} {T : TypeId} {E : TypeId} {a : Option Addr} {n c : Nat} (hT : P.underlying T = some (.slice E)) (ho : o.op = .call { callee := .builtin .len, args := #[x], argTypes := #[T] }) (hx : ev x = .slice a n c) : OpT P I w0 o ev [] (· = .int .i64 n) (fun _ => []) :=
  opT_val fun w => by simp [execOp, ho, hx, resolve, invoke, builtin, Builtin.len_, run_underlying hT, Result.andThen, goInt]
theorem opT_len_str {x : Operand} {T : TypeId} {s : ByteArray} (hT : P.underlying T = some .string) (ho : o.op = .call { callee := .builtin .len, args := #[x], argTypes := #[T] }) (hx : ev x = .string s) : OpT P I w0 o ev [] (· = .int .i64 s.size) (fun _ => []) :=
  opT_val fun w => by simp [execOp, ho, hx, resolve, invoke, builtin, Builtin.len_, run_underlying hT, Result.andThen, goInt]
theorem opT_make_func {f : Fn} {first captured : Array Operand} {v : Value} (ho : o.op = .makeFunc f first captured) (hv : Value.func f (first.toList.map ev).toArray (captured.toList.map ev).toArray = v) : OpT P I w0 o ev [] (· = v) (fun _ => []) :=
  opT_val fun w => by
    have h1 : first.map ev = (first.toList.map ev).toArray := by rw [← Array.toList_map]
    have h2 : captured.map ev = (captured.toList.map ev).toArray := by rw [← Array.toList_map]
    simp only [execOp, ho, ← hv, h1, h2]; rfl
end
end Go.Proofs.Ytfkocnnphjkmfaa.D
