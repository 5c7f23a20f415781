/- FnExactIsValidRegistry: for every input the law returns true and changes nothing that was there. Part 4 of 8. -/
import Derived.Test.YtimjccbdngajoaaGreatGC2
/- More operations: pointers looked at, least and greatest, parts of slices, nodes of trees. No program text is named here. -/
set_option linter.unusedVariables false
set_option linter.unusedSimpArgs false
set_option linter.unnecessarySimpa false
set_option linter.unusedSectionVars false
namespace Go.Proofs.YtimjccbdngajoaaGreat.R
open Go.RowKit
open Go.Proofs.YtimjccbdngajoaaGreat.D

section
variable {P : Program} {I : Hp} {w0 : World} {o : Oper} {ev : Operand → Value}
theorem opT_nilc {x : Operand} {a : Addr} (ho : o.op = .nilCheck x) (hx : ev x = .pointer (some a)) : OpT P I w0 o ev [] (· = .pointer (some a)) (fun _ => []) :=
  opT_val fun w => by simp only [execOp, ho, hx]; rfl
theorem opT_min {x y : Operand} {T U : TypeId} {m n : Int} (ho : o.op = .call { callee := .builtin .min, args := #[x, y], argTypes := #[T, U] }) (hx : ev x = .int .i64 m) (hy : ev y = .int .i64 n) : OpT P I w0 o ev [] (· = .int .i64 (min m n)) (fun _ => []) :=
  opT_val fun w => by
    have e : min m n = if n < m then n else m := by split <;> omega
    rw [e]
    simp [execOp, ho, hx, hy, resolve, invoke, builtin, Builtin.min_, Builtin.min2]
theorem opT_max {x y : Operand} {T U : TypeId} {m n : Int} (ho : o.op = .call { callee := .builtin .max, args := #[x, y], argTypes := #[T, U] }) (hx : ev x = .int .i64 m) (hy : ev y = .int .i64 n) : OpT P I w0 o ev [] (· = .int .i64 (max m n)) (fun _ => []) :=
  opT_val fun w => by
    have e : max m n = if m < n then n else m := by split <;> omega
    rw [e]
    simp [execOp, ho, hx, hy, resolve, invoke, builtin, Builtin.max_, Builtin.max2]
theorem run_eq_ptr {t e : TypeId} {a : Option Addr} {w : World} (hT : P.underlying t = some (.pointer e)) : (Op.equal t (.pointer a) (.pointer none)).run P w = .ok a.isNone w := by
  have key : ∀ n, (Op.equalIn (n + 1) t (.pointer a) (.pointer none)).run P w = .ok a.isNone w := fun n => by
    unfold Op.equalIn
    rw [Sem.run_bind, run_underlying hT, Result.andThen_ok]
    cases a <;> rfl
  exact key 9999
theorem run_eq_sl {t e : TypeId} {a : Option Addr} {l c : Nat} {w : World} (hT : P.underlying t = some (.slice e)) : (Op.equal t (.slice a l c) (.slice none 0 0)).run P w = .ok (isNilV (.slice a l c)) w := by
  have key : ∀ n, (Op.equalIn (n + 1) t (.slice a l c) (.slice none 0 0)).run P w = .ok (isNilV (.slice a l c)) w := fun n => by
    unfold Op.equalIn
    rw [Sem.run_bind, run_underlying hT, Result.andThen_ok]
    cases a <;> rfl
  exact key 9999
theorem opT_eqn {x y : Operand} {t u e : TypeId} {a : Option Addr} {l c : Nat} (hT : P.underlying t = some (.slice e)) (ho : o.op = .binOp .eql t x y u) (hx : ev x = .slice a l c) (hy : ev y = .slice none 0 0) : OpT P I w0 o ev [] (· = .bool (isNilV (.slice a l c))) (fun _ => []) :=
  opT_val fun w => by
    have g1 : eqGuard .eql t x y (.slice a l c) (.slice none 0 0) = pure () := rfl
    have g2 : binOp .eql t (.slice a l c) (.slice none 0 0) = (do pure (.bool (← Op.equal t (.slice a l c) (.slice none 0 0)))) := rfl
    simp only [execOp, ho, hx, hy, g1, g2, Sem.run_bind, Sem.run_pure, run_eq_sl hT, Result.andThen_ok]
theorem opT_eqp {x y : Operand} {t u e : TypeId} {a : Option Addr} (hT : P.underlying t = some (.pointer e)) (ho : o.op = .binOp .eql t x y u) (hx : ev x = .pointer a) (hy : ev y = .pointer none) : OpT P I w0 o ev [] (· = .bool a.isNone) (fun _ => []) :=
  opT_val fun w => by
    have g1 : eqGuard .eql t x y (.pointer a) (.pointer none) = pure () := rfl
    have g2 : binOp .eql t (.pointer a) (.pointer none) = (do pure (.bool (← Op.equal t (.pointer a) (.pointer none)))) := rfl
    simp only [execOp, ho, hx, hy, g1, g2, Sem.run_bind, Sem.run_pure, run_eq_ptr hT, Result.andThen_ok]
theorem opT_nep {x y : Operand} {t u e : TypeId} {a : Option Addr} (hT : P.underlying t = some (.pointer e)) (ho : o.op = .binOp .neq t x y u) (hx : ev x = .pointer a) (hy : ev y = .pointer none) : OpT P I w0 o ev [] (· = .bool (!a.isNone)) (fun _ => []) :=
  opT_val fun w => by
    have g1 : eqGuard .neq t x y (.pointer a) (.pointer none) = pure () := rfl
    have g2 : binOp .neq t (.pointer a) (.pointer none) = (do pure (.bool (!(← Op.equal t (.pointer a) (.pointer none))))) := rfl
    simp only [execOp, ho, hx, hy, g1, g2, Sem.run_bind, Sem.run_pure, run_eq_ptr hT, Result.andThen_ok]
end

section
variable {Y : Type} (tt : TT) (s : Sg) (k : Res → Option Y)
def sNilC (x : Operand) : Option Y := match opd s x with
  | some (.one (.ptr h off)) => k (.pure s (.one (.ptr h off)))
  | some (.one (.rd h (.tree T E t) d)) => (Tr.get d).bind fun _ => k (.pure s (.one (.rd h (.tree T E t) d)))
  | _ => none
def sMin (x y : Operand) : Option Y := match opd s x, opd s y with
  | some (.one (.val (.int .i64 m))), some (.one (.val (.int .i64 n))) => kv s k (.int .i64 (min m n))
  | _, _ => none
def sMax (x y : Operand) : Option Y := match opd s x, opd s y with
  | some (.one (.val (.int .i64 m))), some (.one (.val (.int .i64 n))) => kv s k (.int .i64 (max m n))
  | _, _ => none
/-- a pointer held against nil -/
def sEqP (b : BinOp) (T : TypeId) (x y : Operand) : Option Y := (td tt T).bind fun q => q.pt.bind fun _ => match opd s x, opd s y with
  | some (.one (.rd h (.tree T' E t) d)), some (.one (.val v)) => chkT (isNilP v) (match b with
    | .eql => kv s k (.bool d.isNil)
    | .neq => k (.pure s (.one (.nb d.isNil)))
    | _ => none)
  | some (.one (.ptr h off)), some (.one (.val v)) => chkT (isNilP v) (match b with
    | .eql => kv s k (.bool false)
    | .neq => kv s k (.bool true)
    | _ => none)
  | _, _ => none
/-- a slice held against nil -/
def sEqN (b : BinOp) (T : TypeId) (x y : Operand) : Option Y := (td tt T).bind fun q => q.el.bind fun _ => match opd s x, opd s y, b with
  | some (.one (.rdn h b (.sl E t) d)), some (.one (.val v)), .eql => chkT (isNil v) (kv s k (.bool b))
  | _, _, _ => none
/-- a field of a node -/
def sFieldT (T : TypeId) (x : Operand) (f : Nat) : Option Y := (td tt T).bind fun d => (d.fields[f]?).bind fun q => match opd s x with
  | some (.one (.rd h (.tree T' E t) a)) => (Tr.get a).bind fun p => k (.pure s (.one (.fz h T' (.prod t (.sl E (.tree T' E t))) p q.1)))
  | _ => none
def rdSl (s : Sg) (x : Operand) : Option (Hdr × (E : TypeId) × (t : Ty) × List t.den) := match opd s x with
  | some (.one (.rd h (.sl E t) xs)) => some (h, ⟨E, t, xs⟩)
  | _ => none
def asI (s : Sg) (x : Operand) : Option Int := match opd s x with
  | some (.one (.val (.int .i64 m))) => some m
  | _ => none
def newRd (E : TypeId) (t : Ty) (xs : List t.den) : Option Y := k (.pure s (.one (.rd ⟨s.nxt, []⟩ (.sl E t) xs)))
/-- a part of a slice that is read -/
def sSliceR (T : TypeId) (x : Operand) (lo hi : Option Operand) : Option Y := (td tt T).bind fun d => d.el.bind fun E' => (td tt E').bind fun e => (rdSl s x).bind fun r => chkT (Nat.beq e.n r.2.2.1.size) (match lo, hi with
  | some l, none => (asI s l).bind fun l => (chk (0 ≤ l ∧ l ≤ (r.2.2.2.length : Int))).bind fun _ => newRd s k r.2.1 r.2.2.1 (r.2.2.2.drop l.toNat)
  | none, some h => (asI s h).bind fun h => (chk (0 ≤ h ∧ h ≤ (r.2.2.2.length : Int))).bind fun _ => newRd s k r.2.1 r.2.2.1 (r.2.2.2.take h.toNat)
  | some l, some h => (asI s l).bind fun l => (asI s h).bind fun h => (chk (0 ≤ l ∧ l ≤ h ∧ h ≤ (r.2.2.2.length : Int))).bind fun _ => newRd s k r.2.1 r.2.2.1 ((r.2.2.2.take h.toNat).drop l.toNat)
  | none, none => none)
/-- an own row, cut off behind -/
def sSliceO (T : TypeId) (x : Operand) (lo hi : Option Operand) : Option Y := (td tt T).bind fun d => match d.el, opd s x, lo, hi with
  | some E', some (.one (.own h)), none, some hi => (rowOf h s.chs).bind fun r => (td tt E').bind fun e => chkT (Nat.beq e.n r.t.size) ((asI s hi).bind fun m => (chk (0 ≤ m ∧ m ≤ (r.xs.length : Int))).bind fun _ => newRow s k r.E r.t [r.ent h] r.rest (r.xs.take m.toNat))
  | _, _, _, _ => none
/-- an own row without its head: what is left of it is taken -/
def sSliceD (T : TypeId) (x : Operand) (lo hi : Option Operand) : Option Y := (td tt T).bind fun d => match d.el, opd s x, lo, hi with
  | some E', some (.one (.own h)), some lo, none => (rowOf h s.chs).bind fun r => (td tt E').bind fun e => chkT (Nat.beq e.n r.t.size) ((asI s lo).bind fun m => (chk (0 ≤ m ∧ m ≤ (r.xs.length : Int))).bind fun _ => newRow s k r.E r.t [r.ent h] r.rest (r.xs.drop m.toNat))
  | _, _, _, _ => none
/-- an own row from a place on: looked at -/
def sSliceV (T : TypeId) (x : Operand) (lo hi : Option Operand) : Option Y := (td tt T).bind fun d => match d.el, opd s x, lo, hi with
  | some E', some (.one (.own h)), some lo, none => (rowOf h s.chs).bind fun r => (td tt E').bind fun e => chkT (Nat.beq e.n r.t.size) ((asI s lo).bind fun m => (chk (0 ≤ m ∧ m ≤ (r.xs.length : Int))).bind fun _ => k ⟨[r.ent h], [], r.rest, [], .sub h r.ver r.E r.t r.xs m⟩)
  | _, _, _, _ => none
/-- the head of an own row: looked at -/
def sSliceW (T : TypeId) (x : Operand) (lo hi : Option Operand) : Option Y := (td tt T).bind fun d => match d.el, opd s x, lo, hi with
  | some E', some (.one (.own h)), none, some hi => (rowOf h s.chs).bind fun r => (td tt E').bind fun e => chkT (Nat.beq e.n r.t.size) ((asI s hi).bind fun m => (chk (0 ≤ m ∧ m ≤ (r.xs.length : Int))).bind fun _ => k ⟨[r.ent h], [], r.rest, [], .pre h r.ver r.E r.t r.xs m⟩)
  | _, _, _, _ => none
/-- numbers copied into an own row, from a place on -/
structure Src0 where
  h : Hdr
  sub : Bool
  ver : Nat
  lo : Int
def copyTo : AV → Option Src0
  | .one (.own h) => some ⟨h, false, 0, 0⟩
  | .sub h ver _ _ _ l => some ⟨h, true, ver, l⟩
  | _ => none
def sCopyI (h : Hdr) (ver : Nat) (E : TypeId) (k1 : IntKind) (xs : List Int) (rest : List Ent) (lo : Int) (y : AV) : Option Y := match y with
  | .one (.rd _ (.sl _ (.int k2)) ys) => chkT (k1 == k2) ((chk (0 ≤ lo ∧ lo ≤ (xs.length : Int))).bind fun _ => k ⟨[], [(h, ver, .own (.sl E (.int k1)) xs)], rest, [(h, .own (.sl E (.int k1)) (cpyI xs lo.toNat ys))], .one (.val (.int .i64 ((min ys.length (xs.length - lo.toNat) : Nat) : Int)))⟩)
  | .pre h2 v2 _ _ _ hi => chkT (Hdr.beq h2 h && Nat.beq v2 ver) ((chk (0 ≤ lo ∧ lo ≤ (xs.length : Int))).bind fun _ => (chk (0 ≤ hi ∧ hi ≤ (xs.length : Int))).bind fun _ => k ⟨[], [(h, ver, .own (.sl E (.int k1)) xs)], rest, [(h, .own (.sl E (.int k1)) (cpyI xs lo.toNat (xs.take hi.toNat)))], .one (.val (.int .i64 ((min (xs.take hi.toNat).length (xs.length - lo.toNat) : Nat) : Int)))⟩)
  | _ => none
def copyRow (r : Row) : Option ((k : IntKind) × List Int) := match r.t, r.xs with
  | .int k, xs => some ⟨k, xs⟩
  | _, _ => none
def sCopy (T : TypeId) (x y : Operand) : Option Y := (td tt T).bind fun d => d.el.bind fun E => (td tt E).bind fun e => chkT (Nat.beq e.n 1) ((opd s x).bind fun xv => (copyTo xv).bind fun c => (rowOf c.h s.chs).bind fun r => chkT (Nat.beq r.E E && (!c.sub || Nat.beq c.ver r.ver)) ((copyRow r).bind fun q => (opd s y).bind fun yv => sCopyI k c.h r.ver r.E q.1 q.2 r.rest c.lo yv))
/-- a row, copied -/
def sClone (E b : Nat) (x : Operand) : Option Y := match opd s x with
  | some (.sub h ver E' t xs l) => (rowOf h s.chs).bind fun r => chkT (Nat.beq r.ver ver && (t.sh && Nat.beq t.size 1)) ((appI b [] (xs.drop l.toNat)).bind fun zs => k ⟨[r.ent h], [], r.rest, [(⟨s.nxt, []⟩, .own (.sl E t) zs)], .one (.own ⟨s.nxt, []⟩)⟩)
  | some (.one (.own h)) => (rowOf h s.chs).bind fun r => chkT (r.t.sh && Nat.beq r.t.size 1) ((appI b [] r.xs).bind fun zs => k ⟨[r.ent h], [], r.rest, [(⟨s.nxt, []⟩, .own (.sl E r.t) zs)], .one (.own ⟨s.nxt, []⟩)⟩)
  | some (.one (.rd h (.sl E' t) xs)) => chkT (t.sh && Nat.beq t.size 1) ((appI b [] xs).bind fun zs => newRow s k E t [] s.chs zs)
  | _ => none
end
section
variable {Y : Type} {tt : TT} {s : Sg} {k : Res → Option Y} {P : Program} {w0 : World} {o : Oper} {res : Y} {x y : Operand}
/-- an operation whose value is new -/
theorem good_new {av : AV} {fact : Hp → Th → Value → Prop} (hop : ∀ J θ, Fine P w0 J θ s → OpT P J w0 o (evL (envL θ s)) [] (fact J θ) (fun _ => [])) (hok : ∀ J θ v, Fine P w0 J θ s → fact J θ v → av.ok P w0 J (upd θ s.nxt v) (s.nxt + 1) s.chs ∧ av.v (upd θ s.nxt v) = v) : Good P w0 s o (Res.pure s av) :=
  ⟨List.Perm.refl _, fun _ _ _ g hg => (by cases hg), fun J θ hf => OpT.weak (hop J θ hf) (fun v hv => by
    obtain ⟨h1, h2⟩ := hok J θ v hf hv
    exact ⟨h1, h2, fun g hg => by cases hg⟩) (fun v hv => rfl)⟩
theorem sNilC_ok (ho : o.op = .nilCheck x) (h : sNilC s k x = some res) : Oks P w0 s o k res := by
  unfold sNilC at h
  split at h
  · rename_i hh off hx
    exact ⟨_, h, good_val (fun J θ hf => opT_nilc ho (opd_ev hx)) fun J θ hf => opd_ok hf hx⟩
  · rename_i hh T E t d hx
    obtain ⟨p, hp, h⟩ := bind_some h
    refine ⟨_, h, good_val (fun J θ hf => ?_) fun J θ hf => opd_ok hf hx⟩
    have hxo : (hh.id < s.nxt ∧ (Ty.tree T E t).rep.rd J [hv θ hh] d) := opd_ok hf hx
    obtain ⟨b, e, -⟩ := tree_get (E := E) hxo.2 hp
    have hev : evL (envL θ s) x = .pointer (some ⟨b, 0, none⟩) := (opd_ev hx).trans e
    have := opT_nilc (P := P) (I := J) (w0 := w0) ho hev
    rwa [← hev, opd_ev (θ := θ) hx] at this
  · cases h
theorem sMin_ok {T U : TypeId} (ho : o.op = .call { callee := .builtin .min, args := #[x, y], argTypes := #[T, U] }) (h : sMin s k x y = some res) : Oks P w0 s o k res := by
  unfold sMin at h
  split at h
  · rename_i m n hx hy
    exact kv_ok h rfl fun J θ hf => opT_min ho (opd_ev hx) (opd_ev hy)
  · cases h
theorem sMax_ok {T U : TypeId} (ho : o.op = .call { callee := .builtin .max, args := #[x, y], argTypes := #[T, U] }) (h : sMax s k x y = some res) : Oks P w0 s o k res := by
  unfold sMax at h
  split at h
  · rename_i m n hx hy
    exact kv_ok h rfl fun J θ hf => opT_max ho (opd_ev hx) (opd_ev hy)
  · cases h
theorem sEqP_ok (hT : TTok P tt) {b : BinOp} {t u : TypeId} (ho : o.op = .binOp b t x y u) (h : sEqP tt s k b t x y = some res) : Oks P w0 s o k res := by
  obtain ⟨q, hq, h⟩ := bind_some h
  obtain ⟨e, he, h⟩ := bind_some h
  have hpt := (hT.get hq).pt e he
  split at h
  · rename_i hh T' E t' d v hx hy
    obtain ⟨hn, h⟩ := chkT_ok h
    have hn := isNilP_ok hn
    subst hn
    have key : ∀ J θ, Fine P w0 J θ s → ∃ a : Option Addr, evL (envL θ s) x = .pointer a ∧ a.isNone = d.isNil := fun J θ hf => by
      have hxo : (hh.id < s.nxt ∧ (Ty.tree T' E t').rep.rd J [hv θ hh] d) := opd_ok hf hx
      obtain ⟨a, e1, e2⟩ := tree_nil hxo.2
      exact ⟨a, (opd_ev hx).trans e1, e2⟩
    split at h
    · refine kv_ok h rfl fun J θ hf => ?_
      obtain ⟨a, e1, e2⟩ := key J θ hf
      rw [← e2]
      exact opT_eqp hpt ho e1 (opd_ev hy)
    · refine ⟨_, h, good_val (fun J θ hf => ?_) fun _ _ _ => trivial⟩
      obtain ⟨a, e1, e2⟩ := key J θ hf
      show OpT P J w0 o _ [] (· = .bool (!d.isNil)) _
      rw [← e2]
      exact opT_nep hpt ho e1 (opd_ev hy)
    · cases h
  · rename_i hh off v hx hy
    obtain ⟨hn, h⟩ := chkT_ok h
    have hn := isNilP_ok hn
    subst hn
    split at h
    · exact kv_ok h rfl fun J θ hf => opT_eqp hpt ho (opd_ev hx) (opd_ev hy)
    · exact kv_ok h rfl fun J θ hf => opT_nep hpt ho (opd_ev hx) (opd_ev hy)
    · cases h
  · cases h
theorem sEqN_ok (hT : TTok P tt) {b : BinOp} {t u : TypeId} (ho : o.op = .binOp b t x y u) (h : sEqN tt s k b t x y = some res) : Oks P w0 s o k res := by
  obtain ⟨q, hq, h⟩ := bind_some h
  obtain ⟨e, he, h⟩ := bind_some h
  have hel := (hT.get hq).el e he
  split at h
  · rename_i hh b' E t' d v hx hy _ _
    obtain ⟨hn, h⟩ := chkT_ok h
    have hn := isNil_ok hn
    subst hn
    refine kv_ok h rfl fun J θ hf => ?_
    have hxo : (hh.id < s.nxt ∧ (Ty.sl E t').rep.rd J [hv θ hh] d ∧ isNilV (hv θ hh) = b') := opd_ok hf hx
    obtain ⟨h1, ⟨ao, cap, h2, -⟩, h3⟩ := hxo
    have h2 : hv θ hh = .slice ao d.length cap := by simpa using h2
    rw [h2] at h3
    rw [← h3]
    exact opT_eqn hel ho ((opd_ev hx).trans h2) (opd_ev hy)
  · cases h
theorem sFieldT_ok (hT : TTok P tt) {T : TypeId} {f : Nat} (ho : o.op = .fieldAddr T x f) (h : sFieldT tt s k T x f = some res) : Oks P w0 s o k res := by
  obtain ⟨d, hd, h⟩ := bind_some h
  obtain ⟨q, hq, h⟩ := bind_some h
  split at h
  · rename_i hh T' E t a hx
    obtain ⟨p, hp, h⟩ := bind_some h
    have hfl := (hT.get hd).fld f q hq
    have key : ∀ J θ, Fine P w0 J θ s → hh.id < s.nxt ∧ ∃ b, hv θ hh = .pointer (some ⟨b, 0, none⟩) ∧ ∃ cells : List Value, J b = some (.cells cells.toArray T' (0, 0)) ∧ (Ty.prod t (.sl E (.tree T' E t))).rep.rd J cells p := fun J θ hf => by
      have hxo : (hh.id < s.nxt ∧ (Ty.tree T' E t).rep.rd J [hv θ hh] a) := opd_ok hf hx
      obtain ⟨b, e, cells, k1, k2⟩ := tree_get (E := E) hxo.2 hp
      exact ⟨hxo.1, b, e, cells, k1, k2⟩
    refine ⟨_, h, good_val (fun J θ hf => ?_) fun J θ hf => ?_⟩
    · obtain ⟨-, b, e, -⟩ := key J θ hf
      have hev : evL (envL θ s) x = .pointer (some ⟨b, 0, none⟩) := (opd_ev hx).trans e
      have := opT_field_addr (P := P) (I := J) (w0 := w0) hfl ho hev
      rw [Nat.zero_add] at this
      show OpT P J w0 o _ [] (· = .pointer (some ⟨bk (hv θ hh), q.1, none⟩)) _
      rw [e]
      exact this
    · obtain ⟨h1, b, e, cells, k1, k2⟩ := key J θ hf
      exact ⟨h1, cells, by rw [e]; exact k1, k2⟩
  · cases h
theorem rdSl_ok {r : Hdr × (E : TypeId) × (t : Ty) × List t.den} (h : rdSl s x = some r) : opd s x = some (.one (.rd r.1 (.sl r.2.1 r.2.2.1) r.2.2.2)) := by
  unfold rdSl at h
  split at h
  · rename_i hx
    obtain rfl := Option.some.inj h
    exact hx
  · cases h
theorem asI_ok {m : Int} (h : asI s x = some m) (θ : Th) : evL (envL θ s) x = .int .i64 m := by
  unfold asI at h
  split at h
  · rename_i hx
    obtain rfl := Option.some.inj h
    exact opd_ev hx
  · cases h
theorem newRd_ok {E : TypeId} {t : Ty} {xs : List t.den} (h : newRd s k E t xs = some res) (hop : ∀ J θ, Fine P w0 J θ s → OpT P J w0 o (evL (envL θ s)) [] (fun v => (Ty.sl E t).rep.rd J [v] xs) (fun _ => [])) : Oks P w0 s o k res :=
  ⟨_, h, good_new (fact := fun J θ v => (Ty.sl E t).rep.rd J [v] xs) hop fun J θ v hf hv' => ⟨⟨Nat.lt_succ_self _, by rw [hv_new]; exact hv'⟩, hv_new⟩⟩
theorem sSliceR_ok (hT : TTok P tt) {T : TypeId} {lo hi : Option Operand} (ho : o.op = .slice T x lo hi none) (h : sSliceR tt s k T x lo hi = some res) : Oks P w0 s o k res := by
  obtain ⟨d, hd, h⟩ := bind_some h
  obtain ⟨E', hE, h⟩ := bind_some h
  obtain ⟨e, he, h⟩ := bind_some h
  obtain ⟨⟨hh, E, t, xs⟩, hr, h⟩ := bind_some h
  have hx := rdSl_ok hr
  obtain ⟨hn, h⟩ := chkT_ok h
  have hn : e.n = t.size := Nat.eq_of_beq_eq_true hn
  have hdE := (hT.get hd).el E' hE
  have hti := (hT.get he).ti
  have key : ∀ J θ, Fine P w0 J θ s → (rSlice E t.rep).rd J [hv θ hh] xs := fun J θ hf => (opd_ok hf hx).2
  have hsz : t.rep.size = e.n := t.rep_size.trans hn.symm
  split at h
  · rename_i l
    obtain ⟨m, hm, h⟩ := bind_some h
    obtain ⟨u, hc, h⟩ := bind_some h
    have hc := chk_some hc
    refine newRd_ok h fun J θ hf => OpT.weak (opT_slice_l hdE hti (Hd.of_rd (key J θ hf)) ho (opd_ev hx) (asI_ok hm θ) hc) (fun v hv' => ?_) (fun v hv' => rfl)
    subst hv'
    exact rd_sub_l (key J θ hf) (by simp only at hc ⊢; omega) hsz
  · rename_i hi
    obtain ⟨m, hm, h⟩ := bind_some h
    obtain ⟨u, hc, h⟩ := bind_some h
    have hc := chk_some hc
    refine newRd_ok h fun J θ hf => OpT.weak (opT_slice_h hdE hti (Hd.of_rd (key J θ hf)) ho (opd_ev hx) (asI_ok hm θ) hc) (fun v hv' => ?_) (fun v hv' => rfl)
    subst hv'
    exact rd_sub_h (key J θ hf) (by simp only at hc ⊢; omega) hsz
  · rename_i l hi
    obtain ⟨m, hm, h⟩ := bind_some h
    obtain ⟨m2, hm2, h⟩ := bind_some h
    obtain ⟨u, hc, h⟩ := bind_some h
    have hc := chk_some hc
    refine newRd_ok h fun J θ hf => OpT.weak (opT_slice_lh hdE hti (Hd.of_rd (key J θ hf)) ho (opd_ev hx) (asI_ok hm θ) (asI_ok hm2 θ) hc) (fun v hv' => ?_) (fun v hv' => rfl)
    subst hv'
    exact rd_sub (key J θ hf) (by simp only at hc ⊢; omega) (by simp only at hc ⊢; omega) hsz
  · cases h
/-- an own row without its head -/
theorem own_drop {α : Type} {E : TypeId} {R : Rep α} {I : Hp} {w : World} {C : List Ch} {v : Value} {xs : List α} {m n : Nat} (h : St I w0 w (Ch.own (rSlice E R) [v] xs :: C)) (hm : m ≤ xs.length) (hn : R.size = n) : St I w0 w (Ch.own (rSlice E R) [subV v m xs.length n] (xs.drop m) :: C) := by
  obtain ⟨h1, h2, F, ⟨G, K, rfl, k, e⟩, h4, h5⟩ := h
  obtain ⟨hl, k⟩ := k
  have hlen : (xs.drop m).length = xs.length - m := List.length_drop
  rcases k with ⟨hv', rfl, rfl⟩ | ⟨g, ofs, cap, cur, K1, hv', k1, k2, k3, k4, rfl, k5⟩
  · obtain rfl : v = .slice none 0 0 := by simpa using hv'
    obtain rfl : m = 0 := by simpa using hm
    refine ⟨h1, h2, [] ++ K, ⟨[], K, rfl, ⟨by simp, .inl ⟨?_, rfl, rfl⟩⟩, e⟩, h4, h5⟩
    simp [subV, sliced]
  · obtain rfl : v = .slice (some ⟨g, ofs, none⟩) xs.length cap := by simpa using hv'
    have hk5 := k5
    rw [← List.take_append_drop m xs] at k5
    obtain ⟨c1, c2, G1, G2, f1, f2, rfl, -, q1⟩ := k5.cut2
    have hp : ((g :: (G1 ++ G2)) ++ K).Perm (((g :: G2) ++ K) ++ G1) := by
      rw [List.append_assoc]
      show (g :: ((G1 ++ G2) ++ K)).Perm (g :: (G2 ++ (K ++ G1)))
      have : ((G1 ++ G2) ++ K).Perm (G2 ++ (K ++ G1)) := by
        rw [List.append_assoc, ← List.append_assoc G2 K G1]; exact List.perm_append_comm
      exact this.cons g
    have hdr : cur.toList.drop (ofs + m * R.size) = c2 := by
      rw [← List.drop_drop, f1]
      have : (xs.take m).length = m := by rw [List.length_take]; omega
      rw [this] at f2
      exact List.drop_left' f2
    by_cases hc : cap = m
    · have hx0 : xs.drop m = [] := List.eq_nil_of_length_eq_zero (by omega)
      rw [hx0] at q1
      obtain rfl : G2 = [] := q1
      refine ⟨h1, h2, (g :: []) ++ K, ⟨g :: [], K, rfl, ⟨by rw [hlen]; omega, .inr ⟨g, ofs, 0, cur, [], ?_, k1, by rw [hlen]; omega, Nat.zero_le _, by omega, rfl, by rw [hx0]; rfl⟩⟩, e⟩, (List.nodup_append.1 (hp.nodup_iff.1 h4)).1, fun b hb => h5 b (hp.mem_iff.2 (List.mem_append_left _ hb))⟩
      rw [hlen]
      simp [subV, sliced, hc]
    · refine ⟨h1, h2, (g :: G2) ++ K, ⟨g :: G2, K, rfl, ⟨by rw [hlen]; omega, .inr ⟨g, ofs + m * R.size, cap - m, cur, G2, ?_, k1, by rw [hlen]; omega, by omega, ?_, rfl, by rw [hdr]; exact q1⟩⟩, e⟩, (List.nodup_append.1 (hp.nodup_iff.1 h4)).1, fun b hb => h5 b (hp.mem_iff.2 (List.mem_append_left _ hb))⟩
      · rw [hlen, hn]
        simp [subV, sliced, Addr.add_mid, hc]
      · have : m * R.size + (cap - m) * R.size = cap * R.size := by rw [← Nat.add_mul]; congr 1; omega
        omega
/-- an own row, seen under the header of its head -/
theorem own_take {α : Type} {E : TypeId} {R : Rep α} {I : Hp} {w : World} {C : List Ch} {v : Value} {xs : List α} {m n : Nat} (h : St I w0 w (Ch.own (rSlice E R) [v] xs :: C)) (hm : m ≤ xs.length) (hn : R.size = n) : St I w0 w (Ch.own (rSlice E R) [subV v 0 m n] (xs.take m) :: C) := by
  obtain ⟨h1, h2, F, ⟨G, K, rfl, k, e⟩, h4, h5⟩ := h
  obtain ⟨hl, k⟩ := k
  have hlen : (xs.take m).length = m := by rw [List.length_take]; omega
  rcases k with ⟨hv', rfl, rfl⟩ | ⟨g, ofs, cap, cur, K1, hv', k1, k2, k3, k4, rfl, k5⟩
  · obtain rfl : v = .slice none 0 0 := by simpa using hv'
    obtain rfl : m = 0 := by simpa using hm
    refine ⟨h1, h2, [] ++ K, ⟨[], K, rfl, ⟨by simp, .inl ⟨?_, rfl, rfl⟩⟩, e⟩, h4, h5⟩
    simp [subV, sliced]
  · obtain rfl : v = .slice (some ⟨g, ofs, none⟩) xs.length cap := by simpa using hv'
    rw [← List.take_append_drop m xs] at k5
    obtain ⟨G1, G2, rfl, q1, -⟩ := k5.parts
    have hp : ((g :: (G1 ++ G2)) ++ K).Perm (((g :: G1) ++ K) ++ G2) := by
      rw [List.append_assoc]
      show (g :: ((G1 ++ G2) ++ K)).Perm (g :: (G1 ++ (K ++ G2)))
      rw [List.append_assoc]
      exact (List.perm_append_comm.append_left G1).cons g
    refine ⟨h1, h2, (g :: G1) ++ K, ⟨g :: G1, K, rfl, ⟨by rw [hlen]; omega, .inr ⟨g, ofs, cap, cur, G1, ?_, k1, by rw [hlen]; omega, k3, k4, rfl, q1⟩⟩, e⟩, (List.nodup_append.1 (hp.nodup_iff.1 h4)).1, fun b hb => h5 b (hp.mem_iff.2 (List.mem_append_left _ hb))⟩
    rw [hlen]
    simp [subV, sliced, Addr.add]
theorem sSliceO_ok (hT : TTok P tt) {T : TypeId} {lo hi : Option Operand} (ho : o.op = .slice T x lo hi none) (h : sSliceO tt s k T x lo hi = some res) : Oks P w0 s o k res := by
  obtain ⟨d, hd, h⟩ := bind_some h
  split at h
  · rename_i E' hh hi' he hx _
    obtain ⟨r, hr, h⟩ := bind_some h
    obtain ⟨e, hE, h⟩ := bind_some h
    obtain ⟨hn, h⟩ := chkT_ok h
    have hn : e.n = r.t.size := Nat.eq_of_beq_eq_true hn
    obtain ⟨m, hm, h⟩ := bind_some h
    obtain ⟨u, hc, h⟩ := bind_some h
    have hc := chk_some hc
    obtain ⟨hp, -⟩ := rowOf_ok hr
    have hsz : r.t.rep.size = e.n := r.t.rep_size.trans hn.symm
    refine ⟨_, h, good_row (rs := []) (perm2 hp) fun J θ hf => ?_⟩
    have h1 : OpT P J w0 o (evL (envL θ s)) [Ch.own (rSlice r.E r.t.rep) [hv θ hh] r.xs] (· = subV (hv θ hh) 0 m.toNat e.n) (fun _ => [Ch.own (rSlice r.E r.t.rep) [hv θ hh] r.xs]) := opT_rd1 fun hD => opT_slice_h ((hT.get hd).el _ he) (hT.get hE).ti hD ho (opd_ev hx) (asI_ok hm θ) hc
    refine OpT.post h1 fun v w C hv' hs => ⟨trivial, ?_⟩
    subst hv'
    exact own_take hs (by omega) hsz
  · cases h
theorem sSliceD_ok (hT : TTok P tt) {T : TypeId} {lo hi : Option Operand} (ho : o.op = .slice T x lo hi none) (h : sSliceD tt s k T x lo hi = some res) : Oks P w0 s o k res := by
  obtain ⟨d, hd, h⟩ := bind_some h
  split at h
  · rename_i E' hh lo' he hx _
    obtain ⟨r, hr, h⟩ := bind_some h
    obtain ⟨e, hE, h⟩ := bind_some h
    obtain ⟨hn, h⟩ := chkT_ok h
    have hn : e.n = r.t.size := Nat.eq_of_beq_eq_true hn
    obtain ⟨m, hm, h⟩ := bind_some h
    obtain ⟨u, hc, h⟩ := bind_some h
    have hc := chk_some hc
    obtain ⟨hp, -⟩ := rowOf_ok hr
    have hsz : r.t.rep.size = e.n := r.t.rep_size.trans hn.symm
    refine ⟨_, h, good_row (rs := []) (perm2 hp) fun J θ hf => ?_⟩
    have h1 : OpT P J w0 o (evL (envL θ s)) [Ch.own (rSlice r.E r.t.rep) [hv θ hh] r.xs] (· = subV (hv θ hh) m.toNat r.xs.length e.n) (fun _ => [Ch.own (rSlice r.E r.t.rep) [hv θ hh] r.xs]) := opT_rd1 fun hD => opT_slice_l ((hT.get hd).el _ he) (hT.get hE).ti hD ho (opd_ev hx) (asI_ok hm θ) hc
    refine OpT.post h1 fun v w C hv' hs => ⟨trivial, ?_⟩
    subst hv'
    exact own_drop hs (by omega) hsz
  · cases h
theorem sub_row {h : Hdr} {ver : Nat} {E : TypeId} {t : Ty} {xs : List t.den} {l : Int} {J : Hp} {θ : Th} {r : Row} (hr : rowOf h s.chs = some r) (hv : r.ver = ver) (hm : AV.ok P w0 J θ s.nxt s.chs (.sub h ver E t xs l)) : r.ent h = (h, ver, .own (.sl E t) xs) := by
  obtain ⟨hp, -⟩ := rowOf_ok hr
  have := hm.2.2.2 (r.ent h) (hp.mem_iff.2 (by simp)) _ ⟨rfl, .inl ⟨hv, rfl⟩⟩
  show (h, r.ver, Chk.own (.sl r.E r.t) r.xs) = _
  rw [hv, show Chk.own (.sl r.E r.t) r.xs = _ from this]
theorem sSliceV_ok (hT : TTok P tt) {T : TypeId} {lo hi : Option Operand} (ho : o.op = .slice T x lo hi none) (h : sSliceV tt s k T x lo hi = some res) : Oks P w0 s o k res := by
  obtain ⟨d, hd, h⟩ := bind_some h
  split at h
  · rename_i E' hh lo' he hx _
    obtain ⟨r, hr, h⟩ := bind_some h
    obtain ⟨e, hE, h⟩ := bind_some h
    obtain ⟨hn, h⟩ := chkT_ok h
    have hn : e.n = r.t.size := Nat.eq_of_beq_eq_true hn
    obtain ⟨m, hm, h⟩ := bind_some h
    obtain ⟨u, hc, h⟩ := bind_some h
    have hc := chk_some hc
    obtain ⟨hp, -⟩ := rowOf_ok hr
    refine ⟨_, h, perm1 hp, says_plain rfl, fun J θ hf => OpT.weak (opT_rd1 (fact := (· = subV (hv θ hh) m.toNat r.xs.length e.n)) fun hD => opT_slice_l ((hT.get hd).el _ he) (hT.get hE).ti hD ho (opd_ev hx) (asI_ok hm θ) hc) (fun u hu => ?_) (fun u hu => rfl)⟩
    have hok := ent_ok hf hp
    refine ⟨⟨Nat.lt_succ_of_lt hok.1, hc, (rowOf_mem hr hok.2.1).newer (Res.newer (perm1 hp) (says_plain rfl J θ hf)) (Nat.le_succ _)⟩, ?_, fun g hg => by cases hg⟩
    rw [hu, hn]
    show subV (hv (upd θ s.nxt _) hh) _ _ _ = subV (hv θ hh) _ _ _
    rw [show hv (upd θ s.nxt _) hh = hv θ hh from hv_same Same.upd hok.1]
  · cases h
theorem sSliceW_ok (hT : TTok P tt) {T : TypeId} {lo hi : Option Operand} (ho : o.op = .slice T x lo hi none) (h : sSliceW tt s k T x lo hi = some res) : Oks P w0 s o k res := by
  obtain ⟨d, hd, h⟩ := bind_some h
  split at h
  · rename_i E' hh hi' he hx _
    obtain ⟨r, hr, h⟩ := bind_some h
    obtain ⟨e, hE, h⟩ := bind_some h
    obtain ⟨hn, h⟩ := chkT_ok h
    have hn : e.n = r.t.size := Nat.eq_of_beq_eq_true hn
    obtain ⟨m, hm, h⟩ := bind_some h
    obtain ⟨u, hc, h⟩ := bind_some h
    have hc := chk_some hc
    obtain ⟨hp, -⟩ := rowOf_ok hr
    refine ⟨_, h, perm1 hp, says_plain rfl, fun J θ hf => OpT.weak (opT_rd1 (fact := (· = subV (hv θ hh) 0 m.toNat e.n)) fun hD => opT_slice_h ((hT.get hd).el _ he) (hT.get hE).ti hD ho (opd_ev hx) (asI_ok hm θ) hc) (fun u hu => ?_) (fun u hu => rfl)⟩
    have hok := ent_ok hf hp
    refine ⟨⟨Nat.lt_succ_of_lt hok.1, hc, (rowOf_mem hr hok.2.1).newer (Res.newer (perm1 hp) (says_plain rfl J θ hf)) (Nat.le_succ _)⟩, ?_, fun g hg => by cases hg⟩
    rw [hu, hn]
    show subV (hv (upd θ s.nxt _) hh) _ _ _ = subV (hv θ hh) _ _ _
    rw [show hv (upd θ s.nxt _) hh = hv θ hh from hv_same Same.upd hok.1]
  · cases h
/-- a row changed in its place -/
theorem good_upd {e : Ent} {rest : List Ent} {t : Ty} {d : t.den} {v : Value} (hp : s.chs.Perm (e :: rest)) (h1 : v.oneCell' = true) (hop : ∀ J θ, Fine P w0 J θ s → OpT P J w0 o (evL (envL θ s)) [toCh P θ e] (· = v) (fun _ => [Ch.own t.rep [hv θ e.1] d])) : Good P w0 s o ⟨[], [e], rest, [(e.1, .own t d)], .one (.val v)⟩ := by
  refine ⟨perm2 hp, says_plain rfl, fun J θ hf => OpT.weak (hop J θ hf) (fun u hu => ?_) (fun u hu => ?_)⟩
  · have hok := ent_ok hf hp
    refine ⟨h1, hu.symm, fun g hg => ?_⟩
    obtain rfl := List.mem_singleton.1 hg
    exact ⟨Nat.lt_succ_of_lt hok.1, Nat.lt_succ_self _, trivial⟩
  · have hok := ent_ok hf hp
    show [Ch.own t.rep [hv θ e.1] d] = [Ch.own t.rep [hv (upd θ s.nxt u) e.1] d]
    rw [show hv (upd θ s.nxt u) e.1 = hv θ e.1 from hv_same Same.upd hok.1]
theorem copyRow_ent {r : Row} {q : (k : IntKind) × List Int} {h : Hdr} (hq : copyRow r = some q) : r.ent h = (h, r.ver, .own (.sl r.E (.int q.1)) q.2) := by
  obtain ⟨ver, E, t, xs, rest⟩ := r
  unfold copyRow at hq
  split at hq
  · rename_i k xs' h1 h2
    obtain rfl := Option.some.inj hq
    subst h1
    obtain rfl := eq_of_heq h2
    rfl
  · cases hq
theorem sCopy_ok (hT : TTok P tt) {T U : TypeId} (ho : o.op = .call { callee := .builtin .copy, args := #[x, y], argTypes := #[T, U] }) (h : sCopy tt s k T x y = some res) : Oks P w0 s o k res := by
  obtain ⟨d, hd, h⟩ := bind_some h
  obtain ⟨E, hE, h⟩ := bind_some h
  obtain ⟨e, he, h⟩ := bind_some h
  obtain ⟨hn, h⟩ := chkT_ok h
  have hn : e.n = 1 := Nat.eq_of_beq_eq_true hn
  obtain ⟨xv, hx, h⟩ := bind_some h
  obtain ⟨c, hc, h⟩ := bind_some h
  obtain ⟨r, hr, h⟩ := bind_some h
  obtain ⟨hver, h⟩ := chkT_ok h
  rw [Bool.and_eq_true] at hver
  have hrE : r.E = E := Nat.eq_of_beq_eq_true hver.1
  obtain ⟨q, hq, h⟩ := bind_some h
  obtain ⟨yv, hy, h⟩ := bind_some h
  obtain ⟨hp, -⟩ := rowOf_ok hr
  have hent := copyRow_ent (h := c.h) hq
  rw [hent, hrE] at hp
  have hTe := (hT.get hd).el E hE
  have hsz : (P.info? E).map (·.size) = some 1 := by have := (hT.get he).ti; rw [hn] at this; exact ti_one this
  have hto : ∀ J θ, Fine P w0 J θ s → (evL (envL θ s) x = hv θ c.h ∧ c.lo.toNat = 0) ∨ evL (envL θ s) x = subV (hv θ c.h) c.lo.toNat q.2.length 1 := by
    intro J θ hf
    unfold copyTo at hc
    split at hc
    · obtain rfl := Option.some.inj hc
      exact .inl ⟨opd_ev hx, rfl⟩
    · rename_i hh ver' E' t' xs' l
      obtain rfl := Option.some.inj hc
      have hv2 : ver' = r.ver := Nat.eq_of_beq_eq_true (by simpa using hver.2)
      have h1 := sub_row hr hv2.symm (opd_ok hf hx)
      rw [hent] at h1
      have h2 : (Chk.own (.sl r.E (.int q.1)) q.2) = Chk.own (.sl E' t') xs' := (Prod.mk.inj (Prod.mk.inj h1).2).2
      injection h2 with h3 h4
      injection h3 with h5 h6
      subst h6
      obtain rfl := eq_of_heq h4
      right
      rw [opd_ev (θ := θ) hx]
      rfl
    · cases hc
  unfold sCopyI at h
  split at h
  · rename_i hh E' k2 ys
    obtain ⟨hk, h⟩ := chkT_ok h
    have hk : q.1 = k2 := by simpa using hk
    subst hk
    obtain ⟨u, hlo, h⟩ := bind_some h
    have hlo := chk_some hlo
    rw [hrE] at h
    refine ⟨_, h, good_upd (e := (c.h, r.ver, .own (.sl E (.int q.1)) q.2)) hp rfl fun J θ hf => ?_⟩
    have l1 : c.lo.toNat ≤ q.2.length := by omega
    exact opT_copy_rd (lo := c.lo.toNat) (opd_ok hf hy).2 hTe hsz ho rfl (opd_ev hy) l1 (hto J θ hf)
  · rename_i h2 v2 E' t' xs' hi
    obtain ⟨hk, h9⟩ := chkT_ok h
    clear h
    rw [Bool.and_eq_true] at hk
    have e1 := Hdr.beq_eq hk.1
    subst e1
    have e2 : v2 = r.ver := Nat.eq_of_beq_eq_true hk.2
    subst e2
    obtain ⟨u, hlo, h9⟩ := bind_some h9
    have hlo := chk_some hlo
    obtain ⟨u, hhi, h9⟩ := bind_some h9
    have hhi := chk_some hhi
    have l1 : c.lo.toNat ≤ q.2.length := by omega
    have l2 : hi.toNat ≤ q.2.length := by omega
    rw [hrE] at h9
    refine ⟨_, h9, good_upd (e := (c.h, r.ver, .own (.sl E (.int q.1)) q.2)) hp rfl fun J θ hf => ?_⟩
    have hyo : c.h.id < s.nxt ∧ (0 ≤ hi ∧ hi ≤ (xs'.length : Int)) ∧ Mem s.chs s.nxt c.h r.ver (.own (.sl E' t') xs') := opd_ok hf hy
    have h1 : (Chk.own (.sl E (.int q.1)) q.2) = Chk.own (.sl E' t') xs' := hyo.2.2.2 (c.h, r.ver, .own (.sl E (.int q.1)) q.2) (hp.mem_iff.2 (by simp)) _ ⟨rfl, .inl ⟨rfl, rfl⟩⟩
    injection h1 with h3 h4
    injection h3 with h5 h6
    subst h6
    obtain rfl := eq_of_heq h4
    exact opT_copy_self (lo := c.lo.toNat) (hi := hi.toNat) hTe hsz ho rfl ((opd_ev hy).trans rfl) l1 l2 (hto J θ hf)
  · cases h
inductive All2 {α β : Type} (p : α → β → Prop) : List α → List β → Prop
  | nil : All2 p [] []
  | cons {a : α} {b : β} {l : List α} {m : List β} (h : p a b) (k : All2 p l m) : All2 p (a :: l) (b :: m)
theorem All2.length_eq {α β : Type} {p : α → β → Prop} {l : List α} {m : List β} (h : All2 p l m) : l.length = m.length := by
  induction h with
  | nil => rfl
  | cons _ _ ih => rw [List.length_cons, List.length_cons, ih]
/-- a row's cells, as they are -/
theorem els_raw {α : Type} {R : Rep α} (hR : R.Sh) (h1 : R.size = 1) {I : Hp} {w : World} : ∀ {xs : List α} {cur : List Value} {K : List Nat}, OwnEls R I w cur xs K → ∃ ps : List Raw, K = [] ∧ OwnEls rRaw I w cur ps [] ∧ All2 (fun p x => R.rd I [p.1] x) ps xs
  | [], cur, K, h => ⟨[], h, rfl, .nil⟩
  | x :: xs, cur, K, ⟨c, rest, G, K1, e1, e2, e3, e4, e5⟩ => by
    obtain ⟨rfl, hrd⟩ := hR e4
    obtain ⟨p, rfl⟩ := List.length_eq_one_iff.1 (e2.trans h1)
    obtain ⟨ps, rfl, k2, k3⟩ := els_raw hR h1 e5
    exact ⟨⟨p, R.rd_one hrd p (by simp)⟩ :: ps, e3, ⟨[p], rest, [], [], e1, rfl, rfl, ⟨rfl, rfl⟩, k2⟩, .cons hrd k3⟩
theorem raw_els {α : Type} {R : Rep α} (hC : Cpy R R) (h1 : R.size = 1) {I : Hp} {w : World} : ∀ {xs : List α} {ps : List Raw} {cur : List Value} {K : List Nat}, OwnEls rRaw I w cur ps K → All2 (fun p x => R.rd I [p.1] x) ps xs → K = [] ∧ OwnEls R I w cur xs []
  | [], [], cur, K, h, _ => ⟨h, rfl⟩
  | x :: xs, p :: ps, cur, K, h, hh => by
    obtain ⟨c, rest, G, K1, e1, e2, e3, e4, e5⟩ := h
    cases hh with
    | cons hp hps =>
      obtain ⟨rfl, e4⟩ := e4
      obtain rfl : c = [p.1] := e4
      obtain ⟨rfl, k⟩ := raw_els hC h1 e5 hps
      exact ⟨e3, [p.1], rest, [], [], e1, h1.symm, rfl, hC hp, k⟩
  | [], _ :: _, _, _, _, hh => by cases hh
  | _ :: _, [], _, _, _, hh => by cases hh
theorem row_raw {α : Type} {E : TypeId} {R : Rep α} (hR : R.Sh) (h1 : R.size = 1) {I : Hp} {w : World} {C : List Ch} {v : Value} {xs : List α} (h : St I w0 w (Ch.own (rSlice E R) [v] xs :: C)) : ∃ ps : List Raw, All2 (fun p x => R.rd I [p.1] x) ps xs ∧ St I w0 w (Ch.own (rSlice E rRaw) [v] ps :: C) := by
  obtain ⟨a1, a2, F, ⟨G, K, rfl, ⟨hl, k⟩, e⟩, a4, a5⟩ := h
  rcases k with ⟨hv', rfl, rfl⟩ | ⟨g, ofs, cap, cur, K1, hv', k1, k2, k3, k4, rfl, k5⟩
  · exact ⟨[], .nil, a1, a2, [] ++ K, ⟨[], K, rfl, ⟨Nat.zero_le _, .inl ⟨hv', rfl, rfl⟩⟩, e⟩, a4, a5⟩
  · obtain ⟨ps, rfl, q1, q2⟩ := els_raw hR h1 k5
    have hlen := q2.length_eq
    exact ⟨ps, q2, a1, a2, [g] ++ K, ⟨[g], K, rfl, ⟨by rw [hlen]; exact hl, .inr ⟨g, ofs, cap, cur, [], by rw [hlen]; exact hv', k1, by rw [hlen]; exact k2, k3, by rw [h1] at k4; exact k4, rfl, q1⟩⟩, e⟩, a4, a5⟩
theorem raw_row {α : Type} {E : TypeId} {R : Rep α} (hC : Cpy R R) (h1 : R.size = 1) {I : Hp} {w : World} {C : List Ch} {v : Value} {xs : List α} {ps : List Raw} (hp : All2 (fun p x => R.rd I [p.1] x) ps xs) (h : St I w0 w (Ch.own (rSlice E rRaw) [v] ps :: C)) : St I w0 w (Ch.own (rSlice E R) [v] xs :: C) := by
  obtain ⟨a1, a2, F, ⟨G, K, rfl, ⟨hl, k⟩, e⟩, a4, a5⟩ := h
  have hlen := hp.length_eq
  rcases k with ⟨hv', rfl, rfl⟩ | ⟨g, ofs, cap, cur, K1, hv', k1, k2, k3, k4, rfl, k5⟩
  · cases hp
    exact ⟨a1, a2, [] ++ K, ⟨[], K, rfl, ⟨Nat.zero_le _, .inl ⟨hv', rfl, rfl⟩⟩, e⟩, a4, a5⟩
  · obtain ⟨rfl, q1⟩ := raw_els hC h1 k5 hp
    exact ⟨a1, a2, [g] ++ K, ⟨[g], K, rfl, ⟨by rw [← hlen]; exact hl, .inr ⟨g, ofs, cap, cur, [], by rw [← hlen]; exact hv', k1, by rw [← hlen]; exact k2, k3, by rw [h1]; exact k4, rfl, q1⟩⟩, e⟩, a4, a5⟩
theorem rd_raw {α : Type} {E : TypeId} {R : Rep α} (h1 : R.size = 1) {I : Hp} {v : Value} {xs : List α} (h : (rSlice E R).rd I [v] xs) : ∃ ps : List Raw, All2 (fun p x => R.rd I [p.1] x) ps xs ∧ (rSlice E rRaw).rd I [v] ps := by
  obtain ⟨ao, cap, e, hl, h⟩ := h
  obtain rfl : v = .slice ao xs.length cap := by simpa using e
  rcases h with rfl | ⟨b, off, ccs, t, fr, rfl, h2, h3⟩
  · exact ⟨[], .nil, ao, cap, rfl, hl, .inl rfl⟩
  · have key : ∀ (xs : List α) (k0 : Nat), (∀ i x, xs[i]? = some x → ∃ c : List Value, c.length = R.size ∧ (∀ j, j < R.size → ccs.toList[off + (k0 + i) * R.size + j]? = c[j]?) ∧ R.rd I c x) → ∃ ps : List Raw, All2 (fun p x => R.rd I [p.1] x) ps xs ∧ ∀ i p, ps[i]? = some p → ccs.toList[off + (k0 + i)]? = some p.1 := by
      intro xs
      induction xs with
      | nil => intro k0 _; exact ⟨[], .nil, fun i p hp => by simp at hp⟩
      | cons x xs ih =>
        intro k0 h
        obtain ⟨c, e1, e2, e3⟩ := h 0 x rfl
        obtain ⟨p, rfl⟩ := List.length_eq_one_iff.1 (e1.trans h1)
        obtain ⟨ps, q1, q2⟩ := ih (k0 + 1) fun i y hy => by
          have := h (i + 1) y (by simpa using hy)
          rwa [show k0 + (i + 1) = k0 + 1 + i from by omega] at this
        refine ⟨⟨p, R.rd_one e3 p (by simp)⟩ :: ps, .cons e3 q1, fun i u hu => ?_⟩
        cases i with
        | zero =>
          obtain rfl : ⟨p, R.rd_one e3 p (by simp)⟩ = u := by simpa using hu
          have := e2 0 (by rw [h1]; exact Nat.one_pos)
          rw [h1, Nat.mul_one, Nat.add_zero] at this
          rw [Nat.add_zero] at this ⊢
          exact this
        | succ i =>
          have := q2 i u (by simpa using hu)
          rwa [show k0 + 1 + i = k0 + (i + 1) from by omega] at this
    obtain ⟨ps, q1, q2⟩ := key xs 0 (fun i x hx => by rw [Nat.zero_add]; exact h3 i x hx)
    have hlen := q1.length_eq
    refine ⟨ps, q1, _, cap, by rw [hlen], by rw [hlen]; exact hl, .inr ⟨b, off, ccs, t, fr, rfl, h2, fun i p hp => ?_⟩⟩
    have k1 := q2 i p hp
    refine ⟨[p.1], rfl, fun j hj => ?_, rfl⟩
    have hj : j = 0 := by have : j < 1 := hj; omega
    subst hj
    rw [Nat.zero_add] at k1
    show ccs.toList[off + i * 1 + 0]? = _
    rw [Nat.mul_one, Nat.add_zero]
    exact k1
theorem forall2_drop {α β : Type} {p : α → β → Prop} : ∀ {xs : List α} {ys : List β} (n : Nat), All2 p xs ys → All2 p (xs.drop n) (ys.drop n)
  | _, _, 0, h => h
  | _, _, n + 1, .nil => .nil
  | _, _, n + 1, .cons _ h => forall2_drop n h
theorem appI_nil {α : Type} {b : Nat} {xs zs : List α} (h : appI b [] xs = some zs) : zs = xs ∧ (∀ {β : Type} (ys : List β), ys.length = xs.length → appI b [] ys = some ys) := by
  obtain ⟨h1, h2⟩ := appI_some h
  refine ⟨h1, fun ys hy => ?_⟩
  unfold appI
  rw [if_pos (by rw [hy]; exact h2)]; rfl
theorem clone_own {E' : TypeId} {α : Type} {R : Rep α} (hR : R.Sh) (hC : Cpy R R) (h1 : R.size = 1) {kf : FuncId} {E b : Nat} (hcl : CloneOk P kf E b) {xs zs : List α} {l : Nat} (hl : l ≤ xs.length) (hz : appI b [] (xs.drop l) = some zs) {v u : Value} (hu : u = subV v l xs.length 1 ∨ (l = 0 ∧ u = v)) {ts : Array TypeId} {J : Hp} {θ : Th} (ho : o.op = .call { callee := .value (.func kf), args := #[x], argTypes := ts }) {ev : Operand → Value} (hev : ev x = u) (hevf : ev (.func kf) = .func (.func kf) #[] #[]) :
    OpT P J w0 o ev [Ch.own (rSlice E' R) [v] xs] (fun _ => True) (fun r => [Ch.own (rSlice E' R) [v] xs, Ch.own (rSlice E R) [r] zs]) := by
  obtain ⟨rfl, happ⟩ := appI_nil hz
  intro w C hs
  obtain ⟨ps, hp, hs1⟩ := row_raw hR h1 hs
  have hlen := hp.length_eq
  have h2 : OpT P J w0 o ev ([Ch.own (rSlice E' rRaw) [v] ps] ++ []) (fun _ => True) (fun r => [Ch.own (rSlice E' rRaw) [v] ps] ++ [Ch.own (rSlice E rRaw) [r] (ps.drop l)]) := by
    refine OpT_lend (fun v => ⟨dp_own (dp_slice dp_raw), trivial⟩) fun J' hJ hrd hbl => ?_
    have hr := hrd (rSlice E' rRaw) [v] ps (by simp)
    have hr2 : (rSlice E' rRaw).rd J' [u] (ps.drop l) := by
      rcases hu with rfl | ⟨rfl, rfl⟩
      · rw [← hlen]
        exact rd_sub_l hr (by omega) rfl
      · exact hr
    exact opT_call hcl.1 ho hevf (by simp [hev]) (hcl.2 E' J' w0 u (ps.drop l) (ps.drop l) hr2 (happ _ (by rw [List.length_drop, List.length_drop, hlen])))
  have := h2 w C (by simpa using hs1)
  refine this.imp fun r w' hr => ⟨trivial, ?_⟩
  have h3 : St J w0 w' (Ch.own (rSlice E' rRaw) [v] ps :: Ch.own (rSlice E rRaw) [r] (ps.drop l) :: C) := by simpa using hr.2
  have h4 := raw_row hC h1 hp h3
  have h5 := raw_row hC h1 (forall2_drop l hp) (h4.perm (List.Perm.swap _ _ _))
  exact h5.perm (List.Perm.swap _ _ _)
theorem clone_rd {E' : TypeId} {α : Type} {R : Rep α} (hC : Cpy R R) (h1 : R.size = 1) {kf : FuncId} {E b : Nat} (hcl : CloneOk P kf E b) {xs zs : List α} (hz : appI b [] xs = some zs) {v : Value} {ts : Array TypeId} {J : Hp} (hr : (rSlice E' R).rd J [v] xs) (ho : o.op = .call { callee := .value (.func kf), args := #[x], argTypes := ts }) {ev : Operand → Value} (hev : ev x = v) (hevf : ev (.func kf) = .func (.func kf) #[] #[]) :
    OpT P J w0 o ev [] (fun _ => True) (fun r => [Ch.own (rSlice E R) [r] zs]) := by
  obtain ⟨rfl, happ⟩ := appI_nil hz
  obtain ⟨ps, hp, hr2⟩ := rd_raw h1 hr
  have := opT_call (P := P) (w0 := w0) (o := o) hcl.1 ho hevf (by simp [hev]) (hcl.2 E' J w0 v ps ps hr2 (happ _ hp.length_eq))
  exact OpT.post this fun r w C _ hs => ⟨trivial, raw_row hC h1 hp hs⟩
theorem good_row1 {e : Ent} {rest : List Ent} {E : TypeId} {t : Ty} {xs : List t.den} (hp : s.chs.Perm (e :: rest)) (hop : ∀ J θ, Fine P w0 J θ s → OpT P J w0 o (evL (envL θ s)) [toCh P θ e] (fun _ => True) (fun v => [toCh P θ e, Ch.own (Ty.sl E t).rep [v] xs])) : Good P w0 s o ⟨[e], [], rest, [(⟨s.nxt, []⟩, .own (.sl E t) xs)], .one (.own ⟨s.nxt, []⟩)⟩ :=
  good_row (rs := [e]) (ns := []) hp fun J θ hf => fun w C hs => (hop J θ hf w C hs).imp fun v w hv => ⟨hv.1, hv.2.perm ((List.Perm.swap _ _ _).append_right C)⟩
theorem sClone_ok {kf : FuncId} {E b : Nat} (hcl : CloneOk P kf E b) {ts : Array TypeId} (ho : o.op = .call { callee := .value (.func kf), args := #[x], argTypes := ts }) (h : sClone s k E b x = some res) : Oks P w0 s o k res := by
  unfold sClone at h
  split at h
  · rename_i hh ver E' t xs l hx
    obtain ⟨r, hr, h⟩ := bind_some h
    obtain ⟨hc, h⟩ := chkT_ok h
    rw [Bool.and_eq_true, Bool.and_eq_true] at hc
    have hver := Nat.eq_of_beq_eq_true hc.1
    have hsz : t.size = 1 := Nat.eq_of_beq_eq_true hc.2.2
    obtain ⟨zs, hz, h⟩ := bind_some h
    obtain ⟨hp, -⟩ := rowOf_ok hr
    refine ⟨_, h, good_row1 hp fun J θ hf => ?_⟩
    have hxo := opd_ok hf hx
    have he := sub_row hr hver hxo
    rw [he]
    refine clone_own (Ty.sh_ok hc.2.1) (Ty.cpy hc.2.1) (t.rep_size.trans hsz) hcl (l := l.toNat) (by have := hxo.2.1; omega) hz (.inl ?_) (J := J) (θ := θ) ho rfl rfl
    rw [← hsz]
    exact opd_ev hx
  · rename_i hh hx
    obtain ⟨r, hr, h⟩ := bind_some h
    obtain ⟨hc, h⟩ := chkT_ok h
    rw [Bool.and_eq_true] at hc
    have hsz : r.t.size = 1 := Nat.eq_of_beq_eq_true hc.2
    obtain ⟨zs, hz, h⟩ := bind_some h
    obtain ⟨hp, -⟩ := rowOf_ok hr
    refine ⟨_, h, good_row1 hp fun J θ hf => ?_⟩
    exact clone_own (Ty.sh_ok hc.1) (Ty.cpy hc.1) (r.t.rep_size.trans hsz) hcl (l := 0) (Nat.zero_le _) (by simpa using hz) (.inr ⟨rfl, opd_ev hx⟩) (J := J) (θ := θ) ho rfl rfl
  · rename_i hh E' t xs hx
    obtain ⟨hc, h⟩ := chkT_ok h
    rw [Bool.and_eq_true] at hc
    have hsz : t.size = 1 := Nat.eq_of_beq_eq_true hc.2
    obtain ⟨zs, hz, h⟩ := bind_some h
    exact ⟨_, h, good_row (rs := []) (ns := []) (List.Perm.refl _) fun J θ hf => clone_rd (Ty.cpy hc.1) (t.rep_size.trans hsz) hcl hz (opd_ok hf hx).2 ho (opd_ev hx) rfl⟩
  · cases h
end
end Go.Proofs.YtimjccbdngajoaaGreat.R
/- Boxes opened; trees frozen: what turns in a state between operations. No program text is named here. -/
set_option linter.unusedVariables false
set_option linter.unusedSimpArgs false
set_option linter.unnecessarySimpa false
set_option linter.unusedSectionVars false
namespace Go.Proofs.YtimjccbdngajoaaGreat.R
open Go.RowKit
open Go.Proofs.YtimjccbdngajoaaGreat.D

/-! ### What stays -/
structure Fr (s : Sg) (θ : Th) (s' : Sg) (θ' : Th) : Prop where
  le : s.nxt ≤ s'.nxt
  same : Same s.nxt θ θ'
  env : ∀ e ∈ s'.env, e.2.1 < s.nxt → e ∈ s.env
  chs : Newer s.nxt s.chs s'.chs
section
variable {s s1 s2 : Sg} {θ θ1 θ2 : Th}
theorem Fr.rfl : Fr s θ s θ := ⟨Nat.le_refl _, Same.rfl, fun e he _ => he, Newer.rfl⟩
theorem Fr.trans (h : Fr s θ s1 θ1) (k : Fr s1 θ1 s2 θ2) : Fr s θ s2 θ2 :=
  ⟨Nat.le_trans h.le k.le, h.same.trans k.same h.le, fun e he hv => h.env e (k.env e he (Nat.lt_of_lt_of_le hv h.le)) hv, fun e he h' ver c hs => by
    rcases k.chs e he h' ver c hs with h1 | ⟨e1, he1, hs1⟩
    · exact .inl (Nat.le_trans h.le h1)
    · exact h.chs e1 he1 h' ver c hs1⟩
theorem Fr.put {d : Option Nat} {v : AV} {chs : List Ent} (hs : Same s.nxt θ θ1) (hc : Newer s.nxt s.chs chs) : Fr s θ ⟨putE d s.nxt v s.env, chs, s.nxt + 1⟩ θ1 :=
  ⟨Nat.le_succ _, hs, fun e he hv => by
    rcases mem_putE he with h | h
    · rw [h.2] at hv; exact absurd hv (Nat.lt_irrefl _)
    · exact h, hc⟩
end

/-! ### Slots that lead elsewhere -/
def replE (p : AV → Bool) (x : AV) : Nat → List (Nat × Nat × AV) → List (Nat × Nat × AV)
  | _, [] => []
  | k, e :: l => (match p e.2.2 with
    | true => (e.1, k, x)
    | false => e) :: replE p x (k + 1) l
section
variable {P : Program} {I J J' : Hp} {w0 w : World} {F : Ch} {n : Nat} {θ θ' : Th} {s : Sg} {a : Act}
theorem replE_mem {p : AV → Bool} {x : AV} {e : Nat × Nat × AV} : ∀ {l : List (Nat × Nat × AV)} {k : Nat}, e ∈ replE p x k l → (e ∈ l) ∨ (e.2.2 = x ∧ k ≤ e.2.1 ∧ e.2.1 < k + l.length ∧ ∃ e0 ∈ l, e0.1 = e.1 ∧ p e0.2.2 = true)
  | [], k, h => by cases h
  | e0 :: l, k, h => by
    rcases List.mem_cons.1 h with h | h
    · cases hp : p e0.2.2 with
      | true => rw [hp] at h; subst h; exact .inr ⟨rfl, Nat.le_refl _, by show k < k + (l.length + 1); omega, e0, by simp, rfl, hp⟩
      | false => rw [hp] at h; subst h; exact .inl (by simp)
    · rcases replE_mem h with h | ⟨h1, h2, h3, e1, h4, h5⟩
      · exact .inl (by simp [h])
      · exact .inr ⟨h1, by omega, by rw [List.length_cons]; omega, e1, by simp [h4], h5⟩
theorem replE_nd {p : AV → Bool} {x : AV} : ∀ {l : List (Nat × Nat × AV)} {k : Nat}, l.Pairwise (fun a b => a.2.1 ≠ b.2.1) → (∀ e ∈ l, e.2.1 < k) → (replE p x k l).Pairwise fun a b => a.2.1 ≠ b.2.1
  | [], _, _, _ => List.Pairwise.nil
  | e0 :: l, k, h, hk => by
    obtain ⟨h1, h2⟩ := List.pairwise_cons.1 h
    refine List.pairwise_cons.2 ⟨fun e he => ?_, replE_nd h2 fun e he => Nat.lt_succ_of_lt (hk e (by simp [he]))⟩
    have h0 := hk e0 (by simp)
    rcases replE_mem he with he | ⟨-, k2, -, -⟩
    · cases hp : p e0.2.2 with
      | true =>
        have := hk e (by simp [he])
        show k ≠ e.2.1
        omega
      | false => exact h1 e he
    · cases hp : p e0.2.2 with
      | true => show k ≠ e.2.1; omega
      | false => show e0.2.1 ≠ e.2.1; omega
theorem replE_envL {p : AV → Bool} {x : AV} : ∀ {l : List (Nat × Nat × AV)} {k : Nat}, (∀ e ∈ l, e.2.2.v θ' = e.2.2.v θ) → (∀ e ∈ l, p e.2.2 = true → x.v θ' = e.2.2.v θ) → (replE p x k l).map (fun e => (e.1, e.2.2.v θ')) = l.map fun e => (e.1, e.2.2.v θ)
  | [], _, _, _ => rfl
  | e0 :: l, k, h, hp => by
    rw [replE, List.map_cons, List.map_cons, replE_envL (fun e he => h e (by simp [he])) fun e he => hp e (by simp [he])]
    congr 1
    cases hq : p e0.2.2 with
    | true => show (e0.1, x.v θ') = _; rw [hp e0 (by simp) hq]
    | false => show (e0.1, e0.2.2.v θ') = _; rw [h e0 (by simp)]
/-- other entries, a greater frozen part, slots that lead elsewhere -/
theorem Sim.repl {p : AV → Bool} {x : AV} {chs' : List Ent} (hS : Sim P I w0 F n J θ s a w) (hs : Same s.nxt θ θ') (hJ : J.le J') (hst : St J' w0 w (chs'.map (toCh P θ') ++ [F])) (hn : Newer s.nxt s.chs chs') (hok : ∀ e ∈ chs', okE P w0 J' θ' (s.nxt + 1) chs' e)
    (hx : x.ok P w0 J' θ' (s.nxt + 1) chs') (hp : ∀ e ∈ s.env, p e.2.2 = true → x.v θ' = e.2.2.v θ) : Sim P I w0 F n J' θ' ⟨replE p x (s.nxt + 1) s.env, chs', s.nxt + 1 + s.env.length⟩ a w ∧ Fr s θ ⟨replE p x (s.nxt + 1) s.env, chs', s.nxt + 1 + s.env.length⟩ θ' := by
  have hle : s.nxt + 1 ≤ s.nxt + 1 + s.env.length := Nat.le_add_right _ _
  refine ⟨⟨hS.le.trans hJ, ?_, hst, fun e he => ?_, fun e he => ?_, replE_nd hS.fine.nd fun e he => Nat.lt_succ_of_lt (hS.fine.ver e he), fun e he => okE_same Same.rfl hle Newer.rfl (hok e he) Hp.le.rfl⟩, by show s.nxt ≤ s.nxt + 1 + s.env.length; omega, hs, fun e he hv => ?_, hn⟩
  · have : envL θ' ⟨replE p x (s.nxt + 1) s.env, chs', s.nxt + 1 + s.env.length⟩ = envL θ s := replE_envL (fun e he => AV.v_same hs (hS.fine.env e he)) hp
    rw [this]; exact hS.agr
  · rcases replE_mem he with he | ⟨h1, -⟩
    · exact AV.ok_same hs (by show s.nxt ≤ s.nxt + 1 + s.env.length; omega) hn (hS.fine.env e he) hJ
    · rw [h1]; exact AV.ok_same Same.rfl hle Newer.rfl hx Hp.le.rfl
  · rcases replE_mem he with he | ⟨-, h2, h3, -⟩
    · have := hS.fine.ver e he
      show e.2.1 < s.nxt + 1 + s.env.length
      omega
    · exact h3
  · rcases replE_mem he with he | ⟨-, h2, -⟩
    · exact he
    · exfalso; omega
end

/-! ### Boxes opened -/
def openH (h : Hdr) (s : Sg) : Option Sg := (pull h s.chs).bind fun r => match r.1.2.2 with
  | .box T t d => some ⟨s.env, (h, s.nxt, .blk T (cellsOwn s.nxt (fun j => [j]) t d 0)) :: ((chsOwn s.nxt (fun j => [j]) t d 0).map (fun g => (g.1, s.nxt, g.2)) ++ r.2), s.nxt + 1⟩
  | _ => none
section
variable {P : Program} {I J : Hp} {w0 w : World} {F : Ch} {n : Nat} {θ : Th} {s s' : Sg} {a : Act} {h : Hdr}
theorem openH_ok (hs : openH h s = some s') (hS : Sim P I w0 F n J θ s a w) : ∃ θ', Sim P I w0 F n J θ' s' a w ∧ Fr s θ s' θ' := by
  obtain ⟨r, hr, hs⟩ := bind_some hs
  obtain ⟨p, k⟩ := pull_ok hr
  obtain ⟨⟨h2, ver, c⟩, rest⟩ := r
  obtain rfl : h2 = h := k
  cases c with
  | box T t d =>
    obtain rfl := Option.some.inj (show some _ = some s' from hs)
    have hok := hS.fine.chs _ (p.mem_iff.2 (List.mem_cons_self ..))
    have h0 := hS.st.perm ((p.map (toCh P θ)).append_right [F])
    have h1 : St J w0 w (Ch.box (bk (hv θ h2)) T t.rep d :: (rest.map (toCh P θ) ++ [F])) := h0
    obtain ⟨cells, h1⟩ := St.box.1 h1
    let θ' := upd θ s.nxt (.agg cells.toArray)
    have hsame : Same s.nxt θ θ' := Same.upd
    have h3 := h1.perm (List.Perm.swap _ _ _)
    obtain ⟨k1, k2, k3, k4⟩ := cellsOwn_fine (P := P) (m := s.nxt) (θ := θ') (pth := fun j => [j]) (n := s.nxt + 1) (Nat.lt_succ_self _) t d 0 cells _ (fun i v hv' => by
      show vg (upd θ s.nxt (.agg cells.toArray) s.nxt) [0 + i] = v
      rw [upd_self, Nat.zero_add]
      exact vg_agg (by simpa using hv')) h3
    have hmem : ∀ e, e ∈ rest → e ∈ s.chs := fun e he => p.mem_iff.2 (List.mem_cons_of_mem _ he)
    have hnew : Newer s.nxt s.chs ((h2, s.nxt, .blk T (cellsOwn s.nxt (fun j => [j]) t d 0)) :: ((chsOwn s.nxt (fun j => [j]) t d 0).map (fun g => (g.1, s.nxt, g.2)) ++ rest)) := fun e he h' ver' c hs' => by
      rcases List.mem_cons.1 he with rfl | he
      · obtain ⟨rfl, hs'⟩ := hs'
        rcases hs' with ⟨h1, -⟩ | hs'
        · exact .inl (Nat.le_of_eq h1)
        · exact hs'.elim
      · rcases List.mem_append.1 he with he | he
        · obtain ⟨g, hg, rfl⟩ := List.mem_map.1 he
          rcases hs'.2 with ⟨h1, -⟩ | hs'
          · exact .inl (Nat.le_of_eq h1)
          · exact (easy_says (chsOwn_easy t d 0 g hg) hs').elim
        · exact .inr ⟨e, hmem e he, hs'⟩
    refine ⟨θ', ⟨hS.le, ?_, ?_, fun e he => AV.ok_same hsame (Nat.le_succ _) hnew (hS.fine.env e he) Hp.le.rfl, fun e he => Nat.lt_succ_of_lt (hS.fine.ver e he), hS.fine.nd, fun e he => ?_⟩, Nat.le_succ _, hsame, fun e he _ => he, hnew⟩
    · show Agr n a (envL θ' s)
      rw [envL_same hsame hS.fine.env]; exact hS.agr
    · rw [List.map_cons, List.map_append, List.map_map]
      have e1 : toCh P θ' (h2, s.nxt, Chk.blk T (cellsOwn s.nxt (fun j => [j]) t d 0)) = Ch.blk (bk (hv θ h2)) cells T := by
        show Ch.blk (bk (hv θ' h2)) ((cellsOwn s.nxt (fun j => [j]) t d 0).map (·.v θ')) T = _
        rw [k2, hv_same hsame hok.1]
      rw [e1, map_toCh_same hsame fun e he => hS.fine.chs e (hmem e he)]
      have := k4.perm (List.perm_middle (l₁ := (chsOwn s.nxt (fun j => [j]) t d 0).map fun g => toCh P θ' (g.1, s.nxt, g.2)))
      rw [List.cons_append, List.append_assoc]
      exact this
    · rcases List.mem_cons.1 he with rfl | he
      · exact ⟨Nat.lt_succ_of_lt hok.1, Nat.lt_succ_self _, k1⟩
      · rcases List.mem_append.1 he with he | he
        · obtain ⟨g, hg, rfl⟩ := List.mem_map.1 he
          exact easy_ok (chsOwn_easy t d 0 g hg) (by rw [k3 g hg]; exact Nat.lt_succ_self _) (Nat.lt_succ_self _)
        · exact okE_same hsame (Nat.le_succ _) hnew (hS.fine.chs e (hmem e he)) Hp.le.rfl
  | _ => cases hs
end
def boxHdrs : List Ent → List Hdr
  | [] => []
  | (h, _, .box _ _ _) :: l => h :: boxHdrs l
  | _ :: l => boxHdrs l
def openL : List Hdr → Sg → Sg
  | [], s => s
  | h :: hs, s => openL hs (match openH h s with
    | some s' => s'
    | none => s)
def openA (s : Sg) : Sg := openL (boxHdrs s.chs) s

/-! ### Trees frozen -/
def isOwnH (h : Hdr) : AV → Bool
  | .one (.own h') => Hdr.beq h' h
  | _ => false
def isPtrH (h : Hdr) : AV → Bool
  | .one (.ptr h' off) => Hdr.beq h' h && Nat.beq off 0
  | _ => false
abbrev Trs := List (TypeId × TypeId × Ty)
def trOf (l : Trs) (T : TypeId) : Option (TypeId × Ty) := match l with
  | [] => none
  | (U, x) :: l => if Nat.beq U T then some x else trOf l T
/-- a tree of the function's own -/
def frzOwn (h : Hdr) (s : Sg) : Option Sg := (pull h s.chs).bind fun r => match r.1.2.2 with
  | .own (.tree T E t) d => some ⟨replE (isOwnH h) (.one (.rd h (.tree T E t) d)) (s.nxt + 1) s.env, r.2, s.nxt + 1 + s.env.length⟩
  | _ => none
def kidsOf (T E : TypeId) (t : Ty) (x : LV) (chs : List Ent) : Option (List (Tr t.den) × List Ent × List Ent) := match x with
  | .own h => (rowOf h chs).bind fun r => (castTy (.sl r.E r.t) (.sl E (.tree T E t)) r.xs).bind fun ks => some (ks, [r.ent h], r.rest)
  | x => (lvSl E (.tree T E t) x).bind fun ks => some (ks, [], chs)
/-- a block becomes a node -/
def frzPtr (tr : Trs) (h : Hdr) (s : Sg) : Option Sg := (blkOf h s.chs).bind fun b => (trOf tr b.T).bind fun q => (rdData q.2 b.cells).bind fun a => match a.2 with
  | [kid] => (kidsOf b.T q.1 q.2 kid b.rest).bind fun ks => some ⟨replE (isPtrH h) (.one (.rd ⟨s.nxt, []⟩ (.tree b.T q.1 q.2) (.node a.1 ks.1))) (s.nxt + 1) s.env, ks.2.2, s.nxt + 1 + s.env.length⟩
  | _ => none
section
variable {P : Program} {I J : Hp} {w0 w : World} {F : Ch} {n : Nat} {θ : Th} {s s' : Sg} {a : Act} {h : Hdr}
theorem newer_sub {m : Nat} {chs chs' : List Ent} (h : ∀ e, e ∈ chs' → e ∈ chs) : Newer m chs chs' := fun e he h' ver c hs => .inr ⟨e, h e he, hs⟩
theorem frzOwn_ok (hs : frzOwn h s = some s') (hS : Sim P I w0 F n J θ s a w) : ∃ J', J.le J' ∧ Sim P I w0 F n J' θ s' a w ∧ Fr s θ s' θ := by
  obtain ⟨r, hr, hs⟩ := bind_some hs
  obtain ⟨p, k⟩ := pull_ok hr
  obtain ⟨⟨h2, ver, c⟩, rest⟩ := r
  obtain rfl : h2 = h := k
  cases c with
  | own t' d =>
    cases t' with
    | tree T E t =>
      obtain rfl := Option.some.inj (show some _ = some s' from hs)
      have hok := hS.fine.chs _ (p.mem_iff.2 (List.mem_cons_self ..))
      have h1 : St J w0 w (Ch.own (Ty.tree T E t).rep [hv θ h2] d :: (rest.map (toCh P θ) ++ [F])) := hS.st.perm ((p.map (toCh P θ)).append_right [F])
      obtain ⟨J', hJ, hrd, hst⟩ := h1.freeze
      have hmem : ∀ e, e ∈ rest → e ∈ s.chs := fun e he => p.mem_iff.2 (List.mem_cons_of_mem _ he)
      have hnew : Newer s.nxt s.chs rest := newer_sub hmem
      refine ⟨J', hJ, hS.repl Same.rfl hJ hst hnew (fun e he => okE_same Same.rfl (Nat.le_succ _) hnew (hS.fine.chs e (hmem e he)) hJ) ⟨Nat.lt_succ_of_lt hok.1, hrd⟩ fun e he hp => ?_⟩
      unfold isOwnH at hp
      split at hp
      · rename_i h' heq
        rw [heq, Hdr.beq_eq hp]; rfl
      · cases hp
    | _ => cases hs
  | _ => cases hs
theorem frzPtr_ok {tr : Trs} (hs : frzPtr tr h s = some s') (hS : Sim P I w0 F n J θ s a w) : ∃ J' θ', J.le J' ∧ Sim P I w0 F n J' θ' s' a w ∧ Fr s θ s' θ' := by
  obtain ⟨b, hb, hs⟩ := bind_some hs
  obtain ⟨⟨E, t⟩, hq, hs⟩ := bind_some hs
  obtain ⟨c, hc, hs⟩ := bind_some hs
  have p := blkOf_ok hb
  have hok := hS.fine.chs _ (p.mem_iff.2 (List.mem_cons_self ..))
  have hcells : ∀ x ∈ b.cells, x.ok P w0 J θ s.nxt := hok.2.2
  obtain ⟨c1, e1, k1⟩ := rdData_ok (J := J) (θ := θ) hc hcells
  split at hs
  · rename_i kid hkid
    obtain ⟨ks, hks, hs⟩ := bind_some hs
    obtain rfl := Option.some.inj hs
    have h0 := hS.st.perm ((p.map (toCh P θ)).append_right [F])
    have h1 : St J w0 w (Ch.blk (bk (hv θ h)) (b.cells.map (·.v θ)) b.T :: (b.rest.map (toCh P θ) ++ [F])) := h0
    have hcv : b.cells.map (·.v θ) = c1.map (·.v θ) ++ [kid.v θ] := by rw [e1, hkid, List.map_append]; rfl
    let θ' := upd θ s.nxt (.pointer (some ⟨bk (hv θ h), 0, none⟩))
    have hsame : Same s.nxt θ θ' := Same.upd
    -- the kids
    have key : ∃ J1, J.le J1 ∧ (Ty.sl E (.tree b.T E t)).rep.rd J1 [kid.v θ] ks.1 ∧ St J1 w0 w (Ch.blk (bk (hv θ h)) (b.cells.map (·.v θ)) b.T :: (ks.2.2.map (toCh P θ) ++ [F])) ∧ ∀ e, e ∈ ks.2.2 → e ∈ b.rest := by
      unfold kidsOf at hks
      split at hks
      · rename_i hk
        obtain ⟨r, hr, hks⟩ := bind_some hks
        obtain ⟨xs, hxs, hks⟩ := bind_some hks
        obtain rfl := Option.some.inj hks
        obtain ⟨pr, -⟩ := rowOf_ok hr
        have h2 : St J w0 w (Ch.own (Ty.sl r.E r.t).rep [hv θ hk] r.xs :: Ch.blk (bk (hv θ h)) (b.cells.map (·.v θ)) b.T :: (r.rest.map (toCh P θ) ++ [F])) := by
          refine (h1.perm ?_ : St J w0 w _)
          have := ((pr.map (toCh P θ)).append_right [F]).cons (Ch.blk (bk (hv θ h)) (b.cells.map (·.v θ)) b.T)
          exact this.trans (List.Perm.swap _ _ _)
        obtain ⟨J1, hJ1, hrd, hst⟩ := h2.freeze
        exact ⟨J1, hJ1, castTy_rd hxs hrd, hst, fun e he => pr.mem_iff.2 (List.mem_cons_of_mem _ he)⟩
      · obtain ⟨xs, hxs, hks⟩ := bind_some hks
        obtain rfl := Option.some.inj hks
        exact ⟨J, Hp.le.rfl, lvSl_ok hxs (hcells kid (by rw [e1, hkid]; simp)), h1, fun e he => he⟩
    obtain ⟨J1, hJ1, hk1, hst1, hm1⟩ := key
    obtain ⟨J2, hJ2, hb2, hst2⟩ := hst1.freeze_blk
    have hJ : J.le J2 := hJ1.trans hJ2
    have hmem : ∀ e, e ∈ ks.2.2 → e ∈ s.chs := fun e he => p.mem_iff.2 (List.mem_cons_of_mem _ (hm1 e he))
    have hnew : Newer s.nxt s.chs ks.2.2 := newer_sub hmem
    have hpv : hv θ' ⟨s.nxt, []⟩ = .pointer (some ⟨bk (hv θ h), 0, none⟩) := upd_self
    refine ⟨J2, θ', hJ, hS.repl hsame hJ ?_ hnew (fun e he => okE_same hsame (Nat.le_succ _) hnew (hS.fine.chs e (hmem e he)) hJ) ⟨Nat.lt_succ_self _, ?_⟩ fun e he hp => ?_⟩
    · rw [map_toCh_same hsame fun e he => hS.fine.chs e (hmem e he)]
      exact hst2
    · rw [hpv]
      rw [hcv] at hb2
      exact tree_node hb2 (Rep.rd_mono _ k1 hJ) (Rep.rd_mono _ hk1 hJ2)
    · unfold isPtrH at hp
      split at hp
      · rename_i h' off heq
        rw [Bool.and_eq_true] at hp
        rw [heq, Hdr.beq_eq hp.1, Nat.eq_of_beq_eq_true hp.2]
        exact hpv
      · cases hp
  · cases hs
end
def orS (x : Option Sg) (s : Sg) : Sg := match x with
  | some s' => s'
  | none => s
def frzL (tr : Trs) : List (Bool × Hdr) → Sg → Sg
  | [], s => s
  | (true, h) :: hs, s => frzL tr hs (orS (frzPtr tr h s) s)
  | (false, h) :: hs, s => frzL tr hs (orS (frzOwn h s) s)
section
variable {P : Program} {I J : Hp} {w0 w : World} {F : Ch} {n : Nat} {θ : Th} {s s' : Sg} {a : Act}
theorem openL_ok : ∀ {hs : List Hdr} {s : Sg} {θ : Th}, Sim P I w0 F n J θ s a w → ∃ θ', Sim P I w0 F n J θ' (openL hs s) a w ∧ Fr s θ (openL hs s) θ'
  | [], s, θ, hS => ⟨θ, hS, Fr.rfl⟩
  | h :: hs, s, θ, hS => by
    unfold openL
    split
    · rename_i s' he
      obtain ⟨θ1, S1, F1⟩ := openH_ok he hS
      obtain ⟨θ2, S2, F2⟩ := openL_ok (hs := hs) S1
      exact ⟨θ2, S2, F1.trans F2⟩
    · exact openL_ok hS
theorem openA_ok (hS : Sim P I w0 F n J θ s a w) : ∃ θ', Sim P I w0 F n J θ' (openA s) a w ∧ Fr s θ (openA s) θ' := openL_ok hS
theorem frzL_ok {tr : Trs} : ∀ {hs : List (Bool × Hdr)} {s : Sg} {J : Hp} {θ : Th}, Sim P I w0 F n J θ s a w → ∃ J' θ', J.le J' ∧ Sim P I w0 F n J' θ' (frzL tr hs s) a w ∧ Fr s θ (frzL tr hs s) θ'
  | [], s, J, θ, hS => ⟨J, θ, Hp.le.rfl, hS, Fr.rfl⟩
  | (true, h) :: hs, s, J, θ, hS => by
    unfold frzL
    cases he : frzPtr tr h s with
    | some s' =>
      obtain ⟨J1, θ1, L1, S1, F1⟩ := frzPtr_ok he hS
      obtain ⟨J2, θ2, L2, S2, F2⟩ := frzL_ok (hs := hs) S1
      exact ⟨J2, θ2, L1.trans L2, S2, F1.trans F2⟩
    | none => exact frzL_ok hS
  | (false, h) :: hs, s, J, θ, hS => by
    unfold frzL
    cases he : frzOwn h s with
    | some s' =>
      obtain ⟨J1, L1, S1, F1⟩ := frzOwn_ok he hS
      obtain ⟨J2, θ2, L2, S2, F2⟩ := frzL_ok (hs := hs) S1
      exact ⟨J2, θ2, L1.trans L2, S2, F1.trans F2⟩
    | none => exact frzL_ok hS
end
end Go.Proofs.YtimjccbdngajoaaGreat.R
/- Maps of the function's own. No program text is named here. -/
set_option linter.unusedVariables false
set_option linter.unusedSimpArgs false
set_option linter.unnecessarySimpa false
set_option linter.unusedSectionVars false
namespace Go.Proofs.YtimjccbdngajoaaGreat.R
open Go.RowKit
open Go.Proofs.YtimjccbdngajoaaGreat.D

structure Mp where
  ver : Nat
  md : MD
  m : List (md.k.den × md.e.den)
  rest : List Ent
def MD.ck (d : MD) (m : List (d.k.den × d.e.den)) : Chk := .map d.K d.E d.k d.e m
def mpOf (h : Hdr) (chs : List Ent) : Option Mp := (pull h chs).bind fun r => match r.1.2.2 with
  | .map K E k e m => some ⟨r.1.2.1, ⟨K, E, k, e⟩, m, r.2⟩
  | _ => none
def Mp.ent (r : Mp) (h : Hdr) : Ent := (h, r.ver, r.md.ck r.m)
theorem mpOf_ok {h : Hdr} {chs : List Ent} {r : Mp} (e : mpOf h chs = some r) : chs.Perm (r.ent h :: r.rest) := by
  obtain ⟨q, hq, e⟩ := bind_some e
  obtain ⟨p, k⟩ := pull_ok hq
  obtain ⟨⟨h', ver, c⟩, rest⟩ := q
  obtain rfl : h' = h := k
  cases c with
  | map K E k e' m =>
    obtain rfl := Option.some.inj (show some _ = some r from e)
    exact p
  | _ => cases e
def MK.beq : MK → MK → Bool
  | .int, .int => true
  | .ii, .ii => true
  | _, _ => false
def ME.beq : ME → ME → Bool
  | .int, .int => true
  | .bool, .bool => true
  | _, _ => false
def MD.beq (a b : MD) : Bool := Nat.beq a.K b.K && Nat.beq a.E b.E && MK.beq a.k b.k && ME.beq a.e b.e
theorem MD.beq_eq {a b : MD} (h : MD.beq a b = true) : a = b := by
  obtain ⟨K, E, k, e⟩ := a
  obtain ⟨K', E', k', e'⟩ := b
  unfold MD.beq at h
  simp only [Bool.and_eq_true] at h
  obtain ⟨⟨⟨h1, h2⟩, h3⟩, h4⟩ := h
  obtain rfl : K = K' := Nat.eq_of_beq_eq_true h1
  obtain rfl : E = E' := Nat.eq_of_beq_eq_true h2
  obtain rfl : k = k' := by cases k <;> cases k' <;> first | rfl | cases h3
  obtain rfl : e = e' := by cases e <;> cases e' <;> first | rfl | cases h4
  rfl
def avKey : (k : MK) → AV → Option k.den
  | .int, .one (.val (.int .i64 n)) => some n
  | .ii, .agg [.val (.int .i64 a), .val (.int .i64 b)] => some (a, b)
  | _, _ => none
theorem avKey_ok {k : MK} {v : AV} {d : k.den} (h : avKey k v = some d) (θ : Th) : v.v θ = k.val d := by
  unfold avKey at h
  split at h
  · rw [← Option.some.inj h]; rfl
  · rw [← Option.some.inj h]; rfl
  · cases h
def avElt : (e : ME) → AV → Option e.den
  | .int, .one (.val (.int .i64 n)) => some n
  | .bool, .one (.val (.bool b)) => some b
  | .bool, .one (.nb b) => some (!b)
  | _, _ => none
theorem avElt_ok {e : ME} {v : AV} {d : e.den} (h : avElt e v = some d) (θ : Th) : v.v θ = e.val d := by
  unfold avElt at h
  split at h
  · rw [← Option.some.inj h]; rfl
  · rw [← Option.some.inj h]; rfl
  · rw [← Option.some.inj h]; rfl
  · cases h
theorem ME.val_one (e : ME) (d : e.den) : (e.val d).oneCell' = true := by cases e <;> rfl
section
variable {Y : Type} (tt : TT) (s : Sg) (k : Res → Option Y)
def sMkM (T : TypeId) : Option Y := (td tt T).bind fun d => d.mp.bind fun md => k ⟨[], [], s.chs, [(⟨s.nxt, []⟩, md.ck [])], .one (.own ⟨s.nxt, []⟩)⟩
def sPutM (T : TypeId) (m x y : Operand) : Option Y := (td tt T).bind fun d => d.mp.bind fun md => match opd s m with
  | some (.one (.own h)) => (mpOf h s.chs).bind fun r => chkT (MD.beq md r.md) ((opd s x).bind fun kv => (avKey r.md.k kv).bind fun q => (opd s y).bind fun ev => (avElt r.md.e ev).bind fun i =>
    (@putM r.md.k.den r.md.e.den r.m r.md.k.ok r.md.e.ok q i).bind fun M => k ⟨[], [r.ent h], r.rest, [(h, r.md.ck M)], .any ⟨s.nxt, []⟩⟩)
  | _ => none
def sLookM (T : TypeId) (m x : Operand) (two : Bool) : Option Y := (td tt T).bind fun d => d.mp.bind fun md => match opd s m with
  | some (.one (.own h)) => (mpOf h s.chs).bind fun r => chkT (MD.beq md r.md) ((opd s x).bind fun kv => (avKey r.md.k kv).bind fun q =>
    chkD false (r.md.k.ok q = true) (instDecidableEqBool _ _) (match two with
      | true => k ⟨[r.ent h], [], r.rest, [], .tup [(false, [.val (r.md.e.val ((@lkM r.md.k.den r.md.e.den r.md.k.dec r.m q).getD r.md.e.z))]), (false, [.val (.bool (@lkM r.md.k.den r.md.e.den r.md.k.dec r.m q).isSome)])]⟩
      | false => k ⟨[r.ent h], [], r.rest, [], .one (.val (r.md.e.val ((@lkM r.md.k.den r.md.e.den r.md.k.dec r.m q).getD r.md.e.z)))⟩))
  | _ => none
end
section
variable {Y : Type} {tt : TT} {s : Sg} {k : Res → Option Y} {P : Program} {w0 : World} {o : Oper} {res : Y} {m x y : Operand}
theorem toCh_mp {θ : Th} {h : Hdr} {ver : Nat} {md : MD} {M : List (md.k.den × md.e.den)} : toCh P θ (h, ver, md.ck M) = @Ch.mp P md.K md.E md.k.den md.e.den md.k.dec md.k.lit md.k.ok md.e.lit md.e.z (hv θ h) M := rfl
theorem mp_one {I : Hp} {w : World} {C : List Ch} {K E : TypeId} {κ ε : Type} [DecidableEq κ] {lit : κ → Lit} {ok : κ → Bool} {elit : ε → Lit} {z : ε} {v : Value} {M : List (κ × ε)} (h : St I w0 w (Ch.mp P K E lit ok elit z v M :: C)) : v.oneCell' = true := by
  obtain ⟨h1, h2, F, ⟨G, G', rfl, ⟨b, rfl, rfl, h3⟩, e⟩, h4, h5⟩ := h
  rfl
theorem sMkM_ok (hT : TTok P tt) {T : TypeId} (ho : o.op = .makeMap T none) (h : sMkM tt s k T = some res) : Oks P w0 s o k res := by
  obtain ⟨d, hd, h⟩ := bind_some h
  obtain ⟨md, hm, h⟩ := bind_some h
  refine ⟨_, h, by simp, says_plain rfl, fun J θ hf => ?_⟩
  have h1 := @opT_makeMap P J w0 o (evL (envL θ s)) md.k.den md.e.den md.k.dec md.k.lit md.k.ok md.e.lit md.e.z T md.K md.E ho
  intro w C hs
  refine (h1 w C hs).imp fun v w' hv => ?_
  have hone := letI := md.k.dec; mp_one hv.2
  refine ⟨⟨⟨Nat.lt_succ_self _, by rw [hv_new]; exact hone⟩, hv_new, fun g hg => ?_⟩, ?_⟩
  · obtain rfl := List.mem_singleton.1 hg
    exact ⟨Nat.lt_succ_self _, Nat.lt_succ_self _, trivial⟩
  · show St J w0 w' ([toCh P (upd θ s.nxt v) (⟨s.nxt, []⟩, s.nxt, md.ck [])] ++ C)
    rw [toCh_mp, hv_new]; exact hv.2
theorem sPutM_ok (hT : TTok P tt) {T : TypeId} (ho : o.op = .mapUpdate T m x y ∨ o.op = .insert T m x y) (h : sPutM tt s k T m x y = some res) : Oks P w0 s o k res := by
  obtain ⟨d, hd, h⟩ := bind_some h
  obtain ⟨md, hm, h⟩ := bind_some h
  split at h
  · rename_i hh hx
    obtain ⟨r, hr, h⟩ := bind_some h
    obtain ⟨he, h⟩ := chkT_ok h
    obtain ⟨kv, hk, h⟩ := bind_some h
    obtain ⟨q, hq, h⟩ := bind_some h
    obtain ⟨ev, hev, h⟩ := bind_some h
    obtain ⟨i, hi, h⟩ := bind_some h
    obtain ⟨M, hM, h⟩ := bind_some h
    have hp := mpOf_ok hr
    obtain ⟨m1, m2, m3⟩ := (hT.get hd).mp _ hm
    rw [MD.beq_eq he] at m1 m2 m3
    refine ⟨_, h, perm2 hp, says_plain rfl, fun J θ hf => ?_⟩
    have hok := ent_ok hf hp
    have h1 := @opT_putMap P J w0 o (evL (envL θ s)) r.md.k.den r.md.e.den r.md.k.dec r.md.k.lit r.md.k.val r.md.k.ok r.md.e.val r.md.e.lit r.md.e.ok r.md.e.z T r.md.K r.md.E m x y (hv θ hh) q i r.m M m2 m3 m1 ho (opd_ev hx) ((opd_ev hk).trans (avKey_ok hq θ)) ((opd_ev hev).trans (avElt_ok hi θ)) hM
    refine OpT.weak h1 (fun u hu => ⟨Nat.lt_succ_self _, hv_new, fun g hg => ?_⟩) (fun u hu => ?_)
    · obtain rfl := List.mem_singleton.1 hg
      exact ⟨Nat.lt_succ_of_lt hok.1, Nat.lt_succ_self _, trivial⟩
    · show [_] = [toCh P (upd θ s.nxt u) (hh, s.nxt, r.md.ck M)]
      rw [toCh_mp, show hv (upd θ s.nxt u) hh = hv θ hh from hv_same Same.upd hok.1]
  · cases h
theorem sLookM_ok (hT : TTok P tt) {T : TypeId} {two : Bool} (ho : o.op = .lookup T m x two) (h : sLookM tt s k T m x two = some res) : Oks P w0 s o k res := by
  obtain ⟨d, hd, h⟩ := bind_some h
  obtain ⟨md, hm, h⟩ := bind_some h
  split at h
  · rename_i hh hx
    obtain ⟨r, hr, h⟩ := bind_some h
    obtain ⟨he, h⟩ := chkT_ok h
    obtain ⟨kv, hk, h⟩ := bind_some h
    obtain ⟨q, hq, h⟩ := bind_some h
    obtain ⟨hok, h⟩ := chkD_ok h
    have hp := mpOf_ok hr
    obtain ⟨m1, m2, m3⟩ := (hT.get hd).mp _ hm
    rw [MD.beq_eq he] at m1 m2 m3
    cases two with
    | true =>
      refine ⟨_, h, perm1 hp, fun _ _ _ g hg => (by cases hg), fun J θ hf => ?_⟩
      have h1 := @opT_lookMap P J w0 o (evL (envL θ s)) r.md.k.den r.md.e.den r.md.k.dec r.md.k.lit r.md.k.val r.md.k.ok r.md.e.val r.md.e.lit r.md.e.ok r.md.e.z T r.md.K r.md.E m x (hv θ hh) q r.m m2 m3 hok m1 ho (opd_ev hx) ((opd_ev hk).trans (avKey_ok hq θ))
      refine OpT.weak h1 (fun u hu => ⟨fun y hy z hz => ?_, ?_, fun g hg => by cases hg⟩) (fun u hu => rfl)
      · rcases List.mem_cons.1 hy with rfl | hy
        · obtain rfl := List.mem_singleton.1 hz; exact ME.val_one _ _
        · obtain rfl := List.mem_singleton.1 hy
          obtain rfl := List.mem_singleton.1 hz; exact Eq.refl true
      · rw [hu]; rfl
    | false =>
      refine ⟨_, h, perm1 hp, fun _ _ _ g hg => (by cases hg), fun J θ hf => ?_⟩
      have h1 := @opT_lookMap1 P J w0 o (evL (envL θ s)) r.md.k.den r.md.e.den r.md.k.dec r.md.k.lit r.md.k.val r.md.k.ok r.md.e.val r.md.e.lit r.md.e.ok r.md.e.z T r.md.K r.md.E m x (hv θ hh) q r.m m2 m3 hok m1 ho (opd_ev hx) ((opd_ev hk).trans (avKey_ok hq θ))
      refine OpT.weak h1 (fun u hu => ⟨ME.val_one _ _, ?_, fun g hg => by cases hg⟩) (fun u hu => rfl)
      rw [hu]; rfl
  · cases h
end
end Go.Proofs.YtimjccbdngajoaaGreat.R
/- A region in the order of the text, run on states. No program text is named here. -/
set_option linter.unusedVariables false
set_option linter.unusedSimpArgs false
set_option linter.unnecessarySimpa false
set_option linter.unusedSectionVars false
namespace Go.Proofs.YtimjccbdngajoaaGreat.R
open Go.RowKit
open Go.Proofs.YtimjccbdngajoaaGreat.D

structure Env where
  tt : TT
  ft : FT
  an : List (Nat × Ty)
  n : Nat
  tr : Trs
section
variable {Y : Type} (V : Env) (s : Sg) (k : Res → Option Y)
def hasAnL (d : Nat) : List (Nat × Ty) → Bool
  | [] => false
  | (u, _) :: l => Nat.beq u d || hasAnL d l
/-- is there a note on the slot -/
def hasAn (d : Option Nat) (an : List (Nat × Ty)) : Bool := match d with
  | some d => hasAnL d an
  | none => false
def sCall (dst : Option Nat) (c : Call) : Option Y := match c.callee, c.args.toList, c.argTypes.toList with
  | .builtin .len, [x], [T] => match opd s x with
    | some (.one (.own _)) => sLenO V.tt s k T x
    | _ => sLen V.tt s k T x
  | .builtin .append, [x, y], [T, U] => chkT (Nat.beq T U) (sApp V.tt V.an s k dst T x y)
  | .builtin .copy, [x, y], [T, _] => sCopy V.tt s k T x y
  | .builtin .min, [x, y], [_, _] => sMin s k x y
  | .builtin .max, [x, y], [_, _] => sMax s k x y
  | .value (.func g), xs, _ => match (fs V.ft g).bind (·.cl) with
    | some q => match xs with
      | [x] => sClone s k q.1 q.2 x
      | _ => none
    | none => sCallF V.ft s k g xs
  | .value (.tmp t), xs, _ => sCallV V.ft s k t xs
  | _, _, _ => none
def step (o : Oper) : Option Y := match o.op with
  | .move x => sMove s k x
  | .assign x => sMove s k x
  | .pick c x y => sPick s k c x y
  | .unOp .not _ x => sNot s k x
  | .unOp .neg _ x => sNeg s k x
  | .binOp b t x y _ => match opd s x with
    | some (.one (.rd _ (.tree _ _ _) _)) => sEqP V.tt s k b t x y
    | some (.one (.ptr _ _)) => sEqP V.tt s k b t x y
    | some (.one (.rdn _ _ _ _)) => sEqN V.tt s k b t x y
    | _ => sBin V.tt s k b t x y
  | .extract x i => sExtract s k x i
  | .indexAddr T x i => match opd s x with
    | some (.one (.own _)) => sIndexO V.tt s k T x i
    | _ => sIndexR V.tt s k T x i
  | .fieldAddr T x f => match opd s x with
    | some (.one (.fz _ _ _ _ _)) => sFieldZ V.tt s k T x f
    | some (.one (.rd _ (.tree _ _ _) _)) => sFieldT V.tt s k T x f
    | _ => sField V.tt s k T x f
  | .load T x => match opd s x with
    | some (.elr _ _ _ _ _ _ _) => sLoadR V.tt s k T x
    | some (.elo _ _ _ _ _ _ _ _) => sLoadO V.tt s k T x
    | some (.one (.fz _ _ _ _ _)) => sLoadZ V.tt s k T x
    | some (.one (.fzf _ _ _ _ _)) => sLoadZ V.tt s k T x
    | _ => sLoadB V.tt s k T x
  | .store T x y => match opd s x with
    | some (.elo h _ _ _ _ _ _ _) => match holOf h s.chs with
      | some _ => sStoreG V.tt s k T x y
      | none => sStoreO V.tt s k T x y
    | _ => sStoreB V.tt s k T x y
  | .nilCheck x => sNilC s k x
  | .slice T x lo hi none => match opd s x with
    | some (.one (.own _)) => match lo with
      | some _ => match hasAn o.dst V.an with
        | true => sSliceD V.tt s k T x lo hi
        | false => sSliceV V.tt s k T x lo hi
      | none => match hasAn o.dst V.an with
        | true => sSliceW V.tt s k T x lo hi
        | false => sSliceO V.tt s k T x lo hi
    | _ => sSliceR V.tt s k T x lo hi
  | .box T x => sBox s k T x
  | .alloc T => sAlloc V.tt s k T
  | .build T parts => sBuild V.tt s k T parts
  | .buildSlice T m parts => sLit V.tt V.an s k o.dst T m parts
  | .makeSlice T x y => sMake V.tt V.an s k o.dst T x y
  | .call c => sCall V s k o.dst c
  | .makeFunc f x y => sMakeF s k f x y
  | .makeMap T none => sMkM V.tt s k T
  | .convert S D x => sConv V.tt s k S D x
  | .mapUpdate T m x y => sPutM V.tt s k T m x y
  | .insert T m x y => sPutM V.tt s k T m x y
  | .lookup T m x two => sLookM V.tt s k T m x two
  | _ => none
end
section
variable {Y : Type} {V : Env} {s : Sg} {k : Res → Option Y} {P : Program} {w0 : World} {o : Oper} {res : Y}
theorem arr1 {α : Type} {a : Array α} {x : α} (h : a.toList = [x]) : a = #[x] := Array.ext' h
theorem arr2 {α : Type} {a : Array α} {x y : α} (h : a.toList = [x, y]) : a = #[x, y] := Array.ext' h
theorem sCall_ok (hT : TTok P V.tt) (hF : FTok P V.ft) {c : Call} (ho : o.op = .call c) (h : sCall V s k o.dst c = some res) : Oks P w0 s o k res := by
  obtain ⟨cal, args, tys⟩ := c
  unfold sCall at h
  split at h
  · rename_i x T h1 h2 h3
    obtain rfl : cal = .builtin .len := h1
    obtain rfl : args = #[x] := arr1 h2
    obtain rfl : tys = #[T] := arr1 h3
    split at h
    · exact sLenO_ok hT ho h
    · exact sLen_ok hT ho h
  · rename_i x y T U h1 h2 h3
    obtain ⟨hu, h9⟩ := chkT_ok h
    obtain rfl : T = U := Nat.eq_of_beq_eq_true hu
    obtain rfl : cal = .builtin .append := h1
    obtain rfl : args = #[x, y] := arr2 h2
    obtain rfl : tys = #[T, T] := arr2 h3
    exact sApp_ok hT ho h9
  · rename_i x y T U h1 h2 h3
    obtain rfl : cal = .builtin .copy := h1
    obtain rfl : args = #[x, y] := arr2 h2
    obtain rfl : tys = #[T, U] := arr2 h3
    exact sCopy_ok hT ho h
  · rename_i x y T U h1 h2 h3
    obtain rfl : cal = .builtin .min := h1
    obtain rfl : args = #[x, y] := arr2 h2
    obtain rfl : tys = #[T, U] := arr2 h3
    exact sMin_ok ho h
  · rename_i x y T U h1 h2 h3
    obtain rfl : cal = .builtin .max := h1
    obtain rfl : args = #[x, y] := arr2 h2
    obtain rfl : tys = #[T, U] := arr2 h3
    exact sMax_ok ho h
  · rename_i g h1
    obtain rfl : cal = .value (.func g) := h1
    split at h
    · rename_i q hq
      obtain ⟨f, hf, hq⟩ := bind_some hq
      split at h
      · rename_i x hx
        obtain rfl : args = #[x] := arr1 hx
        exact sClone_ok ((hF.get hf).cl q hq) ho h
      · cases h
    · exact sCallF_ok hF ho h
  · rename_i t h1
    obtain rfl : cal = .value (.tmp t) := h1
    exact sCallV_ok hF ho h
  · cases h
theorem step_ok (hT : TTok P V.tt) (hF : FTok P V.ft) (h : step V s k o = some res) : Oks P w0 s o k res := by
  unfold step at h
  split at h
  · exact sMove_ok (.inl ‹_›) h
  · exact sMove_ok (.inr ‹_›) h
  · exact sPick_ok ‹_› h
  · exact sNot_ok ‹_› h
  · exact sNeg_ok ‹_› h
  · have ho := ‹o.op = _›
    split at h
    · exact sEqP_ok hT ho h
    · exact sEqP_ok hT ho h
    · exact sEqN_ok hT ho h
    · exact sBin_ok hT ho h
  · exact sExtract_ok ‹_› h
  · have ho := ‹o.op = _›
    split at h
    · exact sIndexO_ok hT ho h
    · exact sIndexR_ok hT ho h
  · have ho := ‹o.op = _›
    split at h
    · exact sFieldZ_ok hT ho h
    · exact sFieldT_ok hT ho h
    · exact sField_ok hT ho h
  · have ho := ‹o.op = _›
    split at h
    · exact sLoadR_ok hT ho h
    · exact sLoadO_ok hT ho h
    · exact sLoadZ_ok hT ho h
    · exact sLoadZ_ok hT ho h
    · exact sLoadB_ok hT ho h
  · have ho := ‹o.op = _›
    split at h
    · split at h
      · exact sStoreG_ok hT ho h
      · exact sStoreO_ok hT ho h
    · exact sStoreB_ok hT ho h
  · exact sNilC_ok ‹_› h
  · have ho := ‹o.op = _›
    split at h
    · split at h
      · split at h
        · exact sSliceD_ok hT ho h
        · exact sSliceV_ok hT ho h
      · split at h
        · exact sSliceW_ok hT ho h
        · exact sSliceO_ok hT ho h
    · exact sSliceR_ok hT ho h
  · exact sBox_ok ‹_› h
  · exact sAlloc_ok hT ‹_› h
  · exact sBuild_ok hT ‹_› h
  · exact sLit_ok hT ‹_› h
  · exact sMake_ok hT ‹_› h
  · exact sCall_ok hT hF ‹_› h
  · exact sMakeF_ok ‹_› h
  · exact sMkM_ok hT ‹_› h
  · exact sConv_ok hT ‹_› h
  · exact sPutM_ok hT (.inl ‹_›) h
  · exact sPutM_ok hT (.inr ‹_›) h
  · exact sLookM_ok hT ‹_› h
  · cases h
end

/-! ### Guards -/
inductive Gd
  | no | skip | bad
  | yes (t : Nat) (b neg want : Bool)
def guardOf (ops : List Oper) (s : Sg) (o : Oper) : Gd := match o.guard with
  | none => .no
  | some (g, want) => match ops[g]? with
    | some p => match p.dst with
      | some t => match look s.env t with
        | some (.one (.val (.bool b))) => .yes t b false want
        | some (.one (.nb b)) => .yes t b true want
        | some .und => .skip
        | _ => .bad
      | none => .bad
    | none => .bad
def setB (s : Sg) (t : Nat) (b : Bool) : Sg := ⟨(t, s.nxt, .one (.val (.bool b))) :: s.env, s.chs, s.nxt + 1⟩
/-- the heads of what an operand leads to -/
def avHdrs : AV → List Hdr
  | .one (.own h) => [h]
  | .agg xs => xs.flatMap fun x => match x with | .own h => [h] | _ => []
  | .elo h _ _ _ _ _ _ _ => [h]
  | _ => []
def prepL : List Hdr → Sg → Sg
  | [], s => s
  | h :: hs, s => prepL hs (settle 4 h s)
def hdrsOf (s : Sg) : List Operand → List Hdr
  | [] => []
  | x :: xs => (match opd s x with | some v => avHdrs v | none => []) ++ hdrsOf s xs
/-- values that are kept -/
def keptO (o : Oper) : List Operand := match o.op with
  | .store _ _ y => [y]
  | .build _ parts => parts.toList.map (·.2)
  | .buildSlice _ _ parts => parts.toList.map (·.2)
  | .call c => c.args.toList
  | .box _ x => [x]
  | .binOp _ _ x _ _ => [x]
  | .nilCheck x => [x]
  | _ => []
def frzA (o : Bool) : AV → List (Bool × Hdr)
  | .one (.own h) => [(false, h)]
  | .one (.ptr h off) => if o && Nat.beq off 0 then [(true, h)] else []
  | .agg xs => xs.flatMap fun x => match x with | .own h => [(false, h)] | .ptr h off => if o && Nat.beq off 0 then [(true, h)] else [] | _ => []
  | _ => []
def frzH (s : Sg) (o : Bool) : List Operand → List (Bool × Hdr)
  | [] => []
  | x :: xs => (match opd s x with | some v => frzA o v | none => []) ++ frzH s o xs
def keeps (o : Oper) : Bool := match o.op with
  | .binOp _ _ _ _ _ => false
  | .nilCheck _ => false
  | _ => true
def prepF (tr : Trs) (o : Oper) (s : Sg) : Sg := match tr with
  | [] => s
  | _ => frzL tr (frzH s (keeps o) (keptO o)) s
def prep (tr : Trs) (o : Oper) (s0 : Sg) : Sg := match openA s0 with
  | s => prepF tr o (prepL (hdrsOf s o.op.operands.toList) s)
section
variable {Y : Type} (V : Env) (all : List Oper) (k : Sg → Option Y)
def runOp (kont : Sg → Option Y) (o : Oper) (s : Sg) : Option Y := match guardOf all s o with
  | .bad => none
  | .no => chkT (okO V.n s o) (step V s (fun r => kont (after s o.dst r)) o)
  | .skip => chkT (dstOk V.n o.dst) (kont (skip s o.dst))
  | .yes t b neg want => if b then (match (!neg) == want with
      | true => chkT (okO V.n (setB s t (!neg)) o) (step V (setB s t (!neg)) (fun r => kont (after (setB s t (!neg)) o.dst r)) o)
      | false => chkT (dstOk V.n o.dst) (kont (skip (setB s t (!neg)) o.dst)))
    else (match neg == want with
      | true => chkT (okO V.n (setB s t neg) o) (step V (setB s t neg) (fun r => kont (after (setB s t neg) o.dst r)) o)
      | false => chkT (dstOk V.n o.dst) (kont (skip (setB s t neg) o.dst)))
def runSeq : List Oper → Sg → Option Y
  | [], s => k s
  | o :: os, s => runOp V all (runSeq os) o (prep V.tr o s)
end
section
variable {Y : Type} {V : Env} {P : Program} {I : Hp} {w0 w : World} {F : Ch} {J : Hp} {θ : Th} {s : Sg} {a : Act} {res : Y} {Q : Exit → Act → World → Prop}
theorem settle1_fr {h : Hdr} {s' : Sg} (hs : settle1 h s = some s') (hS : Sim P I w0 F V.n J θ s a w) : Fr s θ s' θ := by
  obtain ⟨r, hr, hs⟩ := bind_some hs
  obtain ⟨q, hq, hs⟩ := bind_some hs
  have hp := holOf_ok hr
  obtain ⟨l, ver, hl, hp2, hu⟩ := partOf_ok hq
  have hmem : ∀ e, e ∈ q.2.2 → e ∈ s.chs := fun e he => (hp.trans (hp2.cons _)).mem_iff.2 (by simp [he])
  cases hb : q.1 with
  | true =>
    rw [hb] at hs
    obtain rfl := Option.some.inj (show some _ = some s' from hs)
    refine ⟨Nat.le_succ _, Same.rfl, fun e he _ => he, fun e he h' ver' c hs' => ?_⟩
    rcases List.mem_cons.1 he with rfl | he
    · obtain ⟨rfl, hs'⟩ := hs'
      rcases hs' with ⟨rfl, rfl⟩ | hs'
      · exact .inr ⟨r.ent h, hp.mem_iff.2 (by simp), rfl, .inr ⟨rfl, rfl⟩⟩
      · exact hs'.elim
    · exact .inr ⟨e, hmem e he, hs'⟩
  | false =>
    rw [hb] at hs
    obtain rfl := Option.some.inj (show some _ = some s' from hs)
    refine ⟨Nat.le_succ _, Same.rfl, fun e he _ => he, fun e he h' ver' c hs' => ?_⟩
    rcases List.mem_cons.1 he with rfl | he
    · obtain ⟨rfl, hs'⟩ := hs'
      rcases hs' with ⟨rfl, rfl⟩ | hs'
      · exact .inl (Nat.le_refl _)
      · exact hs'.elim
    · exact .inr ⟨e, hmem e he, hs'⟩
theorem settle_fr : ∀ {m : Nat} {h : Hdr} {s : Sg}, Sim P I w0 F V.n J θ s a w → Fr s θ (settle m h s) θ
  | 0, _, _, hS => Fr.rfl
  | m + 1, h, s, hS => by
    unfold settle
    split
    · split
      · split
        · rename_i hs
          exact (settle_fr hS).trans (settle1_fr hs (settle_ok hS))
        · exact Fr.rfl
      · exact Fr.rfl
    · exact Fr.rfl
theorem prepL_ok : ∀ {hs : List Hdr} {s : Sg}, Sim P I w0 F V.n J θ s a w → Sim P I w0 F V.n J θ (prepL hs s) a w ∧ Fr s θ (prepL hs s) θ
  | [], s, hS => ⟨hS, Fr.rfl⟩
  | h :: hs, s, hS => by
    obtain ⟨k1, k2⟩ := prepL_ok (hs := hs) (settle_ok (m := 4) (h := h) hS)
    exact ⟨k1, (settle_fr hS).trans k2⟩
theorem setB_ok {t : Nat} {b : Bool} (hS : Sim P I w0 F V.n J θ s a w) (hv' : (envL θ s).lookup t = some (.bool b)) : Sim P I w0 F V.n J θ (setB s t b) a w ∧ Fr s θ (setB s t b) θ := by
  refine ⟨⟨hS.le, hS.agr.sub fun u v h => ?_, hS.st, fun e he => ?_, fun e he => ?_, nd_put (d := some t) (av := .one (.val (.bool b))) hS.fine.nd hS.fine.ver, fun e he => okE_same Same.rfl (Nat.le_succ _) Newer.rfl (hS.fine.chs e he) Hp.le.rfl⟩, Nat.le_succ _, Same.rfl, fun e he h => ?_, Newer.rfl⟩
  · have h : List.lookup u ((t, Value.bool b) :: envL θ s) = some v := h
    rw [List.lookup_cons] at h
    by_cases e : u = t
    · subst e
      simp at h
      rw [hv', h]
    · rw [show (u == t) = false from by simpa using e] at h
      exact h
  · rcases List.mem_cons.1 he with rfl | he
    · exact Eq.refl true
    · exact AV.ok_same Same.rfl (Nat.le_succ _) Newer.rfl (hS.fine.env e he) Hp.le.rfl
  · rcases List.mem_cons.1 he with rfl | he
    · exact Nat.lt_succ_self _
    · exact Nat.lt_succ_of_lt (hS.fine.ver e he)
  · rcases List.mem_cons.1 he with rfl | he
    · exact absurd h (Nat.lt_irrefl _)
    · exact he
theorem guard_ok {ops : Array Oper} {o : Oper} : match guardOf ops.toList s o with
    | .no => o.guard = none
    | .skip => ∃ g want d, o.guard = some (g, want) ∧ (ops[g]?).bind (·.dst) = some d ∧ (envL θ s).lookup d = some undef
    | .yes t b neg want => ∃ g, o.guard = some (g, want) ∧ (ops[g]?).bind (·.dst) = some t ∧ (envL θ s).lookup t = some (.bool (if neg then !b else b))
    | .bad => True := by
  unfold guardOf
  cases hg : o.guard with
  | none => exact rfl
  | some gw =>
    obtain ⟨g, want⟩ := gw
    simp only
    cases hp : ops.toList[g]? with
    | none => trivial
    | some p =>
      simp only
      cases hd : p.dst with
      | none => trivial
      | some t =>
        simp only
        have hd' : (ops[g]?).bind (·.dst) = some t := by
          rw [← Array.getElem?_toList, hp]; exact hd
        cases hl : look s.env t with
        | none => trivial
        | some v =>
          have hv' := look_envL (θ := θ) hl
          cases v with
          | one x =>
            cases x with
            | val u =>
              cases u with
              | bool b => exact ⟨g, rfl, hd', hv'⟩
              | _ => trivial
            | nb b => exact ⟨g, rfl, hd', hv'⟩
            | _ => trivial
          | und => exact ⟨g, want, t, rfl, hd', hv'⟩
          | _ => trivial
/-- the state behind an operation -/
theorem after_fr {o : Oper} {r : Res} (hG : Good P w0 s o r) (hS : Sim P I w0 F V.n J θ s a w) {θ' : Th} (hs : Same s.nxt θ θ') : Fr s θ (after s o.dst r) θ' :=
  Fr.put hs (Res.newer hG.perm (hG.says J θ hS.fine))
theorem runOp_ok (hT : TTok P V.tt) (hF : FTok P V.ft) {ops : Array Oper} {rest : List Oper} {o : Oper} {kont : Sg → Option Y} (h : runOp V ops.toList kont o s = some res) (hS : Sim P I w0 F V.n J θ s a w)
    (K : ∀ s' θ' a' w', kont s' = some res → Sim P I w0 F V.n J θ' s' a' w' → Fr s θ s' θ' → wpList P ops Q rest a' w') : wpList P ops Q (o :: rest) a w := by
  have hg := guard_ok (θ := θ) (s := s) (ops := ops) (o := o)
  have run : ∀ s1, Sim P I w0 F V.n J θ s1 a w → Fr s θ s1 θ → (∀ g want, o.guard = some (g, want) → ∃ d, (ops[g]?).bind (·.dst) = some d ∧ (envL θ s1).lookup d = some (.bool want)) → chkT (okO V.n s1 o) (step V s1 (fun r => kont (after s1 o.dst r)) o) = some res → wpList P ops Q (o :: rest) a w := by
    intro s1 hS1 hF1 hgd h
    obtain ⟨hk, h⟩ := chkT_ok h
    obtain ⟨r, hr, hG⟩ := step_ok hT hF h
    cases hgo : o.guard with
    | none => exact sim_op hG hS1 hgo hk fun θ' a' w' hs hS' => K _ θ' a' w' hr hS' (hF1.trans (after_fr hG hS1 hs))
    | some gw =>
      obtain ⟨g, want⟩ := gw
      obtain ⟨d, hd, hv'⟩ := hgd g want hgo
      exact sim_opg hG hS1 hgo hd hv' rfl hk fun θ' a' w' hs hS' => K _ θ' a' w' hr hS' (hF1.trans (after_fr hG hS1 hs))
  have skp : ∀ s1, Sim P I w0 F V.n J θ s1 a w → Fr s θ s1 θ → ∀ g want d b, o.guard = some (g, want) → (ops[g]?).bind (·.dst) = some d → (envL θ s1).lookup d = some (.bool b) → b = (!want) → chkT (dstOk V.n o.dst) (kont (skip s1 o.dst)) = some res → wpList P ops Q (o :: rest) a w := by
    intro s1 hS1 hF1 g want d b hgo hd hv' hb h
    obtain ⟨hk, h⟩ := chkT_ok h
    exact sim_skip hS1 hgo hd hv' hb hk fun a' hS' => K _ θ a' w h hS' (hF1.trans (Fr.put Same.rfl Newer.rfl))
  unfold runOp at h
  split at h
  · cases h
  · rename_i hgo
    rw [hgo] at hg
    exact run s hS Fr.rfl (fun g want e => by rw [show o.guard = none from hg] at e; cases e) h
  · rename_i hgo
    rw [hgo] at hg
    obtain ⟨g, want, d, h1, h2, h3⟩ := hg
    obtain ⟨hk, h⟩ := chkT_ok h
    exact sim_skip_u hS h1 h2 h3 hk fun a' hS' => K _ θ a' w h hS' (Fr.put Same.rfl Newer.rfl)
  · rename_i t b neg want hgo
    rw [hgo] at hg
    obtain ⟨g, h1, h2, h3⟩ := hg
    have both : ∀ c : Bool, (envL θ s).lookup t = some (.bool c) → (match c == want with
        | true => chkT (okO V.n (setB s t c) o) (step V (setB s t c) (fun r => kont (after (setB s t c) o.dst r)) o)
        | false => chkT (dstOk V.n o.dst) (kont (skip (setB s t c) o.dst))) = some res → wpList P ops Q (o :: rest) a w := by
      intro c hc h
      obtain ⟨q1, q2⟩ := setB_ok hS hc
      have hlk : (envL θ (setB s t c)).lookup t = some (.bool c) := by
        show List.lookup t ((t, Value.bool c) :: envL θ s) = _
        rw [List.lookup_cons_self]
      split at h
      · rename_i hcw
        have hcw : c = want := by simpa using hcw
        exact run _ q1 q2 (fun g' want' e => by
          rw [h1] at e
          obtain ⟨rfl, rfl⟩ : g = g' ∧ want = want' := by simpa using e
          exact ⟨t, h2, by rw [hlk, hcw]⟩) h
      · rename_i hcw
        have hcw : c ≠ want := by simpa using hcw
        exact skp _ q1 q2 g want t c h1 h2 hlk (by cases c <;> cases want <;> simp_all) h
    cases b with
    | true =>
      refine both (!neg) ?_ (show _ = some res from h)
      rw [h3]; cases neg <;> rfl
    | false =>
      refine both neg ?_ (show _ = some res from h)
      rw [h3]; cases neg <;> rfl
theorem prep_ok {tr : Trs} {o : Oper} (hS : Sim P I w0 F V.n J θ s a w) : ∃ J' θ', J.le J' ∧ Sim P I w0 F V.n J' θ' (prep tr o s) a w ∧ Fr s θ (prep tr o s) θ' := by
  obtain ⟨θ1, S1, F1⟩ := openA_ok hS
  obtain ⟨S2, F2⟩ := prepL_ok (hs := hdrsOf (openA s) o.op.operands.toList) S1
  show ∃ J' θ', J.le J' ∧ Sim P I w0 F V.n J' θ' (prepF tr o (prepL (hdrsOf (openA s) o.op.operands.toList) (openA s))) a w ∧ Fr s θ (prepF tr o (prepL (hdrsOf (openA s) o.op.operands.toList) (openA s))) θ'
  unfold prepF
  split
  · exact ⟨J, θ1, Hp.le.rfl, S2, F1.trans F2⟩
  · obtain ⟨J', θ', h1, h2, h3⟩ := frzL_ok S2
    exact ⟨J', θ', h1, h2, (F1.trans F2).trans h3⟩
theorem runSeq_ok (hT : TTok P V.tt) (hF : FTok P V.ft) {ops : Array Oper} {k : Sg → Option Y} : ∀ {l : List Oper} {s : Sg} {J : Hp} {θ : Th} {a : Act} {w : World}, runSeq V ops.toList k l s = some res → Sim P I w0 F V.n J θ s a w →
    (∀ s' J' θ' a' w', k s' = some res → Sim P I w0 F V.n J' θ' s' a' w' → J.le J' → Fr s θ s' θ' → Q .normal a' w') → wpList P ops Q l a w
  | [], s, J, θ, a, w, h, hS, K => wpList_nil (K s J θ a w h hS Hp.le.rfl Fr.rfl)
  | o :: os, s, J, θ, a, w, h, hS, K => by
    obtain ⟨J1, θ1, q0, q1, q2⟩ := prep_ok (tr := V.tr) (o := o) hS
    exact runOp_ok hT hF (show runOp V ops.toList (runSeq V ops.toList k os) o (prep V.tr o s) = some res from h) q1 fun s' θ' a' w' hk hS' hFr =>
      runSeq_ok hT hF hk hS' fun s2 J2 θ2 a2 w2 hk2 hS2 hJ2 hFr2 => K s2 J2 θ2 a2 w2 hk2 hS2 (q0.trans hJ2) ((q2.trans hFr).trans hFr2)
end
end Go.Proofs.YtimjccbdngajoaaGreat.R
/- Cuts: what a loop or a join carries along. No program text is named here. -/
set_option linter.unusedVariables false
set_option linter.unusedSimpArgs false
set_option linter.unnecessarySimpa false
set_option linter.unusedSectionVars false
namespace Go.Proofs.YtimjccbdngajoaaGreat.R
open Go.RowKit
open Go.Proofs.YtimjccbdngajoaaGreat.D

/-! ### Kinds of places -/
inductive Knd
  | num (k : IntKind) | boo | str
  | rd (E : TypeId) (t : Ty)
  | own (E : TypeId) (t : Ty)
  | map (d : MD)
  | tre (T E : TypeId) (t : Ty)
def Knd.den : Knd → Type
  | .num _ => Int
  | .boo => Bool
  | .str => ByteArray
  | .rd _ t => List t.den
  | .own _ t => List t.den
  | .map d => List (d.k.den × d.e.den)
  | .tre _ _ t => Tr t.den
def mpCast {a b : MD} (h : a = b) (m : List (a.k.den × a.e.den)) : List (b.k.den × b.e.den) := h ▸ m
def takeMp (d : MD) (x : LV) (chs : List Ent) : Option (List (d.k.den × d.e.den) × List Ent) := match x with
  | .own h => (mpOf h chs).bind fun r => if h : MD.beq r.md d = true then some (mpCast (MD.beq_eq h) r.m, r.rest) else none
  | _ => none
theorem takeMp_ok {d : MD} {x : LV} {chs : List Ent} {q : List (d.k.den × d.e.den) × List Ent} (h : takeMp d x chs = some q) : ∃ hh ver, x = .own hh ∧ chs.Perm ((hh, ver, d.ck q.1) :: q.2) := by
  unfold takeMp at h
  split at h
  · rename_i hh
    obtain ⟨r, hr, h⟩ := bind_some h
    have hp := mpOf_ok hr
    obtain ⟨ver, md, m, rest⟩ := r
    split at h
    · rename_i he
      obtain rfl := MD.beq_eq he
      obtain rfl := Option.some.inj h
      exact ⟨hh, ver, rfl, hp⟩
    · cases h
  · cases h
def denK : List Knd → Type
  | [] => Unit
  | [k] => k.den
  | k :: l :: ks => k.den × denK (l :: ks)
def denN : List Knd → Type
  | [] => Unit
  | k :: ks => k.den × denN ks
def toN : (ks : List Knd) → denK ks → denN ks
  | [], _ => ()
  | [_], d => (d, ())
  | _ :: l :: ks, d => (d.1, toN (l :: ks) d.2)
def ofN : (ks : List Knd) → denN ks → denK ks
  | [], _ => ()
  | [_], d => d.1
  | _ :: l :: ks, d => (d.1, ofN (l :: ks) d.2)
theorem toN_ofN : ∀ (ks : List Knd) (d : denN ks), toN ks (ofN ks d) = d
  | [], _ => rfl
  | [_], _ => rfl
  | _ :: l :: ks, d => congrArg (Prod.mk d.1) (toN_ofN (l :: ks) d.2)
/-- a place's datum; what is left of the entries -/
def getK (k : Knd) (x : LV) (chs : List Ent) : Option (k.den × List Ent) := match k with
  | .num k => (lvInt k x).bind fun d => some (d, chs)
  | .boo => (lvBool x).bind fun d => some (d, chs)
  | .str => (lvStr x).bind fun d => some (d, chs)
  | .rd E t => (lvSl E t x).bind fun d => some (d, chs)
  | .own E t => (takeSl E t x chs).bind fun q => some (q.1, q.2.2)
  | .map d => takeMp d x chs
  | .tre T E t => (lvTr T E t x).bind fun d => some (d, chs)
/-- the place anew -/
def putK (id : Nat) : (k : Knd) → k.den → LV
  | .num k, d => .val (.int k d)
  | .boo, d => .val (.bool d)
  | .str, d => .val (.string d)
  | .rd E t, d => .rd ⟨id, []⟩ (.sl E t) d
  | .own _ _, _ => .own ⟨id, []⟩
  | .map _, _ => .own ⟨id, []⟩
  | .tre T E t, d => .rd ⟨id, []⟩ (.tree T E t) d
def newK (id ver : Nat) : (k : Knd) → k.den → List Ent
  | .own E t, d => [(⟨id, []⟩, ver, .own (.sl E t) d)]
  | .map md, d => [(⟨id, []⟩, ver, md.ck d)]
  | _, _ => []
def getKs : (ks : List Knd) → List LV → List Ent → Option (denN ks × List Ent)
  | [], [], chs => some ((), chs)
  | k :: ks, x :: xs, chs => (getK k x chs).bind fun q => (getKs ks xs q.2).bind fun r => some ((q.1, r.1), r.2)
  | _, _, _ => none
def putKs (id : Nat) : (ks : List Knd) → denN ks → List LV
  | [], _ => []
  | k :: ks, d => putK id k d.1 :: putKs (id + 1) ks d.2
def newKs (id ver : Nat) : (ks : List Knd) → denN ks → List Ent
  | [], _ => []
  | k :: ks, d => newK id ver k d.1 ++ newKs (id + 1) ver ks d.2
section
variable {P : Program} {w0 w : World} {J : Hp} {θ : Th} {n : Nat} {C : List Ch}
/-- a bundle becomes a chunk -/
theorem St.bun {ls : List Ch} {α : Type} {R : Rep α} {cs : List Value} {x : α} (h : St J w0 w (ls ++ C)) (hb : Bun J ls R cs x) : St J w0 w (Ch.own R cs x :: C) := by
  obtain ⟨h1, h2, F, h3, h4, h5⟩ := h
  obtain ⟨G, K, rfl, e1, e2⟩ := h3.split
  exact ⟨h1, h2, G ++ K, ⟨G, K, rfl, hb w G e1, e2⟩, h4, h5⟩
theorem own_one' {α : Type} {R : Rep α} {u : Value} {x : α} (h : St J w0 w (Ch.own R [u] x :: C)) : u.oneCell' = true := by
  obtain ⟨h1, h2, F, ⟨G, K, rfl, k, e⟩, h4, h5⟩ := h
  exact R.own_one k u (by simp)
/-- one place: at θ' the value of 'id' is what stands there -/
theorem getK_ok {k : Knd} {x : LV} {chs : List Ent} {q : k.den × List Ent} (h : getK k x chs = some q) (hx : x.ok P w0 J θ n) (hS : St J w0 w (chs.map (toCh P θ) ++ C)) {θ' : Th} {id ver m : Nat} (hid : θ' id = x.v θ) (hm : id < m) :
    (putK id k q.1).ok P w0 J θ' m ∧ (putK id k q.1).v θ' = x.v θ ∧ St J w0 w ((newK id ver k q.1).map (toCh P θ') ++ (q.2.map (toCh P θ) ++ C)) ∧ ∀ e ∈ q.2, e ∈ chs := by
  have hh : hv θ' ⟨id, []⟩ = x.v θ := hid
  cases k with
  | num k =>
    obtain ⟨d, hd, h⟩ := bind_some (show (lvInt k x).bind _ = some q from h)
    obtain rfl := Option.some.inj h
    exact ⟨Eq.refl true, (lvInt_ok hd θ).symm, hS, fun e he => he⟩
  | boo =>
    obtain ⟨d, hd, h⟩ := bind_some (show (lvBool x).bind _ = some q from h)
    obtain rfl := Option.some.inj h
    exact ⟨Eq.refl true, (lvBool_ok hd θ).symm, hS, fun e he => he⟩
  | str =>
    obtain ⟨d, hd, h⟩ := bind_some (show (lvStr x).bind _ = some q from h)
    obtain rfl := Option.some.inj h
    exact ⟨Eq.refl true, (lvStr_ok hd θ).symm, hS, fun e he => he⟩
  | rd E t =>
    obtain ⟨d, hd, h⟩ := bind_some (show (lvSl E t x).bind _ = some q from h)
    obtain rfl := Option.some.inj h
    refine ⟨⟨hm, ?_⟩, hh, hS, fun e he => he⟩
    rw [hh]; exact lvSl_ok hd hx
  | tre T E t =>
    obtain ⟨d, hd, h⟩ := bind_some (show (lvTr T E t x).bind _ = some q from h)
    obtain rfl := Option.some.inj h
    refine ⟨⟨hm, ?_⟩, hh, hS, fun e he => he⟩
    rw [hh]; exact lvTr_ok hd hx
  | own E t =>
    obtain ⟨r, hr, h⟩ := bind_some (show (takeSl E t x chs).bind _ = some q from h)
    obtain rfl := Option.some.inj h
    obtain ⟨p, hb⟩ := takeSl_ok hr P J θ
    have h1 : St J w0 w (Ch.own (Ty.sl E t).rep [x.v θ] r.1 :: (r.2.2.map (toCh P θ) ++ C)) := by
      refine St.bun ?_ hb
      have := hS.perm ((p.map (toCh P θ)).append_right C)
      rwa [List.map_append, List.append_assoc] at this
    refine ⟨⟨hm, by rw [hh]; exact own_one' h1⟩, hh, ?_, fun e he => p.mem_iff.2 (by simp [he])⟩
    show St J w0 w (Ch.own _ [hv θ' ⟨id, []⟩] _ :: _)
    rw [hh]; exact h1
  | map d =>
    obtain ⟨h0, ver0, rfl, p⟩ := takeMp_ok (show takeMp d x chs = some q from h)
    have h1 : St J w0 w (toCh P θ (h0, ver0, d.ck q.1) :: (q.2.map (toCh P θ) ++ C)) := by
      have := hS.perm ((p.map (toCh P θ)).append_right C)
      exact this
    have e0 : hv θ h0 = LV.v θ (.own h0) := rfl
    have h2 : St J w0 w (@Ch.mp P d.K d.E d.k.den d.e.den d.k.dec d.k.lit d.k.ok d.e.lit d.e.z (hv θ h0) (show List (d.k.den × d.e.den) from q.1) :: (q.2.map (toCh P θ) ++ C)) := h1
    refine ⟨⟨hm, by rw [hh]; exact hx.2⟩, hh, ?_, fun e he => p.mem_iff.2 (by simp [he])⟩
    show St J w0 w (@Ch.mp P d.K d.E d.k.den d.e.den d.k.dec d.k.lit d.k.ok d.e.lit d.e.z (hv θ' ⟨id, []⟩) (show List (d.k.den × d.e.den) from q.1) :: _)
    rw [hh]; exact h2
theorem getKs_ok : ∀ {ks : List Knd} {xs : List LV} {chs : List Ent} {q : denN ks × List Ent} {id ver : Nat} {C : List Ch}, getKs ks xs chs = some q → (∀ x ∈ xs, x.ok P w0 J θ n) → St J w0 w (chs.map (toCh P θ) ++ C) → ∀ {θ' : Th} {m : Nat}, (∀ i x, xs[i]? = some x → θ' (id + i) = x.v θ) → id + ks.length ≤ m →
    (∀ x ∈ putKs id ks q.1, x.ok P w0 J θ' m) ∧ (putKs id ks q.1).map (·.v θ') = xs.map (·.v θ) ∧ St J w0 w ((newKs id ver ks q.1).map (toCh P θ') ++ (q.2.map (toCh P θ) ++ C)) ∧ ∀ e ∈ q.2, e ∈ chs
  | [], [], chs, q, id, ver, C, h, _, hS, θ', m, _, _ => by
    obtain rfl := Option.some.inj (show some _ = some q from h)
    exact ⟨fun x hx => (by cases hx), rfl, hS, fun e he => he⟩
  | k :: ks, x :: xs, chs, q, id, ver, C, h, hx, hS, θ', m, hid, hm => by
    obtain ⟨a, ha, h⟩ := bind_some (show (getK k x chs).bind _ = some q from h)
    obtain ⟨b, hb, h⟩ := bind_some h
    obtain rfl := Option.some.inj h
    have hm' : id < m := by rw [List.length_cons] at hm; omega
    obtain ⟨a1, a2, a3, a4⟩ := getK_ok (ver := ver) ha (hx x (by simp)) hS (θ' := θ') (id := id) (m := m) (hid 0 x rfl) hm'
    obtain ⟨b1, b2, b3, b4⟩ := getKs_ok (id := id + 1) (ver := ver) (C := (newK id ver k a.1).map (toCh P θ') ++ C) hb (fun y hy => hx y (by simp [hy])) (a3.perm (List.perm_append_comm_assoc _ _ _)) (θ' := θ') (m := m) (fun i y hy => by
      have := hid (i + 1) y hy
      rwa [show id + (i + 1) = id + 1 + i from by omega] at this) (by rw [List.length_cons] at hm; omega)
    refine ⟨fun y hy => ?_, ?_, ?_, fun e he => a4 e (b4 e he)⟩
    · rcases List.mem_cons.1 hy with rfl | hy
      · exact a1
      · exact b1 y hy
    · show LV.v θ' _ :: (putKs (id + 1) ks b.1).map _ = _
      rw [a2, b2]; rfl
    · show St J w0 w ((newK id ver k a.1 ++ newKs (id + 1) ver ks b.1).map _ ++ _)
      rw [List.map_append]
      refine b3.perm ?_
      have := List.perm_append_comm_assoc ((newKs (id + 1) ver ks b.1).map (toCh P θ') ++ b.2.map (toCh P θ)) ((newK id ver k a.1).map (toCh P θ')) C
      rw [List.append_assoc, List.append_assoc] at this
      rw [List.append_assoc]
      exact this
  | [], _ :: _, chs, q, id, ver, C, h, _, _, _, _, _, _ => by cases h
  | _ :: _, [], chs, q, id, ver, C, h, _, _, _, _, _, _ => by cases h
end

/-! ### Places of a state -/
inductive It
  | slot (t : Nat) (k : Knd)
  | box (t : Nat) (ks : List Knd)
  | row (t : Nat) (E : TypeId) (u : Ty)
  | agg (t : Nat) (ks : List Knd)
  | par (i : Nat) (p : List Nat) (E : TypeId) (u : Ty)
  | gone (t : Nat)
/-- the same, with what does not turn: the heads -/
inductive RIt
  | slot (t : Nat) (k : Knd)
  | box (h : Hdr) (T : TypeId) (ks : List Knd)
  | row (h : Hdr) (E : TypeId) (u : Ty)
  | agg (t : Nat) (k : Knd) (ks : List Knd)
def RIt.ks : RIt → List Knd
  | .slot _ k => [k]
  | .box _ _ ks => ks
  | .row _ E u => [.own E u]
  | .agg _ k ks => k :: ks
def ksOf : List RIt → List Knd
  | [] => []
  | r :: rs => r.ks ++ ksOf rs
def ptr0 : Option AV → Option Hdr
  | some (.one (.ptr h off)) => if Nat.beq off 0 then some h else none
  | _ => none
def own0 : Option AV → Option Hdr
  | some (.one (.own h)) => some h
  | _ => none
theorem own0_ok {v : Option AV} {h : Hdr} (k : own0 v = some h) : v = some (.one (.own h)) := by
  unfold own0 at k
  split at k
  · rw [Option.some.inj k]
  · cases k
def resolve (s : Sg) : It → Option RIt
  | .slot t k => some (.slot t k)
  | .box t ks => (ptr0 (look s.env t)).bind fun h => (blkOf h s.chs).bind fun b => some (.box h b.T ks)
  | .row t E u => (own0 (look s.env t)).bind fun h => some (.row h E u)
  | .agg t ks => match ks with
    | k :: ks => some (.agg t k ks)
    | [] => none
  | .par i p E u => chkT (Nat.blt i s.nxt) (some (.row ⟨i, p⟩ E u))
  | .gone _ => none
def resolveL (s : Sg) : List It → Option (List RIt)
  | [] => some []
  | i :: is => (resolve s i).bind fun r => (resolveL s is).bind fun rs => some (r :: rs)
def oneOf : Option AV → Option LV
  | some (.one x) => some x
  | _ => none
theorem oneOf_ok {v : Option AV} {x : LV} (h : oneOf v = some x) : v = some (.one x) := by
  unfold oneOf at h
  split at h
  · rw [Option.some.inj h]
  · cases h
def aggOf : Option AV → Option (List LV)
  | some (.agg xs) => some xs
  | _ => none
theorem aggOf_ok {v : Option AV} {x : List LV} (h : aggOf v = some x) : v = some (.agg x) := by
  unfold aggOf at h
  split at h
  · rw [Option.some.inj h]
  · cases h
/-- the data of a place -/
def getI1 (env : List (Nat × Nat × AV)) (chs : List Ent) : (r : RIt) → Option (denN r.ks × List Ent)
  | .slot t k => (oneOf (look env t)).bind fun x => getKs [k] [x] chs
  | .box h T ks => (blkOf h chs).bind fun b => chkT (Nat.beq b.T T) (getKs ks b.cells b.rest)
  | .row h E u => getKs [.own E u] [.own h] chs
  | .agg t k ks => (aggOf (look env t)).bind fun xs => getKs (k :: ks) xs chs
def appN : (ks ls : List Knd) → denN ks → denN ls → denN (ks ++ ls)
  | [], _, _, e => e
  | _ :: ks, ls, d, e => (d.1, appN ks ls d.2 e)
def fstN : (ks ls : List Knd) → denN (ks ++ ls) → denN ks
  | [], _, _ => ()
  | _ :: ks, ls, d => (d.1, fstN ks ls d.2)
def sndN : (ks ls : List Knd) → denN (ks ++ ls) → denN ls
  | [], _, d => d
  | _ :: ks, ls, d => sndN ks ls d.2
theorem fst_app : ∀ (ks ls : List Knd) (d : denN ks) (e : denN ls), fstN ks ls (appN ks ls d e) = d
  | [], _, _, _ => rfl
  | _ :: ks, ls, d, e => congrArg (Prod.mk d.1) (fst_app ks ls d.2 e)
theorem snd_app : ∀ (ks ls : List Knd) (d : denN ks) (e : denN ls), sndN ks ls (appN ks ls d e) = e
  | [], _, _, _ => rfl
  | _ :: ks, ls, d, e => snd_app ks ls d.2 e
def getIs (env : List (Nat × Nat × AV)) : (rs : List RIt) → List Ent → Option (denN (ksOf rs) × List Ent)
  | [], chs => some ((), chs)
  | r :: rs, chs => (getI1 env chs r).bind fun q => (getIs env rs q.2).bind fun p => some (appN r.ks (ksOf rs) q.1 p.1, p.2)
/-- the places anew: slots and entries -/
def newE (id : Nat) : (r : RIt) → denN r.ks → List (Nat × Nat × AV)
  | .slot t k, d => [(t, id, .one (putK id k d.1))]
  | .agg t k ks, d => [(t, id, .agg (putKs id (k :: ks) d))]
  | _, _ => []
def newC (id ver : Nat) : (r : RIt) → denN r.ks → List Ent
  | .slot _ k, d => newKs id ver [k] d
  | .agg _ k ks, d => newKs id ver (k :: ks) d
  | .box h T ks, d => (h, ver, .blk T (putKs id ks d)) :: newKs id ver ks d
  | .row h E u, d => [(h, ver, .own (.sl E u) d.1)]
def newEs : (id : Nat) → (rs : List RIt) → denN (ksOf rs) → List (Nat × Nat × AV)
  | _, [], _ => []
  | id, r :: rs, d => newE id r (fstN r.ks (ksOf rs) d) ++ newEs (id + r.ks.length) rs (sndN r.ks (ksOf rs) d)
def newCs (ver : Nat) : (id : Nat) → (rs : List RIt) → denN (ksOf rs) → List Ent
  | _, [], _ => []
  | id, r :: rs, d => newC id ver r (fstN r.ks (ksOf rs) d) ++ newCs ver (id + r.ks.length) rs (sndN r.ks (ksOf rs) d)
structure Cut where
  nxt : Nat
  its : List RIt
  env : List (Nat × Nat × AV)
  chs : List Ent
def Cut.top (c : Cut) : Nat := c.nxt + (ksOf c.its).length
/-- the state behind the cut -/
def Cut.at (c : Cut) (d : denN (ksOf c.its)) : Sg := ⟨newEs c.nxt c.its d ++ c.env, newCs c.top c.nxt c.its d ++ c.chs, c.top + 1⟩
def hasN (t : Nat) : List Nat → Bool
  | [] => false
  | u :: l => Nat.beq u t || hasN t l
def lookV (l : List (Nat × Nat × AV)) (t : Nat) : Option Nat := match l with
  | [] => none
  | (u, k, _) :: l => if Nat.beq u t then some k else lookV l t
/-- what stays is there as it was -/
def envStays (env : List (Nat × Nat × AV)) : List (Nat × Nat × AV) → Bool
  | [] => true
  | e :: l => (match lookV env e.1 with | some v => Nat.beq v e.2.1 | none => false) && envStays env l
def chsStay : List Ent → List Ent → Option (List Ent)
  | [], chs => some chs
  | e :: l, chs => (pull e.1 chs).bind fun r => chkT (Nat.beq r.1.2.1 e.2.1) (chsStay l r.2)
def distinctH : List Ent → Bool
  | [] => true
  | e :: l => noHdr e.1 l && distinctH l
def ritHdrs (s : Sg) : List RIt → List Hdr
  | [] => []
  | .slot t _ :: rs => (match look s.env t with | some v => avHdrs v | none => []) ++ ritHdrs s rs
  | .box h _ _ :: rs => (match blkOf h s.chs with | some b => avHdrs (.agg b.cells) | none => []) ++ ritHdrs s rs
  | .row h _ _ :: rs => h :: ritHdrs s rs
  | .agg t _ _ :: rs => (match look s.env t with | some v => avHdrs v | none => []) ++ ritHdrs s rs
def rowHdrs : List Ent → List Hdr
  | [] => []
  | (h, _, .own _ _) :: l => h :: rowHdrs l
  | _ :: l => rowHdrs l
/-- a state is cut: its data -/
def Cut.of (c : Cut) (s0 : Sg) : Option (denN (ksOf c.its)) := match prepL (rowHdrs c.chs) (prepL (ritHdrs s0 c.its) s0) with
  | s => (getIs s.env c.its s.chs).bind fun q => (chsStay c.chs q.2).bind fun _ => chkT (envStays s.env c.env) (some q.1)
def RIt.hdrs : RIt → List Hdr
  | .slot _ _ => []
  | .box h _ _ => [h]
  | .row h _ _ => [h]
  | .agg _ _ _ => []
def hdrsR : List RIt → List Hdr
  | [] => []
  | r :: rs => r.hdrs ++ hdrsR rs
/-- of each slot what it holds -/
def firstE : List (Nat × Nat × AV) → List Nat → List (Nat × Nat × AV)
  | [], _ => []
  | e :: l, seen => match hasN e.1 seen with
    | true => firstE l seen
    | false => e :: firstE l (e.1 :: seen)
theorem firstE_sub : ∀ {l : List (Nat × Nat × AV)} {seen : List Nat}, (firstE l seen).Sublist l
  | [], _ => List.Sublist.refl _
  | e :: l, seen => by
    unfold firstE
    split
    · exact firstE_sub.cons _
    · exact firstE_sub.cons_cons _
/-- the cut at a state: 'ks' are the slots that are written behind it -/
def realI : List It → List It
  | [] => []
  | .gone _ :: is => realI is
  | i :: is => i :: realI is
/-- rows that are not wanted behind -/
def goneH (s : Sg) : List It → List Hdr
  | [] => []
  | .gone t :: is => (match look s.env t with
    | some (.one (.ptr h _)) => match blkOf h s.chs with | some b => avHdrs (.agg b.cells) | none => []
    | some v => avHdrs v
    | none => []) ++ goneH s is
  | _ :: is => goneH s is
def mkCut (ks : List Nat) (is : List It) (s : Sg) : Option Cut := (resolveL s (realI is)).bind fun rs => chkT (distinctH s.chs) (some ⟨s.nxt, rs, firstE (s.env.filter fun e => !hasN e.1 ks) [], s.chs.filter fun e => !hasH e.1 (goneH s is ++ (ritHdrs s rs ++ hdrsR rs))⟩)

/-! ### Cuts are so -/
theorem newK_ok {P : Program} {w0 : World} {J : Hp} {θ : Th} {m id ver : Nat} {chs : List Ent} {k : Knd} {d : k.den} (h1 : id < m) (h2 : ver < m) : ∀ e ∈ newK id ver k d, okE P w0 J θ m chs e := by
  cases k with
  | own E t => intro e he; obtain rfl := List.mem_singleton.1 he; exact ⟨h1, h2, trivial⟩
  | map md => intro e he; obtain rfl := List.mem_singleton.1 he; exact ⟨h1, h2, trivial⟩
  | _ => intro e he; cases he
theorem newKs_ok {P : Program} {w0 : World} {J : Hp} {θ : Th} {m ver : Nat} {chs : List Ent} (h2 : ver < m) : ∀ {ks : List Knd} {id : Nat} {d : denN ks}, id + ks.length ≤ m → ∀ e ∈ newKs id ver ks d, okE P w0 J θ m chs e
  | [], _, _, _ => fun e he => by cases he
  | k :: ks, id, d, h1 => fun e he => by
    rw [List.length_cons] at h1
    rcases List.mem_append.1 he with he | he
    · exact newK_ok (by omega) h2 e he
    · exact newKs_ok h2 (by omega) e he
section
variable {P : Program} {w0 w : World} {J : Hp} {θ : Th} {n : Nat} {C : List Ch}
/-- what is said of a place that is cut -/
def CutI (P : Program) (w0 w : World) (J : Hp) (θ : Th) (env : List (Nat × Nat × AV)) (chs : List Ent) (hs : List Hdr) (len : Nat) (rest : List Ent) (E : Nat → List (Nat × Nat × AV)) (N : Nat → Nat → List Ent) : Prop :=
  ∃ vals : List Value, vals.length = len ∧ ∀ (θ' : Th) (id ver m : Nat), (∀ i v, vals[i]? = some v → θ' (id + i) = v) → id + len ≤ m → ver < m → (∀ h ∈ hs, hv θ' h = hv θ h ∧ h.id < m) → ∀ C, St J w0 w (chs.map (toCh P θ) ++ C) →
    (∀ e ∈ E id, (∀ chs', e.2.2.ok P w0 J θ' m chs') ∧ ∃ x, look env e.1 = some x ∧ e.2.2.v θ' = x.v θ) ∧ (∀ chs', ∀ e ∈ N id ver, okE P w0 J θ' m chs' e) ∧ St J w0 w ((N id ver).map (toCh P θ') ++ (rest.map (toCh P θ) ++ C))
theorem getI1_ok {env : List (Nat × Nat × AV)} {chs chs0 : List Ent} {r : RIt} {q : denN r.ks × List Ent} (h : getI1 env chs r = some q) (henv : ∀ e ∈ env, e.2.2.ok P w0 J θ n chs0) (hchs : ∀ e ∈ chs, okE P w0 J θ n chs0 e) :
    CutI P w0 w J θ env chs r.hdrs r.ks.length q.2 (fun id => newE id r q.1) (fun id ver => newC id ver r q.1) := by
  cases r with
  | slot t k =>
    obtain ⟨x, hx, h⟩ := bind_some (show (oneOf (look env t)).bind _ = some q from h)
    have hx := oneOf_ok hx
    · have hxo : x.ok P w0 J θ n := by
        obtain ⟨e, he, h1⟩ := look_mem hx
        have := henv e he
        rw [h1] at this
        exact this
      refine ⟨[x.v θ], rfl, fun θ' id ver m hid hm hv' hh C hS => ?_⟩
      obtain ⟨k1, k2, k3, k4⟩ := getKs_ok (ver := ver) (C := C) (id := id) (θ' := θ') (m := m) h (fun y hy => by obtain rfl := List.mem_singleton.1 hy; exact hxo) hS (fun i y hy => by
        cases i with
        | zero => simp at hy; rw [← hy]; exact hid 0 _ rfl
        | succ i => simp at hy) hm
      refine ⟨fun e he => ?_, fun chs' => newKs_ok hv' hm, k3⟩
      obtain rfl := List.mem_singleton.1 he
      exact ⟨fun chs' => k1 _ (by simp [putKs]), _, hx, (List.cons.inj (show _ :: _ = _ :: _ from k2)).1⟩
  | box hh T ks =>
    obtain ⟨b, hb, h⟩ := bind_some (show (blkOf hh chs).bind _ = some q from h)
    obtain ⟨hT, h⟩ := chkT_ok h
    have hT := Nat.eq_of_beq_eq_true hT
    have hp := blkOf_ok hb
    have hbk := hchs (b.ent hh) (hp.mem_iff.2 (by simp))
    have hlen : ∀ {ks : List Knd} {xs : List LV} {chs : List Ent} {q : denN ks × List Ent}, getKs ks xs chs = some q → xs.length = ks.length := by
      intro ks
      induction ks with
      | nil => intro xs chs q h; cases xs with
        | nil => rfl
        | cons _ _ => cases h
      | cons k ks ih => intro xs chs q h; cases xs with
        | nil => cases h
        | cons x xs =>
          obtain ⟨a, ha, h⟩ := bind_some (show (getK k x chs).bind _ = some q from h)
          obtain ⟨c, hc, h⟩ := bind_some h
          rw [List.length_cons, List.length_cons, ih hc]
    have hl := hlen h
    have hvl : (b.cells.map (·.v θ)).length = ks.length := by rw [List.length_map]; exact hl
    have hget : ∀ {θ' : Th} {id : Nat}, (∀ i v, (b.cells.map (·.v θ))[i]? = some v → θ' (id + i) = v) → ∀ i x, b.cells[i]? = some x → θ' (id + i) = x.v θ := fun hid i x hx => hid i _ (by rw [List.getElem?_map, hx]; rfl)
    refine ⟨b.cells.map (·.v θ), hvl, fun θ' id ver m hid hm hv' hh' C hS => ?_⟩
    · have hS' : St J w0 w (b.rest.map (toCh P θ) ++ (Ch.blk (bk (hv θ hh)) (b.cells.map (·.v θ)) b.T :: C)) := by
        refine (hS.perm ((hp.map (toCh P θ)).append_right C)).perm ?_
        exact (List.perm_middle (l₁ := b.rest.map (toCh P θ)) (l₂ := C)).symm
      obtain ⟨k1, k2, k3, k4⟩ := getKs_ok (ver := ver) (id := id) (θ' := θ') (m := m) h hbk.2.2 hS' (hget hid) hm
      obtain ⟨g1, g2⟩ := hh' hh (by simp [RIt.hdrs])
      refine ⟨fun e he => (by cases he), fun chs' e he => ?_, ?_⟩
      · rcases List.mem_cons.1 he with rfl | he
        · exact ⟨g2, hv', k1⟩
        · exact newKs_ok hv' hm e he
      · show St J w0 w (Ch.blk (bk (hv θ' hh)) ((putKs id ks q.1).map (·.v θ')) T :: ((newKs id ver ks q.1).map (toCh P θ') ++ (q.2.map (toCh P θ) ++ C)))
        rw [g1, k2, ← hT]
        refine k3.perm ?_
        rw [← List.append_assoc, ← List.append_assoc]
        exact List.perm_middle
  | agg t k ks =>
    obtain ⟨xs, hx, h⟩ := bind_some (show (aggOf (look env t)).bind _ = some q from h)
    have hx := aggOf_ok hx
    have hxo : ∀ x ∈ xs, x.ok P w0 J θ n := by
      obtain ⟨e, he, h1⟩ := look_mem hx
      have := henv e he
      rw [h1] at this
      exact this
    have hlen : ∀ {ks : List Knd} {xs : List LV} {chs : List Ent} {q : denN ks × List Ent}, getKs ks xs chs = some q → xs.length = ks.length := by
      intro ks
      induction ks with
      | nil => intro xs chs q h; cases xs with
        | nil => rfl
        | cons _ _ => cases h
      | cons k ks ih => intro xs chs q h; cases xs with
        | nil => cases h
        | cons x xs =>
          obtain ⟨a, ha, h⟩ := bind_some (show (getK k x chs).bind _ = some q from h)
          obtain ⟨c, hc, h⟩ := bind_some h
          rw [List.length_cons, List.length_cons, ih hc]
    refine ⟨xs.map (·.v θ), by rw [List.length_map]; exact hlen h, fun θ' id ver m hid hm hv' hh C hS => ?_⟩
    obtain ⟨k1, k2, k3, k4⟩ := getKs_ok (ver := ver) (C := C) (id := id) (θ' := θ') (m := m) h hxo hS (fun i y hy => hid i _ (by rw [List.getElem?_map, hy]; rfl)) hm
    refine ⟨fun e he => ?_, fun chs' => newKs_ok hv' hm, k3⟩
    obtain rfl := List.mem_singleton.1 he
    refine ⟨fun chs' => k1, _, hx, ?_⟩
    show Value.agg ((putKs id (k :: ks) q.1).map (·.v θ')).toArray = Value.agg (xs.map (·.v θ)).toArray
    rw [k2]
  | row hh E u =>
    have h : getKs [.own E u] [.own hh] chs = some q := h
    obtain ⟨a, ha, h⟩ := bind_some (show (getK (.own E u) (.own hh) chs).bind _ = some q from h)
    obtain ⟨c, hc, h⟩ := bind_some h
    obtain rfl := Option.some.inj (show some ((), a.2) = some c from hc)
    obtain rfl := Option.some.inj h
    obtain ⟨r, hr, ha⟩ := bind_some (show (takeSl E u (.own hh) chs).bind _ = some a from ha)
    obtain rfl := Option.some.inj ha
    obtain ⟨p, hb⟩ := takeSl_ok hr P J θ
    refine ⟨[hv θ hh], rfl, fun θ' id ver m hid hm hv' hh' C hS => ?_⟩
    have h1 : St J w0 w (Ch.own (Ty.sl E u).rep [hv θ hh] r.1 :: (r.2.2.map (toCh P θ) ++ C)) := by
      refine St.bun ?_ hb
      have := hS.perm ((p.map (toCh P θ)).append_right C)
      rwa [List.map_append, List.append_assoc] at this
    refine ⟨fun e he => (by cases he), fun chs' e he => ?_, ?_⟩
    · obtain rfl := List.mem_singleton.1 he
      exact ⟨(hh' hh (by simp [RIt.hdrs])).2, hv', trivial⟩
    · show St J w0 w (Ch.own _ [hv θ' hh] _ :: _)
      rw [(hh' hh (by simp [RIt.hdrs])).1]; exact h1
theorem getK_sub {k : Knd} {x : LV} {chs : List Ent} {q : k.den × List Ent} (h : getK k x chs = some q) : ∀ e ∈ q.2, e ∈ chs := by
  cases k with
  | num k => obtain ⟨d, hd, h⟩ := bind_some (show (lvInt k x).bind _ = some q from h); obtain rfl := Option.some.inj h; exact fun e he => he
  | boo => obtain ⟨d, hd, h⟩ := bind_some (show (lvBool x).bind _ = some q from h); obtain rfl := Option.some.inj h; exact fun e he => he
  | str => obtain ⟨d, hd, h⟩ := bind_some (show (lvStr x).bind _ = some q from h); obtain rfl := Option.some.inj h; exact fun e he => he
  | rd E t => obtain ⟨d, hd, h⟩ := bind_some (show (lvSl E t x).bind _ = some q from h); obtain rfl := Option.some.inj h; exact fun e he => he
  | own E t =>
    obtain ⟨r, hr, h⟩ := bind_some (show (takeSl E t x chs).bind _ = some q from h)
    obtain rfl := Option.some.inj h
    exact fun e he => (takeSl_perm hr).mem_iff.2 (by simp [he])
  | tre T E t => obtain ⟨d, hd, h⟩ := bind_some (show (lvTr T E t x).bind _ = some q from h); obtain rfl := Option.some.inj h; exact fun e he => he
  | map d =>
    obtain ⟨h0, ver0, -, p⟩ := takeMp_ok (show takeMp d x chs = some q from h)
    exact fun e he => p.mem_iff.2 (by simp [he])
theorem getKs_sub : ∀ {ks : List Knd} {xs : List LV} {chs : List Ent} {q : denN ks × List Ent}, getKs ks xs chs = some q → ∀ e ∈ q.2, e ∈ chs
  | [], [], chs, q, h => by obtain rfl := Option.some.inj (show some _ = some q from h); exact fun e he => he
  | k :: ks, x :: xs, chs, q, h => by
    obtain ⟨a, ha, h⟩ := bind_some (show (getK k x chs).bind _ = some q from h)
    obtain ⟨b, hb, h⟩ := bind_some h
    obtain rfl := Option.some.inj h
    exact fun e he => getK_sub ha e (getKs_sub hb e he)
  | [], _ :: _, chs, q, h => by cases h
  | _ :: _, [], chs, q, h => by cases h
theorem getI1_sub {env : List (Nat × Nat × AV)} {chs : List Ent} {r : RIt} {q : denN r.ks × List Ent} (h : getI1 env chs r = some q) : ∀ e ∈ q.2, e ∈ chs := by
  cases r with
  | slot t k =>
    obtain ⟨x, hx, h⟩ := bind_some (show (oneOf (look env t)).bind _ = some q from h)
    exact getKs_sub h
  | box hh T ks =>
    obtain ⟨b, hb, h⟩ := bind_some (show (blkOf hh chs).bind _ = some q from h)
    obtain ⟨hT, h⟩ := chkT_ok h
    exact fun e he => (blkOf_ok hb).mem_iff.2 (List.mem_cons_of_mem _ (getKs_sub h e he))
  | row hh E u => exact getKs_sub (show getKs [.own E u] [.own hh] chs = some q from h)
  | agg t k ks =>
    obtain ⟨x, hx, h⟩ := bind_some (show (aggOf (look env t)).bind _ = some q from h)
    exact getKs_sub h
theorem getIs_ok {env : List (Nat × Nat × AV)} {chs0 : List Ent} (henv : ∀ e ∈ env, e.2.2.ok P w0 J θ n chs0) : ∀ {rs : List RIt} {chs : List Ent} {q : denN (ksOf rs) × List Ent}, getIs env rs chs = some q → (∀ e ∈ chs, okE P w0 J θ n chs0 e) →
    (∀ e ∈ q.2, e ∈ chs) ∧ CutI P w0 w J θ env chs (hdrsR rs) (ksOf rs).length q.2 (fun id => newEs id rs q.1) (fun id ver => newCs ver id rs q.1)
  | [], chs, q, h, _ => by
    obtain rfl := Option.some.inj (show some _ = some q from h)
    exact ⟨fun e he => he, [], rfl, fun θ' id ver m _ _ _ _ C hS => ⟨fun e he => (by cases he), fun chs' e he => (by cases he), hS⟩⟩
  | r :: rs, chs, q, h, hchs => by
    obtain ⟨a, ha, h⟩ := bind_some (show (getI1 env chs r).bind _ = some q from h)
    obtain ⟨b, hb, h⟩ := bind_some h
    obtain rfl := Option.some.inj h
    have hsub := getI1_sub ha
    obtain ⟨v1, l1, k1⟩ := getI1_ok (w := w) ha henv hchs
    obtain ⟨s2, v2, l2, k2⟩ := getIs_ok henv hb fun e he => hchs e (hsub e he)
    refine ⟨fun e he => hsub e (s2 e he), v1 ++ v2, by rw [List.length_append, l1, l2]; exact (List.length_append ..).symm, fun θ' id ver m hid hm hv' hh C hS => ?_⟩
    have hm : id + (r.ks.length + (ksOf rs).length) ≤ m := by
      have : (ksOf (r :: rs)).length = r.ks.length + (ksOf rs).length := List.length_append ..
      rw [this] at hm; exact hm
    obtain ⟨a1, a2, a3⟩ := k1 θ' id ver m (fun i v hi => hid i v (by rw [List.getElem?_append_left (List.getElem?_eq_some_iff.1 hi).1]; exact hi)) (by omega) hv' (fun x hx => hh x (List.mem_append_left _ hx)) C hS
    obtain ⟨b1, b2, b3⟩ := k2 θ' (id + r.ks.length) ver m (fun i v hi => by
      have := hid (r.ks.length + i) v (by rw [List.getElem?_append_right (by omega), l1, Nat.add_sub_cancel_left]; exact hi)
      rwa [← Nat.add_assoc] at this) (by omega) hv' (fun x hx => hh x (List.mem_append_right _ hx)) ((newC id ver r a.1).map (toCh P θ') ++ C) (a3.perm (List.perm_append_comm_assoc _ _ _))
    have e1 : newEs id (r :: rs) (appN r.ks (ksOf rs) a.1 b.1) = newE id r a.1 ++ newEs (id + r.ks.length) rs b.1 := by
      show newE id r (fstN _ _ _) ++ newEs _ rs (sndN _ _ _) = _
      rw [fst_app, snd_app]
    have e2 : newCs ver id (r :: rs) (appN r.ks (ksOf rs) a.1 b.1) = newC id ver r a.1 ++ newCs ver (id + r.ks.length) rs b.1 := by
      show newC id ver r (fstN _ _ _) ++ newCs ver _ rs (sndN _ _ _) = _
      rw [fst_app, snd_app]
    show (∀ e ∈ newEs id (r :: rs) (appN r.ks (ksOf rs) a.1 b.1), _) ∧ (∀ chs', ∀ e ∈ newCs ver id (r :: rs) (appN r.ks (ksOf rs) a.1 b.1), _) ∧ St J w0 w ((newCs ver id (r :: rs) (appN r.ks (ksOf rs) a.1 b.1)).map _ ++ _)
    rw [e1, e2]
    refine ⟨fun e he => ?_, fun chs' e he => ?_, ?_⟩
    · rcases List.mem_append.1 he with he | he
      · exact a1 e he
      · exact b1 e he
    · rcases List.mem_append.1 he with he | he
      · exact a2 chs' e he
      · exact b2 chs' e he
    · rw [List.map_append]
      refine b3.perm ?_
      have := List.perm_append_comm_assoc ((newCs ver (id + r.ks.length) rs b.1).map (toCh P θ') ++ b.2.map (toCh P θ)) ((newC id ver r a.1).map (toCh P θ')) C
      rw [List.append_assoc, List.append_assoc] at this
      rw [List.append_assoc]
      exact this
end
end Go.Proofs.YtimjccbdngajoaaGreat.R
/- A state may be cut. No program text is named here. -/
set_option linter.unusedVariables false
set_option linter.unusedSimpArgs false
set_option linter.unnecessarySimpa false
set_option linter.unusedSectionVars false
namespace Go.Proofs.YtimjccbdngajoaaGreat.R
open Go.RowKit
open Go.Proofs.YtimjccbdngajoaaGreat.D

def NotHole : Chk → Prop
  | .hole _ _ _ _ _ _ _ _ _ _ => False
  | _ => True
theorem newK_ver {id ver : Nat} {k : Knd} {d : k.den} : ∀ e ∈ newK id ver k d, e.2.1 = ver ∧ NotHole e.2.2 := by
  cases k with
  | own E t => intro e he; obtain rfl := List.mem_singleton.1 he; exact ⟨rfl, trivial⟩
  | map md => intro e he; obtain rfl := List.mem_singleton.1 he; exact ⟨rfl, trivial⟩
  | _ => intro e he; cases he
theorem newKs_ver {ver : Nat} : ∀ {ks : List Knd} {id : Nat} {d : denN ks}, ∀ e ∈ newKs id ver ks d, e.2.1 = ver ∧ NotHole e.2.2
  | [], _, _ => fun e he => by cases he
  | k :: ks, id, d => fun e he => by
    rcases List.mem_append.1 he with he | he
    · exact newK_ver e he
    · exact newKs_ver e he
theorem newCs_ver {ver : Nat} : ∀ {rs : List RIt} {id : Nat} {d : denN (ksOf rs)}, ∀ e ∈ newCs ver id rs d, e.2.1 = ver ∧ NotHole e.2.2
  | [], _, _ => fun e he => by cases he
  | r :: rs, id, d => fun e he => by
    rcases List.mem_append.1 he with he | he
    · cases r with
      | slot t k => exact newKs_ver e he
      | box h T ks =>
        rcases List.mem_cons.1 he with rfl | he
        · exact ⟨rfl, trivial⟩
        · exact newKs_ver e he
      | row h E u => obtain rfl := List.mem_singleton.1 he; exact ⟨rfl, trivial⟩
      | agg t k ks => exact newKs_ver e he
    · exact newCs_ver e he
theorem newEs_ver : ∀ {rs : List RIt} {id : Nat} {d : denN (ksOf rs)}, (∀ e ∈ newEs id rs d, id ≤ e.2.1 ∧ e.2.1 < id + (ksOf rs).length) ∧ (newEs id rs d).Pairwise fun a b => a.2.1 ≠ b.2.1
  | [], _, _ => ⟨fun e he => (by cases he), List.Pairwise.nil⟩
  | r :: rs, id, d => by
    have hl : (ksOf (r :: rs)).length = r.ks.length + (ksOf rs).length := List.length_append ..
    obtain ⟨k1, k2⟩ := newEs_ver (rs := rs) (id := id + r.ks.length) (d := sndN r.ks (ksOf rs) d)
    have hE : ∀ e ∈ newE id r (fstN r.ks (ksOf rs) d), e.2.1 = id ∧ 0 < r.ks.length := fun e he => by
      cases r with
      | slot t k => obtain rfl := List.mem_singleton.1 he; exact ⟨rfl, Nat.one_pos⟩
      | agg t k ks => obtain rfl := List.mem_singleton.1 he; exact ⟨rfl, Nat.succ_pos _⟩
      | box _ _ _ => cases he
      | row _ _ _ => cases he
    have hP : (newE id r (fstN r.ks (ksOf rs) d)).Pairwise fun a b => a.2.1 ≠ b.2.1 := by
      cases r with
      | slot t k => exact List.pairwise_singleton _ _
      | agg t k ks => exact List.pairwise_singleton _ _
      | box _ _ _ => exact List.Pairwise.nil
      | row _ _ _ => exact List.Pairwise.nil
    refine ⟨fun e he => ?_, List.pairwise_append.2 ⟨hP, k2, fun a ha b hb => ?_⟩⟩
    · rw [hl]
      rcases List.mem_append.1 he with he | he
      · have := hE e he; omega
      · have := k1 e he; omega
    · have := hE a ha; have := k1 b hb; omega
theorem lookV_ok {t v : Nat} : ∀ {l : List (Nat × Nat × AV)}, lookV l t = some v → ∃ x, look l t = some x ∧ (t, v, x) ∈ l
  | (u, k, x) :: l, h => by
    unfold lookV at h
    split at h
    · rename_i hu
      have : u = t := Nat.eq_of_beq_eq_true hu
      subst this
      obtain rfl := Option.some.inj h
      refine ⟨x, ?_, by simp⟩
      unfold look
      rw [if_pos (Nat.beq_refl u)]
    · rename_i hu
      obtain ⟨y, h1, h2⟩ := lookV_ok h
      refine ⟨y, ?_, by simp [h2]⟩
      unfold look
      rw [if_neg hu]; exact h1
theorem envStays_ok {env : List (Nat × Nat × AV)} : ∀ {l : List (Nat × Nat × AV)}, envStays env l = true → ∀ e ∈ l, lookV env e.1 = some e.2.1
  | e :: l, h, x, hx => by
    have h : ((match lookV env e.1 with | some v => Nat.beq v e.2.1 | none => false) && envStays env l) = true := h
    rw [Bool.and_eq_true] at h
    rcases List.mem_cons.1 hx with rfl | hx
    · have h1 := h.1
      split at h1
      · rename_i v hv
        rw [hv, Nat.eq_of_beq_eq_true h1]
      · cases h1
    · exact envStays_ok h.2 x hx
theorem chsStay_ok : ∀ {l chs rest : List Ent}, chsStay l chs = some rest → (∀ e ∈ l, ∀ e' ∈ chs, e'.1 = e.1 → e'.2.1 = e.2.1 → e' = e) → chs.Perm (l ++ rest)
  | [], chs, rest, h, _ => by obtain rfl := Option.some.inj (show some _ = some rest from h); exact List.Perm.refl _
  | e :: l, chs, rest, h, k => by
    obtain ⟨r, hr, h⟩ := bind_some (show (pull e.1 chs).bind _ = some rest from h)
    obtain ⟨hv, h⟩ := chkT_ok h
    obtain ⟨p, he⟩ := pull_ok hr
    have hre : r.1 = e := k e (by simp) r.1 (p.mem_iff.2 (by simp)) he (Nat.eq_of_beq_eq_true hv)
    rw [hre] at p
    exact p.trans ((chsStay_ok h fun x hx x' hx' => k x (by simp [hx]) x' (p.mem_iff.2 (by simp [hx']))).cons e)
theorem distinctH_ok : ∀ {l : List Ent}, distinctH l = true → ∀ a ∈ l, ∀ b ∈ l, a.1 = b.1 → a = b
  | e :: l, h, a, ha, b, hb, hab => by
    have h : (noHdr e.1 l && distinctH l) = true := h
    rw [Bool.and_eq_true] at h
    rcases List.mem_cons.1 ha with h1 | h1
    · rcases List.mem_cons.1 hb with h2 | h2
      · rw [h1, h2]
      · rw [h1] at hab; exact absurd hab.symm (noHdr_ok h.1 h2)
    · rcases List.mem_cons.1 hb with h2 | h2
      · rw [h2] at hab; exact absurd hab (noHdr_ok h.1 h1)
      · exact distinctH_ok h.2 a h1 b h2 hab
theorem pair_uniq {l : List (Nat × Nat × AV)} (h : l.Pairwise fun a b => a.2.1 ≠ b.2.1) : ∀ a ∈ l, ∀ b ∈ l, a.2.1 = b.2.1 → a = b := by
  induction l with
  | nil => intro a ha; cases ha
  | cons e l ih =>
    intro a ha b hb hab
    obtain ⟨h1, h2⟩ := List.pairwise_cons.1 h
    rcases List.mem_cons.1 ha with k1 | k1
    · rcases List.mem_cons.1 hb with k2 | k2
      · rw [k1, k2]
      · rw [k1] at hab; exact absurd hab (h1 b k2)
    · rcases List.mem_cons.1 hb with k2 | k2
      · rw [k2] at hab; exact absurd hab.symm (h1 a k1)
      · exact ih h2 a k1 b k2 hab
structure CutOk (P : Program) (w0 : World) (c : Cut) (s : Sg) (J0 : Hp) (θ0 : Th) : Prop where
  nxt : c.nxt = s.nxt
  env : ∀ e ∈ c.env, e ∈ s.env
  nd : c.env.Pairwise fun a b => a.2.1 ≠ b.2.1
  chs : ∀ e ∈ c.chs, e ∈ s.chs
  dist : distinctH s.chs = true
  hdr : ∀ h ∈ hdrsR c.its, h.id < s.nxt
  fine : Fine P w0 J0 θ0 s
section
variable {V : Env} {P : Program} {I : Hp} {w0 w : World} {F : Ch} {J J0 : Hp} {θ θ0 : Th} {s s' : Sg} {a : Act} {c : Cut}
theorem mkCut_ok {ks : List Nat} {is : List It} (h : mkCut ks is s = some c) (hf : Fine P w0 J θ s) : CutOk P w0 c s J θ := by
  obtain ⟨rs, hrs, h⟩ := bind_some h
  obtain ⟨hd, h⟩ := chkT_ok h
  obtain rfl := Option.some.inj h
  have hres : ∀ {is : List It} {rs : List RIt}, resolveL s is = some rs → ∀ h ∈ hdrsR rs, h.id < s.nxt := by
    intro is
    induction is with
    | nil => intro rs h x hx; obtain rfl := Option.some.inj (show some _ = some rs from h); cases hx
    | cons i is ih =>
      intro rs h x hx
      obtain ⟨r, hr, h⟩ := bind_some (show (resolve s i).bind _ = some rs from h)
      obtain ⟨rs', hrs', h⟩ := bind_some h
      obtain rfl := Option.some.inj h
      rcases List.mem_append.1 hx with hx | hx
      · cases i with
        | slot t k => obtain rfl := Option.some.inj (show some _ = some r from hr); cases hx
        | gone t => cases hr
        | agg t ks =>
          cases ks with
          | nil => cases hr
          | cons k ks => obtain rfl := Option.some.inj (show some _ = some r from hr); cases hx
        | par i p E u =>
          obtain ⟨hi, hr⟩ := chkT_ok (show chkT (Nat.blt i s.nxt) _ = some r from hr)
          obtain rfl := Option.some.inj hr
          obtain rfl := List.mem_singleton.1 hx
          rw [Nat.blt_eq] at hi
          exact hi
        | box t ks =>
          obtain ⟨h0, h1, hr⟩ := bind_some (show (ptr0 (look s.env t)).bind _ = some r from hr)
          obtain ⟨b, hb, hr⟩ := bind_some hr
          obtain rfl := Option.some.inj hr
          obtain rfl := List.mem_singleton.1 hx
          exact (hf.chs _ ((blkOf_ok hb).mem_iff.2 (List.mem_cons_self ..))).1
        | row t E u =>
          obtain ⟨h0, h1, hr⟩ := bind_some (show (own0 (look s.env t)).bind _ = some r from hr)
          obtain rfl := Option.some.inj hr
          obtain rfl := List.mem_singleton.1 hx
          obtain ⟨e, he, h2⟩ := look_mem (own0_ok h1)
          have := hf.env e he
          rw [h2] at this
          exact this.1
      · exact ih hrs' x hx
  exact ⟨rfl, fun e he => (List.mem_filter.1 (firstE_sub.mem he)).1, (hf.nd.filter _).sublist firstE_sub, fun e he => (List.mem_filter.1 he).1, hd, hres hrs, hf⟩
theorem cut_ok (hC : CutOk P w0 c s J0 θ0) (hS : Sim P I w0 F V.n J θ s' a w) (hFr : Fr s θ0 s' θ) (hJ : J0.le J) {d : denN (ksOf c.its)} (h : c.of s' = some d) : ∃ θ', Sim P I w0 F V.n J θ' (c.at d) a w ∧ Fr s θ0 (c.at d) θ' := by
  unfold Cut.of at h
  obtain ⟨S1, F1⟩ := prepL_ok (hs := ritHdrs s' c.its) hS
  obtain ⟨S2, F2⟩ := prepL_ok (hs := rowHdrs c.chs) S1
  generalize hs1 : prepL (rowHdrs c.chs) (prepL (ritHdrs s' c.its) s') = s1 at h S2 F2
  simp only at h
  obtain ⟨q, hq, h⟩ := bind_some h
  obtain ⟨rest2, hrest, h⟩ := bind_some h
  obtain ⟨henv, h⟩ := chkT_ok h
  obtain rfl := Option.some.inj h
  have hfr : Fr s θ0 s1 θ := (hFr.trans F1).trans F2
  obtain ⟨hsub, vals, hvl, hcut⟩ := getIs_ok (w := w) S2.fine.env hq S2.fine.chs
  have hsame : Same s.nxt θ0 θ := hfr.same
  let θ' : Th := fun i => if i < s.nxt then θ i else vals.getD (i - s.nxt) undef
  have hθ : Same s.nxt θ θ' := fun i hi => if_pos hi
  have hθ0 : Same s.nxt θ0 θ' := hsame.trans hθ (Nat.le_refl _)
  have htop : c.top = s.nxt + (ksOf c.its).length := by unfold Cut.top; rw [hC.nxt]
  obtain ⟨e1, e2, e3⟩ := hcut θ' s.nxt c.top (c.top + 1) (fun i v hi => by
    show (if s.nxt + i < s.nxt then _ else vals.getD (s.nxt + i - s.nxt) undef) = v
    rw [if_neg (by omega), Nat.add_sub_cancel_left, List.getD_eq_getElem?_getD, hi]; rfl) (by rw [htop]; exact Nat.le_succ _) (Nat.lt_succ_self _) (fun x hx => ⟨hv_same hθ (hC.hdr x hx), by have := hC.hdr x hx; rw [htop]; omega⟩) [F] S2.st
  have hstay : ∀ e ∈ c.chs, ∀ e' ∈ q.2, e'.1 = e.1 → e'.2.1 = e.2.1 → e' = e := fun e he e' he' h1 h2 => by
    have hes := hC.chs e he
    have hek := hC.fine.chs e hes
    rcases hfr.chs e' (hsub e' he') e'.1 e'.2.1 e'.2.2 ⟨rfl, .inl ⟨rfl, rfl⟩⟩ with h3 | ⟨e0, he0, h3⟩
    · have := hek.2.1; omega
    · have := distinctH_ok hC.dist e0 he0 e hes (h3.1.trans h1)
      subst this
      rcases h3.2 with ⟨h4, h5⟩ | h4
      · obtain ⟨x1, x2, x3⟩ := e'
        obtain ⟨y1, y2, y3⟩ := e0
        simp only at h1 h2 h5
        rw [h1, h2, h5]
      · obtain ⟨y1, y2, y3⟩ := e0
        cases y3 with
        | hole over t dd u y f i k off lv =>
          have h5 := h4.1
          have h6 := hek.2.2.2.1
          have h7 : over = e'.2.1 := h5
          have h8 : over < y2 := h6
          have h9 : e'.2.1 = y2 := h2
          omega
        | _ => exact h4.elim
  have hperm := chsStay_ok hrest hstay
  have hnew : Newer s.nxt s.chs (newCs c.top s.nxt c.its q.1 ++ c.chs) := fun e he h' ver x hs => by
    rcases List.mem_append.1 he with he | he
    · obtain ⟨k1, k2⟩ := newCs_ver e he
      rcases hs.2 with ⟨h1, h2⟩ | h1
      · left; rw [← h1, k1, htop]; omega
      · obtain ⟨y1, y2, y3⟩ := e
        cases y3 with
        | hole _ _ _ _ _ _ _ _ _ _ => exact k2.elim
        | _ => exact h1.elim
    · exact .inr ⟨e, hC.chs e he, hs⟩
  have hlook : ∀ e ∈ c.env, look s1.env e.1 = some e.2.2 := fun e he => by
    obtain ⟨x, h1, h2⟩ := lookV_ok (envStays_ok henv e he)
    have hes := hC.env e he
    have := pair_uniq hC.fine.nd _ (hfr.env _ h2 (hC.fine.ver e hes)) e hes rfl
    rw [h1, ← this]
  have hat : c.at q.1 = ⟨newEs s.nxt c.its q.1 ++ c.env, newCs c.top s.nxt c.its q.1 ++ c.chs, c.top + 1⟩ := by unfold Cut.at; rw [hC.nxt]
  obtain ⟨v1, v2⟩ := newEs_ver (rs := c.its) (id := s.nxt) (d := q.1)
  refine ⟨θ', ?_, by
    rw [hat]
    refine ⟨show s.nxt ≤ c.top + 1 by rw [htop]; omega, hθ0, fun e he hv0 => ?_, hnew⟩
    rcases List.mem_append.1 he with he | he
    · have := v1 e he; omega
    · exact hC.env e he⟩
  rw [hat]
  refine ⟨S2.le, S2.agr.pick _ fun p hp => ?_, ?_, fun e he => ?_, fun e he => ?_, List.pairwise_append.2 ⟨v2, hC.nd, fun x hx y hy hxy => ?_⟩, fun e he => ?_⟩
  · obtain ⟨e, he, rfl⟩ := List.mem_map.1 hp
    rcases List.mem_append.1 he with he | he
    · obtain ⟨-, x, h1, h2⟩ := e1 e he
      show (envL θ s1).lookup e.1 = some (e.2.2.v θ')
      rw [h2]; exact look_envL h1
    · have hok := hC.fine.env e (hC.env e he)
      show (envL θ s1).lookup e.1 = some (e.2.2.v θ')
      rw [AV.v_same hθ0 hok, ← AV.v_same hsame hok]; exact look_envL (hlook e he)
  · have hch : c.chs.map (toCh P θ') = c.chs.map (toCh P θ) := List.map_congr_left fun e he => by
      have hok := hC.fine.chs e (hC.chs e he)
      rw [toCh_same hθ0 hok, toCh_same hsame hok]
    show St J w0 w ((newCs c.top s.nxt c.its q.1 ++ c.chs).map (toCh P θ') ++ [F])
    rw [List.map_append, hch]
    have h1 := e3.perm (List.Perm.append_left _ ((hperm.map (toCh P θ)).append_right [F]))
    rw [List.map_append] at h1
    refine St.left (ds := rest2.map (toCh P θ)) (h1.perm ?_)
    rw [List.append_assoc, List.append_assoc, List.append_assoc]
    exact (List.Perm.append_left _ (List.Perm.append_left _ List.perm_append_comm))
  · rcases List.mem_append.1 he with he | he
    · exact (e1 e he).1 _
    · exact AV.ok_same hθ0 (show s.nxt ≤ c.top + 1 by rw [htop]; omega) hnew (hC.fine.env e (hC.env e he)) hJ
  · rcases List.mem_append.1 he with he | he
    · have := v1 e he
      show e.2.1 < c.top + 1
      rw [htop]; omega
    · have := hC.fine.ver e (hC.env e he)
      show e.2.1 < c.top + 1
      rw [htop]; omega
  · have := v1 x hx
    have := hC.fine.ver y (hC.env y hy)
    omega
  · rcases List.mem_append.1 he with he | he
    · exact e2 _ e he
    · exact okE_same hθ0 (show s.nxt ≤ c.top + 1 by rw [htop]; omega) hnew (hC.fine.chs e (hC.chs e he)) hJ
end
end Go.Proofs.YtimjccbdngajoaaGreat.R
/- A region that draws its order: what is closed (numbers) apart from what is said. No program text is named here. -/
set_option linter.unusedVariables false
set_option linter.unusedSimpArgs false
set_option linter.unnecessarySimpa false
namespace Go.Proofs.YtimjccbdngajoaaGreat.R
open Go.RowKit
open Go.Proofs.YtimjccbdngajoaaGreat.D

def isIn (t : Nat) : List Nat → Bool
  | [] => false
  | u :: l => Nat.beq u t || isIn t l
theorem isIn_ok {t : Nat} : ∀ {l : List Nat}, isIn t l = true ↔ t ∈ l
  | [] => by simp [isIn]
  | u :: l => by
    unfold isIn
    rw [Bool.or_eq_true, isIn_ok (l := l), List.mem_cons]
    constructor
    · rintro (h | h)
      · exact .inl (Nat.eq_of_beq_eq_true h).symm
      · exact .inr h
    · rintro (h | h)
      · exact .inl (by rw [h]; exact Nat.beq_refl u)
      · exact .inr h
theorem isIn_no {t : Nat} {l : List Nat} : isIn t l = false ↔ t ∉ l := by
  rw [← isIn_ok (l := l)]; simp
def nodupN : List Nat → Bool
  | [] => true
  | u :: l => !isIn u l && nodupN l
theorem nodupN_ok : ∀ {l : List Nat}, nodupN l = true → l.Nodup
  | [], _ => List.nodup_nil
  | u :: l, h => by
    unfold nodupN at h
    rw [Bool.and_eq_true, Bool.not_eq_true', isIn_no] at h
    exact List.nodup_cons.2 ⟨h.1, nodupN_ok h.2⟩
structure OpK where
  reads : List Nat
  needs : List Nat
  gives : List Nat
  src : List (Nat × Option Nat)
/-- what is closed of a drawn region: of each operation; how many chunks there are, those at the start; what comes before what -/
structure Skel where
  ops : List OpK
  nres : Nat
  base : List Nat
  pre : List (List Nat)
  fin : List (Nat × Option Nat)
  left : List Nat
/-- what is said: of each operation's value, of each chunk -/
structure Sm where
  fact : Nat → (Nat → Value) → Prop
  chunk : Nat → (Nat → Value) → Ch
namespace Skel
def op (p : Skel) (i : Nat) : OpK := p.ops.getD i ⟨[], [], [], []⟩
def before (p : Skel) (i : Nat) : List Nat := p.pre.getD i []
def srcOf (t : Nat) : List (Nat × Option Nat) → Option (Option Nat)
  | [] => none
  | (u, x) :: l => if Nat.beq u t then some x else srcOf t l
def ev (p : Skel) (L : List (Nat × Value)) (i : Nat) (vs : Nat → Value) : Operand → Value
  | .tmp t => match srcOf t (p.op i).src with
    | some (some j) => vs j
    | _ => (L.lookup t).getD undef
  | x => evL L x
end Skel
/-- the words hang on no more than what came before -/
structure Loc (p : Skel) (q : Sm) (m : Nat) : Prop where
  fact : ∀ i, i < m → ∀ vs vs', (∀ j, j = i ∨ j ∈ p.before i → vs' j = vs j) → q.fact i vs → q.fact i vs'
  chB : ∀ x, x ∈ p.base → ∀ vs vs', q.chunk x vs' = q.chunk x vs
  chG : ∀ i, i < m → ∀ x, x ∈ (p.op i).gives → ∀ vs vs', (∀ j, j = i ∨ j ∈ p.before i → vs' j = vs j) → q.chunk x vs' = q.chunk x vs
/-- what is to be shown of operation i -/
def Skel.goal (p : Skel) (q : Sm) (P : Program) (I : Hp) (w0 : World) (L : List (Nat × Value)) (i : Nat) (o : Oper) : Prop :=
  ∀ vs, (∀ j, j ∈ p.before i → q.fact j vs) →
    match wants o vs with
    | some true => OpT P I w0 o (p.ev L i vs) (((p.op i).reads ++ (p.op i).needs).map (q.chunk · vs)) (fun v => q.fact i (upd vs i v)) (fun v => ((p.op i).reads ++ (p.op i).gives).map (q.chunk · (upd vs i v)))
    | some false => q.fact i (upd vs i undef) ∧ (p.op i).needs = [] ∧ (p.op i).gives = []
    | none => False
def isDst (ops : List Oper) (j t : Nat) : Bool := match ops[j]? with
  | some o => match o.dst with
    | some u => Nat.beq u t
    | none => false
  | none => false
theorem isDst_ok {ops : List Oper} {j t : Nat} : isDst ops j t = true ↔ (ops.toArray[j]?).bind (·.dst) = some t := by
  unfold isDst
  rw [List.getElem?_toArray]
  cases ops[j]? with
  | none => simp
  | some o =>
    simp only [Option.bind_some]
    cases o.dst with
    | none => simp
    | some u => simp
def anyN (l : List Nat) (f : Nat → Bool) : Bool := match l with
  | [] => false
  | x :: l => f x || anyN l f
def allN (l : List Nat) (f : Nat → Bool) : Bool := match l with
  | [] => true
  | x :: l => f x && allN l f
theorem anyN_ok {f : Nat → Bool} : ∀ {l : List Nat}, anyN l f = true ↔ ∃ x, x ∈ l ∧ f x = true
  | [] => by simp [anyN]
  | x :: l => by unfold anyN; rw [Bool.or_eq_true, anyN_ok (l := l)]; simp
theorem allN_ok {f : Nat → Bool} : ∀ {l : List Nat}, allN l f = true ↔ ∀ x, x ∈ l → f x = true
  | [] => by simp [allN]
  | x :: l => by unfold allN; rw [Bool.and_eq_true, allN_ok (l := l)]; simp
def allO (l : List Oper) (k : Nat) (f : Nat → Oper → Bool) : Bool := match l with
  | [] => true
  | o :: l => f k o && allO l (k + 1) f
theorem allO_ok {f : Nat → Oper → Bool} : ∀ {l : List Oper} {k : Nat}, allO l k f = true → ∀ i o, l[i]? = some o → f (k + i) o = true
  | [], _, _, i, o, h => by simp at h
  | x :: l, k, h, i, o, hi => by
    unfold allO at h
    rw [Bool.and_eq_true] at h
    cases i with
    | zero => simp at hi; subst hi; exact h.1
    | succ i =>
      have := allO_ok h.2 i o (by simpa using hi)
      rwa [show k + 1 + i = k + (i + 1) from by omega] at this
/-- the look over a skeleton: kn t: is the slot t known at the start -/
def Skel.okOp (p : Skel) (n : Nat) (kn : Nat → Bool) (ops : List Oper) (all : List Nat) (i : Nat) (o : Oper) (b : List Nat) (r : OpK) : Bool :=
  noSelect o && (dstOk n o.dst && (allN (edgesOf o) (fun j => Nat.blt j i) &&
  -- what comes before
  (allN b (fun j => Nat.blt j i && (isIn j (edgesOf o) || anyN (edgesOf o) fun k => isIn j (p.before k))) &&
  -- the slots
  (allN (slotsOf ops.toArray o) (fun t => match srcOf t r.src with
    | none => false
    | some none => kn t && allN all fun j => !isDst ops j t || (Nat.beq j i || isIn i (p.before j))
    | some (some j) => isDst ops j t && (isIn j b && allN all fun k => !isDst ops k t || (Nat.beq k j || (Nat.beq k i || (isIn k (p.before j) || isIn i (p.before k)))))) &&
  ((match o.guard with
    | none => true
    | some (g, _) => match ops[g]? with
      | none => false
      | some og => match og.dst with
        | none => false
        | some t => match srcOf t r.src with
          | some (some j) => Nat.beq j g
          | _ => false) &&
  -- the chunks
  (allN (r.reads ++ r.needs) (fun x => Nat.blt x p.nres && (isIn x p.base || anyN b fun j => isIn x (p.op j).gives)) &&
  (allN r.reads (fun x => allN all fun k => Nat.beq k i || (!isIn x (p.op k).needs || isIn i (p.before k))) &&
  (allN r.needs (fun x => allN all fun k => Nat.beq k i || !isIn x (p.op k).needs) &&
  (allN r.gives (fun x => Nat.blt x p.nres && (!isIn x p.base && (!isIn x (r.reads ++ r.needs) && allN all (fun k => Nat.beq k i || !isIn x (p.op k).gives)))) &&
  (nodupN (r.reads ++ r.needs) && nodupN (r.reads ++ r.gives)))))))))))

def Skel.ok (p : Skel) (n : Nat) (kn : Nat → Bool) (ops : List Oper) : Bool :=
  allO ops 0 fun i o => p.okOp n kn ops (List.range ops.length) i o (p.before i) (p.op i)
def Skel.okB (p : Skel) (kn : Nat → Bool) (ops : List Oper) : Bool :=
  let all := List.range ops.length
  nodupN p.base && (nodupN p.left && (allN p.left (fun x => (isIn x p.base || anyN all fun j => isIn x (p.op j).gives) && allN all fun j => !isIn x (p.op j).needs) &&
  (allN (p.base ++ all.flatMap fun j => (p.op j).gives) (fun x => isIn x p.left || anyN all fun j => isIn x (p.op j).needs) &&
  p.fin.all fun (t, s) => match s with
    | none => kn t && allN all fun j => !isDst ops j t
    | some j => Nat.blt j ops.length && (isDst ops j t && allN all fun k => !isDst ops k t || (Nat.beq k j || isIn k (p.before j))))))
/-- the slots behind the region -/
def Skel.out (p : Skel) (L : List (Nat × Value)) (vs : Nat → Value) : List (Nat × Value) :=
  p.fin.map fun (t, s) => (t, match s with | some j => vs j | none => (L.lookup t).getD undef)

/-- what holds when the operations S have been carried out -/
structure Inv (p : Skel) (q : Sm) (C : List Ch) (I : Hp) (w0 : World) (n : Nat) (L : List (Nat × Value)) (ops : Array Oper) (S : Nat → Bool) (vs : Nat → Value) (a : Act) (w : World) : Prop where
  closed : ∀ i, S i = true → ∀ j, j ∈ p.before i → S j = true
  lt : ∀ i, S i = true → i < ops.size
  defers : a.defers = []
  size : a.tmps.size = n
  old : ∀ t v, L.lookup t = some v → (∀ j, S j = true → (ops[j]?).bind (·.dst) ≠ some t) → a.tmps.getD t undef = v
  new : ∀ j t, S j = true → (ops[j]?).bind (·.dst) = some t → (∀ k, S k = true → (ops[k]?).bind (·.dst) = some t → k = j ∨ k ∈ p.before j) → a.tmps.getD t undef = vs j
  facts : ∀ i, S i = true → q.fact i vs
  st : ∃ l : List Nat, l.Nodup ∧ (∀ x, x ∈ l ↔ (x ∈ p.base ∨ ∃ j, S j = true ∧ x ∈ (p.op j).gives) ∧ ¬ ∃ j, S j = true ∧ x ∈ (p.op j).needs) ∧ St I w0 w (l.map (q.chunk · vs) ++ C)

/-- the look, as said -/
structure Skel.Good (p : Skel) (n : Nat) (L : List (Nat × Value)) (ops : Array Oper) (i : Nat) (o : Oper) : Prop where
  sel : noSelect o = true
  dst : dstOk n o.dst = true
  edges : ∀ j, j ∈ edgesOf o → j < i
  bef : ∀ j, j ∈ p.before i → j < i ∧ (j ∈ edgesOf o ∨ ∃ k, k ∈ edgesOf o ∧ j ∈ p.before k)
  slots : ∀ t, t ∈ slotsOf ops o → (Skel.srcOf t (p.op i).src = some none ∧ (L.lookup t).isSome = true ∧ ∀ j, j < ops.size → (ops[j]?).bind (·.dst) = some t → j = i ∨ i ∈ p.before j) ∨
    ∃ j, Skel.srcOf t (p.op i).src = some (some j) ∧ (ops[j]?).bind (·.dst) = some t ∧ j ∈ p.before i ∧ ∀ k, k < ops.size → (ops[k]?).bind (·.dst) = some t → k = j ∨ k = i ∨ k ∈ p.before j ∨ i ∈ p.before k
  guard : ∀ g want, o.guard = some (g, want) → ∃ t, (ops[g]?).bind (·.dst) = some t ∧ Skel.srcOf t (p.op i).src = some (some g)
  have_ : ∀ x, x ∈ (p.op i).reads ++ (p.op i).needs → x < p.nres ∧ (x ∈ p.base ∨ ∃ j, j ∈ p.before i ∧ x ∈ (p.op j).gives)
  keep : ∀ x, x ∈ (p.op i).reads → ∀ k, k < ops.size → x ∈ (p.op k).needs → k = i ∨ i ∈ p.before k
  once : ∀ x, x ∈ (p.op i).needs → ∀ k, k < ops.size → x ∈ (p.op k).needs → k = i
  give : ∀ x, x ∈ (p.op i).gives → x < p.nres ∧ x ∉ p.base ∧ x ∉ (p.op i).reads ++ (p.op i).needs ∧ ∀ k, k < ops.size → x ∈ (p.op k).gives → k = i
  nd1 : ((p.op i).reads ++ (p.op i).needs).Nodup
  nd2 : ((p.op i).reads ++ (p.op i).gives).Nodup

theorem nbeq {a b : Nat} : Nat.beq a b = true ↔ a = b := ⟨Nat.eq_of_beq_eq_true, fun h => by rw [h]; exact Nat.beq_refl b⟩
theorem nblt {a b : Nat} : Nat.blt a b = true ↔ a < b := by rw [Nat.blt_eq]
theorem orN {a b : Bool} {p : Prop} (h : (a || b) = true) (k : a = true → p) (k' : b = true → p) : p := by
  rw [Bool.or_eq_true] at h; exact h.elim k k'
theorem Skel.good_of_ok {p : Skel} {n : Nat} {kn : Nat → Bool} {L : List (Nat × Value)} {ops : List Oper} (hkn : ∀ t, kn t = true → (L.lookup t).isSome = true) (h : p.ok n kn ops = true) {i : Nat} {o : Oper} (hi : ops[i]? = some o) : p.Good n L ops.toArray i o := by
  have him : i < ops.length := (List.getElem?_eq_some_iff.1 hi).1
  have h := allO_ok h i o hi
  rw [Nat.zero_add] at h
  unfold Skel.okOp at h
  simp only [Bool.and_eq_true, allN_ok, anyN_ok, isIn_ok, nblt, nbeq, Bool.or_eq_true, Bool.not_eq_true', isIn_no] at h
  obtain ⟨h1, h2, h2', h3, h4, h5, h7, h8, h9, h10, h11, h12⟩ := h
  have hr : ∀ k, k < ops.toArray.size → k ∈ List.range ops.length := fun k hk => List.mem_range.2 (by simpa using hk)
  refine ⟨h1, h2, h2', fun j hj => ?_, fun t ht => ?_, fun g want hg => ?_, fun x hx => h7 x hx, fun x hx k hk hn => ?_, fun x hx k hk hn => ?_, fun x hx => ?_, nodupN_ok h11, nodupN_ok h12⟩
  · obtain ⟨e1, e2⟩ := h3 j hj
    exact ⟨e1, e2⟩
  · have := h4 t ht

    split at this
    · cases this
    · rename_i he
      simp only [Bool.and_eq_true, allN_ok, Bool.or_eq_true, Bool.not_eq_true', nbeq, isIn_ok] at this
      refine .inl ⟨he, hkn t this.1, fun j hj hd => ?_⟩
      rcases this.2 j (hr j hj) with e | e
      · rw [isDst_ok.2 hd] at e; cases e
      · exact e
    · rename_i j he
      simp only [Bool.and_eq_true, allN_ok, Bool.or_eq_true, Bool.not_eq_true', nbeq, isIn_ok] at this
      refine .inr ⟨j, he, isDst_ok.1 this.1, this.2.1, fun k hk hd => ?_⟩
      rcases this.2.2 k (hr k hk) with e | e
      · rw [isDst_ok.2 hd] at e; cases e
      · exact e
  · rw [hg] at h5
    simp only at h5
    split at h5
    · cases h5
    · rename_i og hog
      split at h5
      · cases h5
      · rename_i t ht
        split at h5
        · rename_i j hj
          refine ⟨t, by rw [List.getElem?_toArray, hog]; exact ht, ?_⟩
          rw [← Nat.eq_of_beq_eq_true h5]; exact hj
        · cases h5
  · rcases h8 x hx k (hr k hk) with e | e | e
    · exact .inl e
    · exact absurd hn e
    · exact .inr e
  · rcases h9 x hx k (hr k hk) with e | e
    · exact e
    · exact absurd hn e
  · obtain ⟨e1, e2, e3, e4⟩ := h10 x hx
    refine ⟨e1, e2, e3, fun k hk hn => ?_⟩
    rcases e4 k (hr k hk) with e | e
    · exact e
    · exact absurd hn e

section
variable {p : Skel} {q : Sm} {kn : Nat → Bool} {C : List Ch} {P : Program} {I : Hp} {w0 : World} {n : Nat} {L : List (Nat × Value)} {ops : List Oper} {S : Nat → Bool} {vs : Nat → Value} {a : Act} {w : World} {i : Nat} {o : Oper}
/-- one operation more -/
theorem Inv.step (hkn : ∀ t, kn t = true → (L.lookup t).isSome = true) (hl : Loc p q ops.length) (hok : p.ok n kn ops = true) (hg : p.goal q P I w0 L i o) (hi : ops[i]? = some o) (h : Inv p q C I w0 n L ops.toArray S vs a w) (hn : S i = false) (hpre : ∀ j, j ∈ p.before i → S j = true) {K : Act → World → Prop} {Q : Exit → Act → World → Prop}
    (hK : ∀ vs a w, Inv p q C I w0 n L ops.toArray (fun j => S j || j == i) vs a w → K a w) : wpOp P ops.toArray Q i K a w := by
  have G := Skel.good_of_ok hkn hok hi
  have him : i < ops.toArray.size := by have := (List.getElem?_eq_some_iff.1 hi).1; simpa using this
  -- what the slots hold
  have hcl : ∀ j, S j = true → i ∉ p.before j := fun j hj hb => by rw [h.closed j hj i hb] at hn; cases hn
  have slot : ∀ t, t ∈ slotsOf ops.toArray o → a.tmps.getD t undef = p.ev L i vs (.tmp t) := by
    intro t ht
    rcases G.slots t ht with ⟨e1, e2, e3⟩ | ⟨j, e1, e2, e3, e4⟩
    · obtain ⟨v, hv⟩ := Option.isSome_iff_exists.1 e2
      simp only [Skel.ev, e1, hv, Option.getD_some]
      refine h.old t v hv fun j hj hd => ?_
      rcases e3 j (h.lt j hj) hd with rfl | e
      · rw [hn] at hj; cases hj
      · exact hcl j hj e
    · simp only [Skel.ev, e1]
      refine h.new j t (hpre j e3) e2 fun k hk hd => ?_
      rcases e4 k (h.lt k hk) hd with e | e | e | e
      · exact .inl e
      · subst e; rw [hn] at hk; cases hk
      · exact .inr e
      · exact absurd e (hcl k hk)
  have hev : ∀ x, x ∈ o.op.operands → a.eval x = p.ev L i vs x := by
    intro x hx
    cases x with
    | tmp t =>
      refine slot t ?_
      unfold slotsOf Oper.looksAt
      refine List.mem_append_left _ (List.mem_filterMap.2 ⟨.tmp t, by simpa using hx, rfl⟩)
    | _ => rfl
  have hfacts : ∀ j, j ∈ p.before i → q.fact j vs := fun j hj => h.facts j (hpre j hj)
  have goal := hg vs hfacts
  -- the rest, once the value is there
  have main : ∀ v w', q.fact i (upd vs i v) → (∃ l : List Nat, l.Nodup ∧ (∀ x, x ∈ l ↔ (x ∈ p.base ∨ ∃ j, (S j || j == i) = true ∧ x ∈ (p.op j).gives) ∧ ¬ ∃ j, (S j || j == i) = true ∧ x ∈ (p.op j).needs) ∧ St I w0 w' (l.map (q.chunk · (upd vs i v)) ++ C)) → K (a.put o.dst v) w' := by
    intro v w' hf hst
    refine hK (upd vs i v) _ _ ⟨?_, ?_, ?_, ?_, ?_, ?_, ?_, hst⟩
    · intro j hj k hk
      simp only [Bool.or_eq_true, beq_iff_eq] at hj ⊢
      rcases hj with hj | rfl
      · exact .inl (h.closed j hj k hk)
      · exact .inl (hpre k hk)
    · intro j hj
      simp only [Bool.or_eq_true, beq_iff_eq] at hj
      rcases hj with hj | rfl
      · exact h.lt j hj
      · exact him
    · cases hd : o.dst <;> simp [Act.put, h.defers]
    · cases hd : o.dst <;> simp [Act.put, h.size]
    · intro t u hu hj
      have hne : o.dst ≠ some t := by
        have := hj i (by simp)
        rwa [show (ops.toArray[i]?) = some o from by simpa using hi] at this
      have h0 := h.old t u hu fun j hS => hj j (by simp [hS])
      cases hd : o.dst with
      | none => exact h0
      | some d =>
        show (a.tmps.setIfInBounds d v).getD t undef = u
        rw [D.getD_set_ne (fun e => hne (by rw [hd, e]))]; exact h0
    · intro j t hj hd hk
      simp only [Bool.or_eq_true, beq_iff_eq] at hj
      by_cases hdt : o.dst = some t
      · have hji : j = i := by
          rcases hj with hj | rfl
          · rcases hk i (by simp) (by rw [show (ops.toArray[i]?) = some o from by simpa using hi]; exact hdt) with e | e
            · exact e.symm
            · exact absurd e (hcl j hj)
          · rfl
        subst hji
        have hlt := G.dst
        rw [hdt] at hlt
        have hlt : t < n := by simpa [dstOk] using hlt
        rw [hdt, upd_self]
        exact D.getD_set_self (by rw [h.size]; exact hlt)
      · have hji : j ≠ i := by
          rintro rfl
          rw [show (ops.toArray[j]?) = some o from by simpa using hi] at hd
          exact hdt hd
        have hjS : S j = true := by rcases hj with hj | e; exact hj; exact absurd e hji
        rw [upd_ne hji]
        have h0 := h.new j t hjS hd fun k hk' => hk k (by simp [hk'])
        cases hd : o.dst with
        | none => exact h0
        | some d =>
          show (a.tmps.setIfInBounds d v).getD t undef = _
          rw [D.getD_set_ne (fun e => hdt (by rw [hd, e]))]; exact h0
    · intro j hj
      simp only [Bool.or_eq_true, beq_iff_eq] at hj
      by_cases e : j = i
      · subst e; exact hf
      · have hjS : S j = true := by rcases hj with hj | e'; exact hj; exact absurd e' e
        refine hl.fact j (by simpa using h.lt j hjS) vs _ (fun k hk => upd_ne fun e' => ?_) (h.facts j hjS)
        subst e'
        rcases hk with e' | e'
        · exact e e'.symm
        · exact hcl j hjS e'
  obtain ⟨l, l1, l2, l3⟩ := h.st
  -- the chunks that are there do not hang on the new value
  have hstay : ∀ v x, x ∈ l → q.chunk x (upd vs i v) = q.chunk x vs := by
    intro v x hx
    rcases ((l2 x).1 hx).1 with hb | ⟨j, hj, hxj⟩
    · exact hl.chB x hb vs _
    · refine hl.chG j (by simpa using h.lt j hj) x hxj vs _ fun k hk => upd_ne fun e' => ?_
      subst e'
      rcases hk with e' | e'
      · subst e'; rw [hn] at hj; cases hj
      · exact hcl j hj e'
  unfold wpOp
  rw [show (ops.toArray[i]?) = some o from by simpa using hi]
  simp only
  -- what the guard says
  have hwant : Region.wanted o (yielded ops.toArray a.tmps) = true ↔ wants o vs = some true := by
    unfold Region.wanted wants
    cases hgd : o.guard with
    | none => simp
    | some q =>
      obtain ⟨g, want⟩ := q
      obtain ⟨t, e1, e2⟩ := G.guard g want hgd
      have ht : t ∈ slotsOf ops.toArray o := by
        unfold slotsOf Oper.looksAt
        refine List.mem_append_right _ ?_
        rw [hgd]
        simp only
        rw [e1]; simp
      have hv := slot t ht
      simp only [Skel.ev, e2] at hv
      have hy : yielded ops.toArray a.tmps g = match vs g with | .bool b => some b | _ => none := by
        unfold yielded
        rw [e1]
        simp only [Option.bind_some]
        rw [Array.getD_eq_getD_getElem?] at hv
        cases ht : a.tmps[t]? with
        | none =>
          rw [ht] at hv
          rw [← hv]; rfl
        | some u =>
          rw [ht] at hv
          simp only [Option.getD_some] at hv
          rw [hv]
          cases vs g <;> rfl
      simp only [hy]
      cases hvg : vs g <;> simp
  cases hw : wants o vs with
  | none => rw [hw] at goal; exact goal.elim
  | some b =>
    cases b with
    | false =>
      rw [hw] at goal
      simp only at goal
      rw [if_neg (by rw [hwant, hw]; simp)]
      refine main undef w goal.1 ⟨l, l1, fun x => ?_, ?_⟩
      · rw [l2]
        obtain ⟨-, g2, g3⟩ := goal
        constructor
        · rintro ⟨h1, h2⟩
          refine ⟨h1.imp id fun ⟨j, hj, hx⟩ => ⟨j, by simp [hj], hx⟩, fun ⟨j, hj, hx⟩ => ?_⟩
          simp only [Bool.or_eq_true, beq_iff_eq] at hj
          rcases hj with hj | rfl
          · exact h2 ⟨j, hj, hx⟩
          · rw [g2] at hx; cases hx
        · rintro ⟨h1, h2⟩
          refine ⟨?_, fun ⟨j, hj, hx⟩ => h2 ⟨j, by simp [hj], hx⟩⟩
          rcases h1 with h1 | ⟨j, hj, hx⟩
          · exact .inl h1
          · simp only [Bool.or_eq_true, beq_iff_eq] at hj
            rcases hj with hj | rfl
            · exact .inr ⟨j, hj, hx⟩
            · rw [g3] at hx; cases hx
      · rw [List.map_congr_left fun x hx => hstay undef x hx]; exact l3
    | true =>
      rw [hw] at goal
      simp only at goal
      rw [if_pos (by rw [hwant, hw])]
      refine .inl ?_
      -- what the operation takes is there
      have hin : ∀ x, x ∈ (p.op i).reads ++ (p.op i).needs → x ∈ l := by
        intro x hx
        rw [l2]
        refine ⟨(G.have_ x hx).2.imp id fun ⟨j, hj, e⟩ => ⟨j, hpre j hj, e⟩, fun ⟨k, hk, e⟩ => ?_⟩
        rcases List.mem_append.1 hx with hx | hx
        · rcases G.keep x hx k (h.lt k hk) e with rfl | e'
          · rw [hn] at hk; cases hk
          · exact hcl k hk e'
        · have := G.once x hx k (h.lt k hk) e
          subst this; rw [hn] at hk; cases hk
      let r := l.filter fun x => !((p.op i).reads ++ (p.op i).needs).contains x
      have hr : ∀ x, x ∈ r ↔ x ∈ l ∧ x ∉ (p.op i).reads ++ (p.op i).needs := by
        intro x
        simp [r, List.mem_filter]
      have hrn : r.Nodup := l1.filter _
      have hperm : l.Perm (((p.op i).reads ++ (p.op i).needs) ++ r) := by
        refine (List.perm_ext_iff_of_nodup l1 (List.nodup_append.2 ⟨G.nd1, hrn, fun x hx y hy e => ?_⟩)).2 fun x => ?_
        · subst e; exact ((hr x).1 hy).2 hx
        · rw [List.mem_append, hr]
          constructor
          · intro hx
            by_cases e : x ∈ (p.op i).reads ++ (p.op i).needs
            · exact .inl e
            · exact .inr ⟨hx, e⟩
          · rintro (e | e)
            · exact hin x e
            · exact e.1
      have hs := l3.perm ((hperm.map (q.chunk · vs)).append_right C)
      rw [List.map_append, List.append_assoc] at hs
      have hsame : execOp a.eval o = execOp (p.ev L i vs) o := execOp_same G.sel hev
      have hu := goal w _ hs
      rw [← hsame] at hu
      refine hu.wp fun v w' hv => main v w' hv.1 ⟨((p.op i).reads ++ (p.op i).gives) ++ r, ?_, fun x => ?_, ?_⟩
      · refine List.nodup_append.2 ⟨G.nd2, hrn, fun x hx y hy e => ?_⟩
        subst e
        rcases List.mem_append.1 hx with hx | hx
        · exact ((hr x).1 hy).2 (List.mem_append_left _ hx)
        · obtain ⟨-, g1, g2, g3⟩ := G.give x hx
          rcases ((l2 x).1 ((hr x).1 hy).1).1 with e | ⟨j, hj, e⟩
          · exact g1 e
          · have := g3 j (h.lt j hj) e
            subst this; rw [hn] at hj; cases hj
      · have hgx : x ∈ (p.op i).gives → x ∉ p.base ∧ (∀ k, S k = true → x ∉ (p.op k).needs) ∧ x ∉ (p.op i).needs := by
          intro hx
          obtain ⟨-, g1, g2, g3⟩ := G.give x hx
          refine ⟨g1, fun k hk e => ?_, fun e => g2 (List.mem_append_right _ e)⟩
          have hkm : k < ops.length := by simpa using h.lt k hk
          rcases ((Skel.good_of_ok (L := L) hkn hok (List.getElem?_eq_getElem hkm)).have_ x (List.mem_append_right _ e)).2 with e' | ⟨j, hj, e'⟩
          · exact g1 e'
          · have := g3 j (h.lt j (h.closed k hk j hj)) e'
            subst this
            exact hcl k hk hj
        rw [List.mem_append, hr]
        constructor
        · rintro (hx | ⟨hx, hx2⟩)
          · rcases List.mem_append.1 hx with hx | hx
            · obtain ⟨e1, e2⟩ := (l2 x).1 (hin x (List.mem_append_left _ hx))
              refine ⟨e1.imp id fun ⟨j, hj, e⟩ => ⟨j, by simp [hj], e⟩, fun ⟨j, hj, e⟩ => ?_⟩
              simp only [Bool.or_eq_true, beq_iff_eq] at hj
              rcases hj with hj | rfl
              · exact e2 ⟨j, hj, e⟩
              · exact (List.nodup_append.1 G.nd1).2.2 x hx x e rfl
            · obtain ⟨g1, g2, g3⟩ := hgx hx
              refine ⟨.inr ⟨i, by simp, hx⟩, fun ⟨j, hj, e⟩ => ?_⟩
              simp only [Bool.or_eq_true, beq_iff_eq] at hj
              rcases hj with hj | rfl
              · exact g2 j hj e
              · exact g3 e
          · obtain ⟨e1, e2⟩ := (l2 x).1 hx
            refine ⟨e1.imp id fun ⟨j, hj, e⟩ => ⟨j, by simp [hj], e⟩, fun ⟨j, hj, e⟩ => ?_⟩
            simp only [Bool.or_eq_true, beq_iff_eq] at hj
            rcases hj with hj | rfl
            · exact e2 ⟨j, hj, e⟩
            · exact hx2 (List.mem_append_right _ e)
        · rintro ⟨e1, e2⟩
          have e2' : ¬ ∃ j, S j = true ∧ x ∈ (p.op j).needs := fun ⟨j, hj, e⟩ => e2 ⟨j, by simp [hj], e⟩
          have e2i : x ∉ (p.op i).needs := fun e => e2 ⟨i, by simp, e⟩
          by_cases hxg : x ∈ (p.op i).gives
          · exact .inl (List.mem_append_right _ hxg)
          · have hxl : x ∈ l := by
              rw [l2]
              refine ⟨e1.imp id fun ⟨j, hj, e⟩ => ?_, e2'⟩
              simp only [Bool.or_eq_true, beq_iff_eq] at hj
              rcases hj with hj | rfl
              · exact ⟨j, hj, e⟩
              · exact absurd e hxg
            by_cases e : x ∈ (p.op i).reads ++ (p.op i).needs
            · rcases List.mem_append.1 e with e | e
              · exact .inl (List.mem_append_left _ e)
              · exact absurd e e2i
            · exact .inr ⟨hxl, e⟩
      · rw [List.map_append, List.append_assoc]
        have : r.map (q.chunk · (upd vs i v)) = r.map (q.chunk · vs) := List.map_congr_left fun x hx => hstay v x ((hr x).1 hx).1
        rw [this]
        exact hv.2

theorem tok_any (hkn : ∀ t, kn t = true → (L.lookup t).isSome = true) (hl : Loc p q ops.length) (hok : p.ok n kn ops = true) (hg : ∀ i o, ops[i]? = some o → p.goal q P I w0 L i o) {Q : Exit → Act → World → Prop}
    (hQ : ∀ vs a w, Inv p q C I w0 n L ops.toArray (fun j => decide (j < ops.length)) vs a w → Q .normal a w) : ∀ (fuel : Nat) (listed : Array Bool) (vs : Nat → Value) (a : Act) (w : World), listed.size = ops.length → D.leftOf ops.length listed ≤ fuel →
      Inv p q C I w0 n L ops.toArray (fun j => listed.getD j false) vs a w → wpAny P .any ops.toArray Q fuel listed a w := by
  have done : ∀ (listed : Array Bool) (vs : Nat → Value) (a : Act) (w : World), (∀ i, i < ops.length → listed.getD i false = true) → Inv p q C I w0 n L ops.toArray (fun j => listed.getD j false) vs a w → Q .normal a w := by
    intro listed vs a w hall h
    refine hQ vs a w ?_
    have e : (fun j => listed.getD j false) = fun j => decide (j < ops.length) := by
      funext j
      by_cases hj : j < ops.length
      · rw [hall j hj]; simp [hj]
      · cases hl : listed.getD j false with
        | false => simp [hj]
        | true => exact absurd (by simpa using h.lt j hl) hj
    rw [← e]; exact h
  have nil : ∀ (listed : Array Bool) (vs : Nat → Value) (a : Act) (w : World), listed.size = ops.length → Inv p q C I w0 n L ops.toArray (fun j => listed.getD j false) vs a w → Region.ready .any ops.toArray listed = [] → Q .normal a w := by
    intro listed vs a w hsz h hr
    refine done listed vs a w (fun i => ?_) h
    induction i using Nat.strongRecOn with
    | _ i ih =>
      intro hi
      cases hl : listed.getD i false with
      | true => rfl
      | false =>
        have : i ∈ Region.ready .any ops.toArray listed := by
          refine D.mem_ready.2 ⟨by simpa using hi, ?_, fun o ho j hj => ?_⟩
          · rw [Array.getD_eq_getD_getElem?, Array.getElem?_eq_getElem (by omega)] at hl ⊢
            simpa using hl
          · have hj' := (Skel.good_of_ok (L := L) hkn hok (show ops[i]? = some o by simpa using ho)).edges j hj
            exact ih j hj' (by omega)
        rw [hr] at this; cases this
  intro fuel
  induction fuel with
  | zero =>
    intro listed vs a w hsz hf h
    have hall : ∀ i, i < ops.length → listed.getD i false = true := by
      intro i hi
      cases hl : listed.getD i false with
      | true => rfl
      | false =>
        have hz : (List.range ops.length).filter (fun i => !listed.getD i false) = [] := List.eq_nil_of_length_eq_zero (Nat.le_zero.1 hf)
        have : i ∈ (List.range ops.length).filter (fun i => !listed.getD i false) := List.mem_filter.2 ⟨List.mem_range.2 hi, by simp [hl]⟩
        rw [hz] at this; cases this
    refine ⟨?_, done listed vs a w hall h⟩
    cases hr : Region.ready .any ops.toArray listed with
    | nil => rfl
    | cons i l =>
      have : i ∈ Region.ready .any ops.toArray listed := by rw [hr]; simp
      obtain ⟨h1, h2, -⟩ := D.mem_ready.1 this
      have h1' : i < ops.length := by simpa using h1
      have h3 := hall i h1'
      rw [Array.getD_eq_getD_getElem?, Array.getElem?_eq_getElem (by omega)] at h2 h3
      simp at h2 h3
      rw [h2] at h3; cases h3
  | succ fuel ih =>
    intro listed vs a w hsz hf h
    refine ⟨nil listed vs a w hsz h, fun i hi => ?_⟩
    obtain ⟨h1, h2, h3⟩ := D.mem_ready.1 hi
    have h1' : i < ops.length := by simpa using h1
    have hio : ops[i]? = some ops[i] := List.getElem?_eq_getElem h1'
    have hn : listed.getD i false = false := by
      rw [Array.getD_eq_getD_getElem?, Array.getElem?_eq_getElem (by omega)] at h2 ⊢
      simpa using h2
    have hgi := hg i _ hio
    refine h.step hkn hl hok hgi hio hn (fun j hj => ?_) fun vs a w hI => ?_
    · rcases ((Skel.good_of_ok (L := L) hkn hok hio).bef j hj).2 with e | ⟨k, hk, e⟩
      · exact h3 _ (by simpa using hio) j e
      · exact h.closed k (h3 _ (by simpa using hio) k hk) j e
    · refine ih _ vs a w (by simpa using hsz) ?_ ?_
      · have hlt : D.leftOf ops.length (listed.setIfInBounds i true) < D.leftOf ops.length listed := by
          unfold D.leftOf
          have hsub : (List.range ops.length).filter (fun j => !(listed.setIfInBounds i true).getD j false) = ((List.range ops.length).filter (fun j => !listed.getD j false)).filter (fun j => j != i) := by
            rw [List.filter_filter]
            refine List.filter_congr fun j hj => ?_
            by_cases e : i = j
            · subst e
              rw [Array.getD_eq_getD_getElem?, Array.getElem?_setIfInBounds_self_of_lt (by omega)]; simp
            · rw [Array.getD_eq_getD_getElem?, Array.getElem?_setIfInBounds_ne e, ← Array.getD_eq_getD_getElem?]
              simp [show (j != i) = true from by simp; exact fun e' => e e'.symm]
          rw [hsub]
          refine List.length_filter_lt_length_iff_exists.2 ⟨i, List.mem_filter.2 ⟨List.mem_range.2 h1', by simp [hn]⟩, by simp⟩
        omega
      · have e : (fun j => (listed.setIfInBounds i true).getD j false) = fun j => (listed.getD j false || j == i) := by
          funext j
          by_cases e : i = j
          · subst e
            rw [Array.getD_eq_getD_getElem?, Array.getElem?_setIfInBounds_self_of_lt (by omega)]; simp
          · rw [Array.getD_eq_getD_getElem?, Array.getElem?_setIfInBounds_ne e, ← Array.getD_eq_getD_getElem?]
            simp [show (j == i) = false from by simp; exact fun e' => e e'.symm]
        rw [e]; exact hI
/-- A region that draws its order. -/
theorem wp_drawn {id : Nat} {C0 : List Ch} {Q : Exit → Act → World → Prop} (p : Skel) (q : Sm) (hkn : ∀ t, kn t = true → (L.lookup t).isSome = true) (hl : Loc p q ops.length) (hm : P.follows .mixedOrders = true) (ha : Agr n a L) (hs : St I w0 w C0) (hp : C0.Perm (p.base.map (q.chunk · fun _ => undef) ++ C))
    (hok : p.ok n kn ops = true) (hB : p.okB kn ops = true) (hg : ∀ i o, ops[i]? = some o → p.goal q P I w0 L i o)
    (k : ∀ vs a w, (∀ i, i < ops.length → q.fact i vs) → Agr n a (p.out L vs) → St I w0 w (p.left.map (q.chunk · vs) ++ C) → Q .normal a w) : (Code.region id ops.toArray true).wp P Q a w := by
  unfold Skel.okB at hB
  simp only [Bool.and_eq_true, allN_ok, anyN_ok, isIn_ok, Bool.or_eq_true, Bool.not_eq_true', isIn_no, List.all_eq_true] at hB
  obtain ⟨hb1', hb3', hb4, hb5, hb6⟩ := hB
  have hb1 := nodupN_ok hb1'
  have hb3 := nodupN_ok hb3'
  refine wp_region_any hm (tok_any (C := C) hkn hl hok hg (fun vs a w h => k vs a w (fun i hi => h.facts i (by simpa using hi)) ?_ ?_) _ _ (fun _ => undef) a _ (by simp) ?_ ?_)
  · refine ⟨h.defers, h.size, fun t v hv => ?_⟩
    have key : ∀ (M : List (Nat × Option Nat)), (∀ q ∈ M, q ∈ p.fin) → (M.map fun (t, s) => (t, match s with | some j => vs j | none => (L.lookup t).getD undef)).lookup t = some v → a.tmps.getD t undef = v := by
      intro M
      induction M with
      | nil => intro _ h; cases h
      | cons q M ih =>
        intro hM hv
        obtain ⟨t', s'⟩ := q
        rw [List.map_cons, List.lookup_cons] at hv
        by_cases e : t = t'
        · subst e
          simp only [BEq.rfl, Option.some.injEq] at hv
          have hf := hb6 (t, s') (hM _ (by simp))
          cases s' with
          | none =>
            simp only [Bool.and_eq_true, allN_ok, Bool.not_eq_true'] at hf hv
            obtain ⟨u, hu⟩ := Option.isSome_iff_exists.1 (hkn _ hf.1)
            rw [hu] at hv
            simp at hv; subst hv
            refine h.old t u hu fun j hj hd => ?_
            have hj : j < ops.length := by simpa using hj
            have := hf.2 j (List.mem_range.2 hj)
            rw [isDst_ok.2 hd] at this; cases this
          | some j =>
            simp only [Bool.and_eq_true, allN_ok, nblt, nbeq, Bool.or_eq_true, Bool.not_eq_true', isIn_ok] at hf hv
            rw [← hv]
            refine h.new j t (by simpa using hf.1) (isDst_ok.1 hf.2.1) fun k hk hd => ?_
            have hk : k < ops.length := by simpa using hk
            rcases hf.2.2 k (List.mem_range.2 hk) with e | e
            · rw [isDst_ok.2 hd] at e; cases e
            · exact e
        · have : (t == t') = false := by simpa using e
          rw [this] at hv
          exact ih (fun q hq => hM q (by simp [hq])) hv
    exact key _ (fun _ h => h) hv
  · obtain ⟨l, l1, l2, l3⟩ := h.st
    refine l3.perm (List.Perm.append_right C (List.Perm.map _ ((List.perm_ext_iff_of_nodup l1 hb3).2 fun x => ?_)))
    rw [l2]
    constructor
    · rintro ⟨h1, h2⟩
      have := hb5 x (by
        rcases h1 with h1 | ⟨j, hj, hx⟩
        · exact List.mem_append_left _ h1
        · exact List.mem_append_right _ (List.mem_flatMap.2 ⟨j, List.mem_range.2 (by simpa using hj), hx⟩))
      rcases this with h | ⟨j, hj, h⟩
      · exact h
      · exact absurd ⟨j, by simpa using List.mem_range.1 hj, h⟩ h2
    · intro hx
      have := hb4 x hx
      refine ⟨this.1.imp (fun h => h) fun ⟨j, hj, e⟩ => ⟨j, by simpa using List.mem_range.1 hj, e⟩, fun ⟨j, hj, e⟩ => ?_⟩
      exact this.2 j (List.mem_range.2 (by simpa using hj)) e
  · unfold D.leftOf
    refine Nat.le_trans (List.length_filter_le _ _) (by simp)
  · have hf : ∀ j, (Array.replicate ops.toArray.size false).getD j false = false := by
      intro j
      rw [Array.getD_eq_getD_getElem?, Array.getElem?_replicate]
      split <;> rfl
    refine ⟨fun i hi => ?_, fun i hi => ?_, ha.1, ha.2.1, fun t v hv _ => ha.2.2 t v hv, fun j t hj => ?_, fun i hi => ?_, p.base, hb1, fun x => ?_, ?_⟩
    · rw [hf] at hi; cases hi
    · rw [hf] at hi; cases hi
    · rw [hf] at hj; cases hj
    · rw [hf] at hi; cases hi
    · constructor
      · intro hx
        refine ⟨.inl hx, fun ⟨j, hj, _⟩ => ?_⟩
        rw [hf] at hj; cases hj
      · rintro ⟨h1 | ⟨j, hj, _⟩, _⟩
        · exact h1
        · rw [hf] at hj; cases hj
    · exact (hs.drawn (w' := { w with drawn := w.drawn + 1 }) rfl rfl rfl rfl).perm hp
end
end Go.Proofs.YtimjccbdngajoaaGreat.R
/- A drawn region, run on states: every order serves. No program text is named here. -/
set_option linter.unusedVariables false
set_option linter.unusedSimpArgs false
set_option linter.unnecessarySimpa false
set_option linter.unusedSectionVars false
namespace Go.Proofs.YtimjccbdngajoaaGreat.R
open Go.RowKit
open Go.Proofs.YtimjccbdngajoaaGreat.D

/-! ### What a word hangs on -/
def LV.ids : LV → List Nat
  | .val _ => []
  | .nb _ => []
  | .rd h _ _ => [h.id]
  | .own h => [h.id]
  | .ptr h _ => [h.id]
  | .fn h _ _ _ => [h.id]
  | .fz h _ _ _ _ => [h.id]
  | .fzf h _ _ _ _ => [h.id]
  | .rdn h _ _ _ => [h.id]
def idsL : List LV → List Nat
  | [] => []
  | x :: l => x.ids ++ idsL l
def idsT : List (Bool × List LV) → List Nat
  | [] => []
  | y :: l => idsL y.2 ++ idsT l
def AV.ids : AV → List Nat
  | .one x => x.ids
  | .agg xs => idsL xs
  | .tup ys => idsT ys
  | .elr h _ _ _ _ _ _ => [h.id]
  | .elo h _ _ _ _ _ _ _ => [h.id]
  | .sub h _ _ _ _ _ => [h.id]
  | .pre h _ _ _ _ _ => [h.id]
  | .any h => [h.id]
  | .und => []
def Chk.ids : Chk → List Nat
  | .own _ _ => []
  | .blk _ cs => idsL cs
  | .hole _ _ _ _ _ _ _ _ _ lv => lv.ids
  | .box _ _ _ => []
  | .map _ _ _ _ _ => []
  | .clo _ first capt => idsT first ++ idsL capt
def entIds (h : Hdr) (c : Chk) : List Nat := h.id :: c.ids
theorem idsL_mem {x : LV} {i : Nat} : ∀ {l : List LV}, x ∈ l → i ∈ x.ids → i ∈ idsL l
  | y :: l, h, hi => by
    rcases List.mem_cons.1 h with rfl | h
    · exact List.mem_append_left _ hi
    · exact List.mem_append_right _ (idsL_mem h hi)
theorem idsT_mem {y : Bool × List LV} {i : Nat} : ∀ {l : List (Bool × List LV)}, y ∈ l → i ∈ idsL y.2 → i ∈ idsT l
  | z :: l, h, hi => by
    rcases List.mem_cons.1 h with rfl | h
    · exact List.mem_append_left _ hi
    · exact List.mem_append_right _ (idsT_mem h hi)
section
variable {P : Program} {w0 : World} {J : Hp} {θ θ' : Th} {n m : Nat} {chs chs' : List Ent}
theorem hv_loc {h : Hdr} (k : θ' h.id = θ h.id) : hv θ' h = hv θ h := by unfold hv; rw [k]
theorem LV.v_loc {x : LV} (h : ∀ i ∈ x.ids, θ' i = θ i) : x.v θ' = x.v θ := by
  cases x with
  | val _ => rfl
  | nb _ => rfl
  | rd k t d => exact hv_loc (h _ (by simp [LV.ids]))
  | own k => exact hv_loc (h _ (by simp [LV.ids]))
  | ptr k off => show Value.pointer (some ⟨bk (hv θ' k), off, none⟩) = _; rw [hv_loc (h _ (by simp [LV.ids]))]; rfl
  | fn k ps rs e => exact hv_loc (h _ (by simp [LV.ids]))
  | fz k T t d off => show Value.pointer (some ⟨bk (hv θ' k), off, none⟩) = _; rw [hv_loc (h _ (by simp [LV.ids]))]; rfl
  | fzf k T ps rs e => show Value.pointer (some ⟨bk (hv θ' k), 0, none⟩) = _; rw [hv_loc (h _ (by simp [LV.ids]))]; rfl
  | rdn k b t d => exact hv_loc (h _ (by simp [LV.ids]))
theorem LV.ok_loc {x : LV} (h : ∀ i ∈ x.ids, θ' i = θ i) (k : x.ok P w0 J θ n) : x.ok P w0 J θ' n := by
  cases x with
  | val _ => exact k
  | nb _ => trivial
  | rd g t d => exact ⟨k.1, by rw [hv_loc (h _ (by simp [LV.ids]))]; exact k.2⟩
  | own g => exact ⟨k.1, by rw [hv_loc (h _ (by simp [LV.ids]))]; exact k.2⟩
  | ptr g off => exact k
  | fn g ps rs e => exact ⟨k.1, by rw [hv_loc (h _ (by simp [LV.ids]))]; exact k.2⟩
  | fz g T t d off => exact ⟨k.1, by rw [hv_loc (h _ (by simp [LV.ids]))]; exact k.2⟩
  | fzf g T ps rs e => exact ⟨k.1, by rw [hv_loc (h _ (by simp [LV.ids]))]; exact k.2⟩
  | rdn g b t d => exact ⟨k.1, by rw [hv_loc (h _ (by simp [LV.ids]))]; exact k.2⟩
theorem map_loc {xs : List LV} (h : ∀ i ∈ idsL xs, θ' i = θ i) : xs.map (·.v θ') = xs.map (·.v θ) := List.map_congr_left fun x hx => LV.v_loc fun i hi => h i (idsL_mem hx hi)
theorem partV_loc {y : Bool × List LV} (hy : ∀ i ∈ idsL y.2, θ' i = θ i) : partV θ' y = partV θ y := by
  unfold partV
  rw [map_loc hy]
  split
  · rfl
  · cases hl : y.2 with
    | nil => rfl
    | cons x l => exact LV.v_loc fun i hi => hy i (by rw [hl]; exact List.mem_append_left _ hi)
theorem AV.v_loc {x : AV} (h : ∀ i ∈ x.ids, θ' i = θ i) : x.v θ' = x.v θ := by
  cases x with
  | one x => exact LV.v_loc h
  | agg xs => show Value.agg _ = Value.agg _; rw [map_loc h]
  | tup ys =>
    show Value.tuple _ = Value.tuple _
    congr 2
    refine List.map_congr_left fun y hy => ?_
    exact partV_loc fun i hi => h i (idsT_mem hy hi)
  | elr k E t xs x i off => show pt (hv θ' k) _ = _; rw [hv_loc (h _ (by simp [AV.ids]))]; rfl
  | elo k ver E t xs x i off => show pt (hv θ' k) _ = _; rw [hv_loc (h _ (by simp [AV.ids]))]; rfl
  | sub k ver E t xs l => show subV (hv θ' k) _ _ _ = _; rw [hv_loc (h _ (by simp [AV.ids]))]; rfl
  | pre k ver E t xs l => show subV (hv θ' k) _ _ _ = _; rw [hv_loc (h _ (by simp [AV.ids]))]; rfl
  | any k => exact hv_loc (h _ (by simp [AV.ids]))
  | und => rfl
theorem AV.ok_loc {x : AV} (h : ∀ i ∈ x.ids, θ' i = θ i) (k : x.ok P w0 J θ n chs) : x.ok P w0 J θ' n chs := by
  cases x with
  | one x => exact LV.ok_loc h k
  | agg xs => exact fun x hx => LV.ok_loc (fun i hi => h i (idsL_mem hx hi)) (k x hx)
  | tup ys => exact fun y hy x hx => LV.ok_loc (fun i hi => h i (idsT_mem hy (idsL_mem hx hi))) (k y hy x hx)
  | elr g E t xs x i off => exact ⟨k.1, k.2.1, by rw [hv_loc (h _ (by simp [AV.ids]))]; exact k.2.2⟩
  | elo g ver E t xs x i off => exact k
  | sub g ver E t xs l => exact k
  | pre g ver E t xs l => exact k
  | any g => exact k
  | und => trivial
theorem toCh_loc {e : Ent} (h : ∀ i ∈ entIds e.1 e.2.2, θ' i = θ i) : toCh P θ' e = toCh P θ e := by
  obtain ⟨k, ver, c⟩ := e
  have hk : hv θ' k = hv θ k := hv_loc (h _ (by simp [entIds]))
  cases c with
  | own t d => show Ch.own _ [hv θ' k] d = _; rw [hk]; rfl
  | blk T cells => show Ch.blk (bk (hv θ' k)) (cells.map (·.v θ')) T = _; rw [hk, map_loc fun i hi => h i (List.mem_cons_of_mem _ hi)]; rfl
  | hole over t d u y f i kk off lv => show Ch.gap _ [hv θ' k] _ f (ptB (hv θ' k)) (ptO (hv θ' k) + (i.toNat * kk + off)) (lv.v θ') = _; rw [hk, LV.v_loc fun i hi => h i (List.mem_cons_of_mem _ hi)]; rfl
  | box T t d => show Ch.box (bk (hv θ' k)) T _ d = _; rw [hk]; rfl
  | map K E kk e m => show @Ch.mp P K E kk.den e.den kk.dec kk.lit kk.ok e.lit e.z (hv θ' k) m = _; rw [hk]; rfl
  | clo _ _ _ => rfl
theorem okE_loc {e : Ent} (h : ∀ i ∈ entIds e.1 e.2.2, θ' i = θ i) (k : okE P w0 J θ n chs e) : okE P w0 J θ' n chs e := by
  obtain ⟨g, ver, c⟩ := e
  cases c with
  | own t d => exact k
  | blk T cells => exact ⟨k.1, k.2.1, fun x hx => LV.ok_loc (fun i hi => h i (List.mem_cons_of_mem _ (idsL_mem hx hi))) (k.2.2 x hx)⟩
  | hole over t d u y f i kk off lv => exact ⟨k.1, k.2.1, LV.ok_loc (fun i hi => h i (List.mem_cons_of_mem _ hi)) k.2.2.1, k.2.2.2⟩
  | box T t d => exact k
  | map K E kk e m => exact k
  | clo f first capt =>
    obtain ⟨h1, h2, h3, h4, h5⟩ := k
    have hf : ∀ y ∈ first, ∀ i ∈ idsL y.2, θ' i = θ i := fun y hy i hi => h i (List.mem_cons_of_mem _ (List.mem_append_left _ (idsT_mem hy hi)))
    have hc : ∀ i ∈ idsL capt, θ' i = θ i := fun i hi => h i (List.mem_cons_of_mem _ (List.mem_append_right _ hi))
    refine ⟨h1, h2, fun y hy x hx => LV.ok_loc (fun i hi => hf y hy i (idsL_mem hx hi)) (h3 y hy x hx), fun x hx => LV.ok_loc (fun i hi => hc i (idsL_mem hx hi)) (h4 x hx), ?_⟩
    show hv θ' g = _
    rw [hv_loc (h _ (by simp [entIds])), map_loc hc, List.map_congr_left fun y hy => partV_loc (hf y hy)]
    exact h5
/-- which entries are recalled -/
def AV.elos : AV → List (Hdr × Nat)
  | .elo h ver _ _ _ _ _ _ => [(h, ver)]
  | .sub h ver _ _ _ _ => [(h, ver)]
  | .pre h ver _ _ _ _ => [(h, ver)]
  | _ => []
def Chk.elos (ver : Nat) : Chk → List (Hdr × Nat)
  | .hole _ _ _ _ _ _ _ _ _ (.own l) => [(l, ver)]
  | _ => []
theorem LV.ok_le {x : LV} (hm : n ≤ m) (h : x.ok P w0 J θ n) : x.ok P w0 J θ m := LV.ok_same Same.rfl' hm h Hp.le.rfl
where Same.rfl' {n : Nat} {θ : Th} : Same n θ θ := fun i hi => Eq.refl _
theorem AV.ok_move {x : AV} (hn : n ≤ m) (hm : ∀ h ver c, (h, ver) ∈ x.elos → Mem chs n h ver c → ∀ e ∈ chs', ∀ c', Says e h ver c' → c' = c) (k : x.ok P w0 J θ n chs) : x.ok P w0 J θ m chs' := by
  cases x with
  | one x => exact LV.ok_le hn k
  | agg xs => exact fun x hx => LV.ok_le hn (k x hx)
  | tup ys => exact fun y hy x hx => LV.ok_le hn (k y hy x hx)
  | elr g E t xs x i off => exact ⟨Nat.lt_of_lt_of_le k.1 hn, k.2⟩
  | elo g ver E t xs x i off => exact ⟨Nat.lt_of_lt_of_le k.1 hn, k.2.1, Nat.lt_of_lt_of_le k.2.2.1 hn, hm _ _ _ (by simp [AV.elos]) k.2.2⟩
  | sub g ver E t xs l => exact ⟨Nat.lt_of_lt_of_le k.1 hn, k.2.1, Nat.lt_of_lt_of_le k.2.2.1 hn, hm _ _ _ (by simp [AV.elos]) k.2.2⟩
  | pre g ver E t xs l => exact ⟨Nat.lt_of_lt_of_le k.1 hn, k.2.1, Nat.lt_of_lt_of_le k.2.2.1 hn, hm _ _ _ (by simp [AV.elos]) k.2.2⟩
  | any g => exact Nat.lt_of_lt_of_le k hn
  | und => trivial
theorem okE_move {e : Ent} (hn : n ≤ m) (hm : ∀ h ver c, (h, ver) ∈ e.2.2.elos e.2.1 → Mem chs n h ver c → ∀ e ∈ chs', ∀ c', Says e h ver c' → c' = c) (k : okE P w0 J θ n chs e) : okE P w0 J θ m chs' e := by
  obtain ⟨g, ver, c⟩ := e
  cases c with
  | own t d => exact ⟨Nat.lt_of_lt_of_le k.1 hn, Nat.lt_of_lt_of_le k.2.1 hn, trivial⟩
  | blk T cells => exact ⟨Nat.lt_of_lt_of_le k.1 hn, Nat.lt_of_lt_of_le k.2.1 hn, fun x hx => LV.ok_le hn (k.2.2 x hx)⟩
  | hole over t d u y f i kk off lv =>
    refine ⟨Nat.lt_of_lt_of_le k.1 hn, Nat.lt_of_lt_of_le k.2.1 hn, LV.ok_le hn k.2.2.1, k.2.2.2.1, k.2.2.2.2.1, fun l hl => ?_⟩
    have := k.2.2.2.2.2 l hl
    exact ⟨Nat.lt_of_lt_of_le this.1 hn, hm _ _ _ (by subst hl; simp [Chk.elos]) this⟩
  | box T t d => exact ⟨Nat.lt_of_lt_of_le k.1 hn, Nat.lt_of_lt_of_le k.2.1 hn, trivial⟩
  | map K E kk e m => exact ⟨Nat.lt_of_lt_of_le k.1 hn, Nat.lt_of_lt_of_le k.2.1 hn, trivial⟩
  | clo f first capt => exact ⟨Nat.lt_of_lt_of_le k.1 hn, Nat.lt_of_lt_of_le k.2.1 hn, fun y hy x hx => LV.ok_le hn (k.2.2.1 y hy x hx), fun x hx => LV.ok_le hn (k.2.2.2.1 x hx), k.2.2.2.2⟩
end

/-! ### What has been done -/
structure TR where
  i : Nat
  o : Oper
  b : List Nat
  s : Sg
  r : Res
  run : Bool
def givesOf (n0 : Nat) (x : TR) : List Ent := x.r.gives.map fun g => (g.1, n0 + x.i, g.2)
def envOf (n0 : Nat) (env : List (Nat × Nat × AV)) : List TR → List (Nat × Nat × AV)
  | [] => env
  | x :: l => putE x.o.dst (n0 + x.i) x.r.av (envOf n0 env l)
def tabOf (n0 : Nat) (chs : List Ent) : List TR → List Ent
  | [] => chs
  | x :: l => givesOf n0 x ++ tabOf n0 chs l
def sameKey (a b : Ent) : Bool := Nat.beq a.2.1 b.2.1 && Hdr.beq a.1 b.1
def usedBy (e : Ent) (l : List TR) : Bool := l.any fun x => x.r.ns.any fun e' => sameKey e' e
def inB (n0 : Nat) (b : List Nat) (v : Nat) : Bool := Nat.blt v n0 || isIn (v - n0) b
def subS (s0 : Sg) (l : List TR) (i : Nat) (b : List Nat) : Sg :=
  ⟨(envOf s0.nxt s0.env l).filter fun e => inB s0.nxt b e.2.1, (tabOf s0.nxt s0.chs l).filter fun e => inB s0.nxt b e.2.1 && !usedBy e l, s0.nxt + i⟩
def endS (s0 : Sg) (l : List TR) : Sg := subS s0 l l.length (List.range l.length)
def recAt (i : Nat) : List TR → Option TR
  | [] => none
  | x :: l => if Nat.beq x.i i then some x else recAt i l
def addN (t : Nat) (l : List Nat) : List Nat := if isIn t l then l else t :: l
def addAll : List Nat → List Nat → List Nat
  | [], acc => acc
  | t :: l, acc => addAll l (addN t acc)
def bOf (l : List TR) : List Nat → List Nat → List Nat
  | [], acc => acc
  | j :: js, acc => bOf l js (addAll (match recAt j l with | some y => y.b | none => []) (addN j acc))
/-- a value that guards: both ways at once -/
def splitB {Y : Type} (g : Bool) (av : AV) (k : AV → Option Y) : Option Y := match g with
  | false => k av
  | true => match av with
    | .one (.val (.bool b)) => if b then k (.one (.val (.bool true))) else k (.one (.val (.bool false)))
    | .one (.nb b) => if b then k (.one (.val (.bool false))) else k (.one (.val (.bool true)))
    | _ => none
def isGuard (ops : List Oper) (i : Nat) : Bool := match ops with
  | [] => false
  | o :: ops => (match o.guard with | some (g, _) => Nat.beq g i | none => false) || isGuard ops i
section
variable {Y : Type} (V : Env) (ops : List Oper) (s0 : Sg) (k : List TR → Option Y)
def runD (o : Oper) (i : Nat) (l : List TR) (b : List Nat) (s : Sg) : Option Y :=
  chkT (okO V.n s o) (step V s (fun r => splitB (isGuard ops i) r.av fun av => k (⟨i, o, b, s, ⟨r.rs, r.ns, r.rest, r.gives, av⟩, true⟩ :: l)) o)
def skipD (o : Oper) (i : Nat) (l : List TR) (b : List Nat) (s : Sg) : Option Y :=
  k (⟨i, o, b, s, ⟨[], [], s.chs, [], .und⟩, false⟩ :: l)
def opD (o : Oper) (i : Nat) (l : List TR) (b : List Nat) (s : Sg) : Option Y := match o.guard with
  | none => runD V ops k o i l b s
  | some (g, want) => match recAt g l with
    | some y => match y.r.av with
      | .one (.val (.bool c)) => match c == want with
        | true => runD V ops k o i l b s
        | false => skipD k o i l b s
      | .und => skipD k o i l b s
      | _ => none
    | none => none
def goD : List Oper → Nat → List TR → Option Y
  | [], _, l => k l
  | o :: os, i, l => (fun b => opD V ops (goD os (i + 1)) o i l b (subS s0 l i b)) (bOf l (edgesOf o) [])
end
def GdOk (l : List TR) (x : TR) : Prop := match x.o.guard with
  | none => x.run = true
  | some (g, want) => ∃ y ∈ l, y.i = g ∧ ((∃ c : Bool, y.r.av = .one (.val (.bool c)) ∧ x.run = (c == want)) ∨ (y.r.av = .und ∧ x.run = false))
structure RecOk (P : Program) (w0 : World) (n : Nat) (s0 : Sg) (ops : List Oper) (l : List TR) (x : TR) : Prop where
  hi : x.i = l.length
  ho : ops[x.i]? = some x.o
  hb : x.b = bOf l (edgesOf x.o) []
  hs : x.s = subS s0 l x.i x.b
  good : x.run = true → Good P w0 x.s x.o x.r ∧ okO n x.s x.o = true
  skip : x.run = false → x.r = ⟨[], [], x.s.chs, [], .und⟩
  gd : GdOk l x
def AllOk (P : Program) (w0 : World) (n : Nat) (s0 : Sg) (ops : List Oper) : List TR → Prop
  | [] => True
  | x :: l => RecOk P w0 n s0 ops l x ∧ AllOk P w0 n s0 ops l
section
variable {Y : Type} {V : Env} {P : Program} {w0 : World} {ops : List Oper} {s0 : Sg} {k : List TR → Option Y} {res : Y}
theorem recAt_ok {i : Nat} {y : TR} : ∀ {l : List TR}, recAt i l = some y → y ∈ l ∧ y.i = i
  | x :: l, h => by
    unfold recAt at h
    split at h
    · rename_i hx
      obtain rfl := Option.some.inj h
      exact ⟨by simp, Nat.eq_of_beq_eq_true hx⟩
    · obtain ⟨h1, h2⟩ := recAt_ok h
      exact ⟨by simp [h1], h2⟩
theorem good_setav {s : Sg} {o : Oper} {r : Res} {av : AV} (h : Good P w0 s o r) (hv : ∀ θ, av.v θ = r.av.v θ) (hok : ∀ (J : Hp) (θ : Th) n chs, av.ok P w0 J θ n chs) : Good P w0 s o ⟨r.rs, r.ns, r.rest, r.gives, av⟩ :=
  ⟨h.perm, h.says, fun J θ hf => OpT.weak (h.op J θ hf) (fun v hv' => ⟨hok _ _ _ _, (hv _).trans hv'.2.1, hv'.2.2⟩) (fun v _ => rfl)⟩
theorem splitB_ok {g : Bool} {s : Sg} {o : Oper} {r : Res} {f : AV → Option Y} (h : splitB g r.av f = some res) (hG : Good P w0 s o r) : ∃ av, f av = some res ∧ Good P w0 s o ⟨r.rs, r.ns, r.rest, r.gives, av⟩ := by
  unfold splitB at h
  split at h
  · exact ⟨r.av, h, hG⟩
  · split at h
    · rename_i b hb
      cases b with
      | true => exact ⟨_, h, good_setav hG (fun θ => by rw [hb]) fun _ _ _ _ => Eq.refl true⟩
      | false => exact ⟨_, h, good_setav hG (fun θ => by rw [hb]) fun _ _ _ _ => Eq.refl true⟩
    · rename_i b hb
      cases b with
      | true => exact ⟨_, h, good_setav hG (fun θ => by rw [hb]; rfl) fun _ _ _ _ => Eq.refl true⟩
      | false => exact ⟨_, h, good_setav hG (fun θ => by rw [hb]; rfl) fun _ _ _ _ => Eq.refl true⟩
    · cases h
theorem goD_ok (hT : TTok P V.tt) (hF : FTok P V.ft) : ∀ {os : List Oper} {i : Nat} {l : List TR}, goD V ops s0 k os i l = some res → i = l.length → ops.drop i = os → AllOk P w0 V.n s0 ops l → ∃ l', k l' = some res ∧ AllOk P w0 V.n s0 ops l' ∧ l'.length = ops.length
  | [], i, l, h, hi, hd, ha => ⟨l, h, ha, by
    have h1 := List.drop_eq_nil_iff.1 hd
    have : ∀ {l : List TR}, AllOk P w0 V.n s0 ops l → l.length ≤ ops.length := by
      intro l
      induction l with
      | nil => intro _; exact Nat.zero_le _
      | cons x l ih =>
        rintro ⟨hx, hl⟩
        have := (List.getElem?_eq_some_iff.1 hx.ho).1
        rw [hx.hi] at this
        exact this
    have := this ha
    omega⟩
  | o :: os, i, l, h, hi, hd, ha => by
    have ho : ops[i]? = some o := by
      have := congrArg (·[0]?) hd
      simpa using this
    have hd' : ops.drop (i + 1) = os := by
      rw [← List.drop_drop, hd]; rfl
    have h : opD V ops (goD V ops s0 k os (i + 1)) o i l (bOf l (edgesOf o) []) (subS s0 l i (bOf l (edgesOf o) [])) = some res := h
    have run : (GdOk l ⟨i, o, bOf l (edgesOf o) [], subS s0 l i (bOf l (edgesOf o) []), ⟨[], [], [], [], .und⟩, true⟩) → runD V ops (goD V ops s0 k os (i + 1)) o i l (bOf l (edgesOf o) []) (subS s0 l i (bOf l (edgesOf o) [])) = some res → ∃ l', k l' = some res ∧ AllOk P w0 V.n s0 ops l' ∧ l'.length = ops.length := by
      intro hg h
      obtain ⟨hk, h⟩ := chkT_ok h
      obtain ⟨r, hr, hG⟩ := step_ok (w0 := w0) hT hF h
      obtain ⟨av, h, hG⟩ := splitB_ok hr hG
      exact goD_ok hT hF h (by rw [hi]; rfl) hd' ⟨⟨hi, ho, rfl, rfl, fun _ => ⟨hG, hk⟩, fun e => (by cases e), hg⟩, ha⟩
    have skp : (GdOk l ⟨i, o, bOf l (edgesOf o) [], subS s0 l i (bOf l (edgesOf o) []), ⟨[], [], [], [], .und⟩, false⟩) → skipD (goD V ops s0 k os (i + 1)) o i l (bOf l (edgesOf o) []) (subS s0 l i (bOf l (edgesOf o) [])) = some res → ∃ l', k l' = some res ∧ AllOk P w0 V.n s0 ops l' ∧ l'.length = ops.length := by
      intro hg h
      exact goD_ok hT hF h (by rw [hi]; rfl) hd' ⟨⟨hi, ho, rfl, rfl, fun e => (by cases e), fun _ => rfl, hg⟩, ha⟩
    unfold opD at h
    split at h
    · rename_i hg
      exact run (by unfold GdOk; simp only [hg]) h
    · rename_i g want hg
      split at h
      · rename_i y hy
        obtain ⟨hy1, hy2⟩ := recAt_ok hy
        split at h
        · rename_i c hc
          split at h
          · rename_i hcw
            exact run (by unfold GdOk; simp only [hg]; exact ⟨y, hy1, hy2, .inl ⟨c, hc, hcw.symm⟩⟩) h
          · rename_i hcw
            exact skp (by unfold GdOk; simp only [hg]; exact ⟨y, hy1, hy2, .inl ⟨c, hc, hcw.symm⟩⟩) h
        · rename_i hc
          exact skp (by unfold GdOk; simp only [hg]; exact ⟨y, hy1, hy2, .inr ⟨hc, trivial⟩⟩) h
        · cases h
      · cases h
end
end Go.Proofs.YtimjccbdngajoaaGreat.R
