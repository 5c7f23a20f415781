/- FnExactUnregisterQuery: for every input the law returns true and changes nothing that was there. Part 4 of 8. -/
import Derived.Test.YtimjccbdngajoaaGreatDC2
/- More operations: pointers looked at, least and greatest, parts of slices, nodes of trees. No program text is named here. -/
set_option linter.unusedVariables false
set_option linter.unusedSimpArgs false
set_option linter.unnecessarySimpa false
set_option linter.unusedSectionVars false
namespace Go.Proofs.YtimjccbdngajoaaGreat.R
open Go.RowKit
open Go.Proofs.YtimjccbdngajoaaGreat.D

section
variable {P : Program} {I : Hp} {w0 : World} {o : Oper} {ev : Operand → Value}
theorem opT_nilc {x : Operand} {a : Addr} (ho : o.op = .nilCheck x) (hx : ev x = .pointer (some a)) : OpT P I w0 o ev [] (· = .pointer (some a)) (fun _ => []) :=
  opT_val fun w => by simp only [execOp, ho, hx]; rfl
theorem opT_min {x y : Operand} {T U : TypeId} {m n : Int} (ho : o.op = .call { callee := .builtin .min, args := #[x, y], argTypes := #[T, U] }) (hx : ev x = .int .i64 m) (hy : ev y = .int .i64 n) : OpT P I w0 o ev [] (· = .int .i64 (min m n)) (fun _ => []) :=
  opT_val fun w => by
    have e : min m n = if n < m then n else m := by split <;> omega
    rw [e]
    simp [execOp, ho, hx, hy, resolve, invoke, builtin, Builtin.min_, Builtin.min2]
theorem opT_max {x y : Operand} {T U : TypeId} {m n : Int} (ho : o.op = .call { callee := .builtin .max, args := #[x, y], argTypes := #[T, U] }) (hx : ev x = .int .i64 m) (hy : ev y = .int .i64 n) : OpT P I w0 o ev [] (· = .int .i64 (max m n)) (fun _ => []) :=
  opT_val fun w => by
    have e : max m n = if m < n then n else m := by split <;> omega
    rw [e]
    simp [execOp, ho, hx, hy, resolve, invoke, builtin, Builtin.max_, Builtin.max2]
theorem run_eq_ptr {t e : TypeId} {a : Option Addr} {w : World} (hT : P.underlying t = some (.pointer e)) : (Op.equal t (.pointer a) (.pointer none)).run P w = .ok a.isNone w := by
  have key : ∀ n, (Op.equalIn (n + 1) t (.pointer a) (.pointer none)).run P w = .ok a.isNone w := fun n => by
    unfold Op.equalIn
    rw [Sem.run_bind, run_underlying hT, Result.andThen_ok]
    cases a <;> rfl
  exact key 9999
theorem run_eq_sl {t e : TypeId} {a : Option Addr} {l c : Nat} {w : World} (hT : P.underlying t = some (.slice e)) : (Op.equal t (.slice a l c) (.slice none 0 0)).run P w = .ok (isNilV (.slice a l c)) w := by
  have key : ∀ n, (Op.equalIn (n + 1) t (.slice a l c) (.slice none 0 0)).run P w = .ok (isNilV (.slice a l c)) w := fun n => by
    unfold Op.equalIn
    rw [Sem.run_bind, run_underlying hT, Result.andThen_ok]
    cases a <;> rfl
  exact key 9999
theorem opT_eqn {x y : Operand} {t u e : TypeId} {a : Option Addr} {l c : Nat} (hT : P.underlying t = some (.slice e)) (ho : o.op = .binOp .eql t x y u) (hx : ev x = .slice a l c) (hy : ev y = .slice none 0 0) : OpT P I w0 o ev [] (· = .bool (isNilV (.slice a l c))) (fun _ => []) :=
  opT_val fun w => by
    have g1 : eqGuard .eql t x y (.slice a l c) (.slice none 0 0) = pure () := rfl
    have g2 : binOp .eql t (.slice a l c) (.slice none 0 0) = (do pure (.bool (← Op.equal t (.slice a l c) (.slice none 0 0)))) := rfl
    simp only [execOp, ho, hx, hy, g1, g2, Sem.run_bind, Sem.run_pure, run_eq_sl hT, Result.andThen_ok]
theorem opT_eqp {x y : Operand} {t u e : TypeId} {a : Option Addr} (hT : P.underlying t = some (.pointer e)) (ho : o.op = .binOp .eql t x y u) (hx : ev x = .pointer a) (hy : ev y = .pointer none) : OpT P I w0 o ev [] (· = .bool a.isNone) (fun _ => []) :=
  opT_val fun w => by
    have g1 : eqGuard .eql t x y (.pointer a) (.pointer none) = pure () := rfl
    have g2 : binOp .eql t (.pointer a) (.pointer none) = (do pure (.bool (← Op.equal t (.pointer a) (.pointer none)))) := rfl
    simp only [execOp, ho, hx, hy, g1, g2, Sem.run_bind, Sem.run_pure, run_eq_ptr hT, Result.andThen_ok]
theorem opT_nep {x y : Operand} {t u e : TypeId} {a : Option Addr} (hT : P.underlying t = some (.pointer e)) (ho : o.op = .binOp .neq t x y u) (hx : ev x = .pointer a) (hy : ev y = .pointer none) : OpT P I w0 o ev [] (· = .bool (!a.isNone)) (fun _ => []) :=
  opT_val fun w => by
    have g1 : eqGuard .neq t x y (.pointer a) (.pointer none) = pure () := rfl
    have g2 : binOp .neq t (.pointer a) (.pointer none) = (do pure (.bool (!(← Op.equal t (.pointer a) (.pointer none))))) := rfl
    simp only [execOp, ho, hx, hy, g1, g2, Sem.run_bind, Sem.run_pure, run_eq_ptr hT, Result.andThen_ok]
end

section
variable {Y : Type} (tt : TT) (s : Sg) (k : Res → Option Y)
def sNilC (x : Operand) : Option Y := match opd s x with
  | some (.one (.ptr h off)) => k (.pure s (.one (.ptr h off)))
  | some (.one (.rd h (.tree T E t) d)) => (Tr.get d).bind fun _ => k (.pure s (.one (.rd h (.tree T E t) d)))
  | _ => none
def sMin (x y : Operand) : Option Y := match opd s x, opd s y with
  | some (.one (.val (.int .i64 m))), some (.one (.val (.int .i64 n))) => kv s k (.int .i64 (min m n))
  | _, _ => none
def sMax (x y : Operand) : Option Y := match opd s x, opd s y with
  | some (.one (.val (.int .i64 m))), some (.one (.val (.int .i64 n))) => kv s k (.int .i64 (max m n))
  | _, _ => none
/-- a pointer held against nil -/
def sEqP (b : BinOp) (T : TypeId) (x y : Operand) : Option Y := (td tt T).bind fun q => q.pt.bind fun _ => match opd s x, opd s y with
  | some (.one (.rd h (.tree T' E t) d)), some (.one (.val v)) => chkT (isNilP v) (match b with
    | .eql => kv s k (.bool d.isNil)
    | .neq => k (.pure s (.one (.nb d.isNil)))
    | _ => none)
  | some (.one (.ptr h off)), some (.one (.val v)) => chkT (isNilP v) (match b with
    | .eql => kv s k (.bool false)
    | .neq => kv s k (.bool true)
    | _ => none)
  | _, _ => none
/-- a slice held against nil -/
def sEqN (b : BinOp) (T : TypeId) (x y : Operand) : Option Y := (td tt T).bind fun q => q.el.bind fun _ => match opd s x, opd s y, b with
  | some (.one (.rdn h b (.sl E t) d)), some (.one (.val v)), .eql => chkT (isNil v) (kv s k (.bool b))
  | _, _, _ => none
/-- a field of a node -/
def sFieldT (T : TypeId) (x : Operand) (f : Nat) : Option Y := (td tt T).bind fun d => (d.fields[f]?).bind fun q => match opd s x with
  | some (.one (.rd h (.tree T' E t) a)) => (Tr.get a).bind fun p => k (.pure s (.one (.fz h T' (.prod t (.sl E (.tree T' E t))) p q.1)))
  | _ => none
def rdSl (s : Sg) (x : Operand) : Option (Hdr × (E : TypeId) × (t : Ty) × List t.den) := match opd s x with
  | some (.one (.rd h (.sl E t) xs)) => some (h, ⟨E, t, xs⟩)
  | _ => none
def asI (s : Sg) (x : Operand) : Option Int := match opd s x with
  | some (.one (.val (.int .i64 m))) => some m
  | _ => none
def newRd (E : TypeId) (t : Ty) (xs : List t.den) : Option Y := k (.pure s (.one (.rd ⟨s.nxt, []⟩ (.sl E t) xs)))
/-- a part of a slice that is read -/
def sSliceR (T : TypeId) (x : Operand) (lo hi : Option Operand) : Option Y := (td tt T).bind fun d => d.el.bind fun E' => (td tt E').bind fun e => (rdSl s x).bind fun r => chkT (Nat.beq e.n r.2.2.1.size) (match lo, hi with
  | some l, none => (asI s l).bind fun l => (chk (0 ≤ l ∧ l ≤ (r.2.2.2.length : Int))).bind fun _ => newRd s k r.2.1 r.2.2.1 (r.2.2.2.drop l.toNat)
  | none, some h => (asI s h).bind fun h => (chk (0 ≤ h ∧ h ≤ (r.2.2.2.length : Int))).bind fun _ => newRd s k r.2.1 r.2.2.1 (r.2.2.2.take h.toNat)
  | some l, some h => (asI s l).bind fun l => (asI s h).bind fun h => (chk (0 ≤ l ∧ l ≤ h ∧ h ≤ (r.2.2.2.length : Int))).bind fun _ => newRd s k r.2.1 r.2.2.1 ((r.2.2.2.take h.toNat).drop l.toNat)
  | none, none => none)
/-- an own row, cut off behind -/
def sSliceO (T : TypeId) (x : Operand) (lo hi : Option Operand) : Option Y := (td tt T).bind fun d => match d.el, opd s x, lo, hi with
  | some E', some (.one (.own h)), none, some hi => (rowOf h s.chs).bind fun r => (td tt E').bind fun e => chkT (Nat.beq e.n r.t.size) ((asI s hi).bind fun m => (chk (0 ≤ m ∧ m ≤ (r.xs.length : Int))).bind fun _ => newRow s k r.E r.t [r.ent h] r.rest (r.xs.take m.toNat))
  | _, _, _, _ => none
/-- an own row without its head: what is left of it is taken -/
def sSliceD (T : TypeId) (x : Operand) (lo hi : Option Operand) : Option Y := (td tt T).bind fun d => match d.el, opd s x, lo, hi with
  | some E', some (.one (.own h)), some lo, none => (rowOf h s.chs).bind fun r => (td tt E').bind fun e => chkT (Nat.beq e.n r.t.size) ((asI s lo).bind fun m => (chk (0 ≤ m ∧ m ≤ (r.xs.length : Int))).bind fun _ => newRow s k r.E r.t [r.ent h] r.rest (r.xs.drop m.toNat))
  | _, _, _, _ => none
/-- an own row from a place on: looked at -/
def sSliceV (T : TypeId) (x : Operand) (lo hi : Option Operand) : Option Y := (td tt T).bind fun d => match d.el, opd s x, lo, hi with
  | some E', some (.one (.own h)), some lo, none => (rowOf h s.chs).bind fun r => (td tt E').bind fun e => chkT (Nat.beq e.n r.t.size) ((asI s lo).bind fun m => (chk (0 ≤ m ∧ m ≤ (r.xs.length : Int))).bind fun _ => k ⟨[r.ent h], [], r.rest, [], .sub h r.ver r.E r.t r.xs m⟩)
  | _, _, _, _ => none
/-- the head of an own row: looked at -/
def sSliceW (T : TypeId) (x : Operand) (lo hi : Option Operand) : Option Y := (td tt T).bind fun d => match d.el, opd s x, lo, hi with
  | some E', some (.one (.own h)), none, some hi => (rowOf h s.chs).bind fun r => (td tt E').bind fun e => chkT (Nat.beq e.n r.t.size) ((asI s hi).bind fun m => (chk (0 ≤ m ∧ m ≤ (r.xs.length : Int))).bind fun _ => k ⟨[r.ent h], [], r.rest, [], .pre h r.ver r.E r.t r.xs m⟩)
  | _, _, _, _ => none
/-- numbers copied into an own row, from a place on -/
structure Src0 where
  h : Hdr
  sub : Bool
  ver : Nat
  lo : Int
def copyTo : AV → Option Src0
  | .one (.own h) => some ⟨h, false, 0, 0⟩
  | .sub h ver _ _ _ l => some ⟨h, true, ver, l⟩
  | _ => none
def sCopyI (h : Hdr) (ver : Nat) (E : TypeId) (k1 : IntKind) (xs : List Int) (rest : List Ent) (lo : Int) (y : AV) : Option Y := match y with
  | .one (.rd _ (.sl _ (.int k2)) ys) => chkT (k1 == k2) ((chk (0 ≤ lo ∧ lo ≤ (xs.length : Int))).bind fun _ => k ⟨[], [(h, ver, .own (.sl E (.int k1)) xs)], rest, [(h, .own (.sl E (.int k1)) (cpyI xs lo.toNat ys))], .one (.val (.int .i64 ((min ys.length (xs.length - lo.toNat) : Nat) : Int)))⟩)
  | .pre h2 v2 _ _ _ hi => chkT (Hdr.beq h2 h && Nat.beq v2 ver) ((chk (0 ≤ lo ∧ lo ≤ (xs.length : Int))).bind fun _ => (chk (0 ≤ hi ∧ hi ≤ (xs.length : Int))).bind fun _ => k ⟨[], [(h, ver, .own (.sl E (.int k1)) xs)], rest, [(h, .own (.sl E (.int k1)) (cpyI xs lo.toNat (xs.take hi.toNat)))], .one (.val (.int .i64 ((min (xs.take hi.toNat).length (xs.length - lo.toNat) : Nat) : Int)))⟩)
  | _ => none
def copyRow (r : Row) : Option ((k : IntKind) × List Int) := match r.t, r.xs with
  | .int k, xs => some ⟨k, xs⟩
  | _, _ => none
def sCopy (T : TypeId) (x y : Operand) : Option Y := (td tt T).bind fun d => d.el.bind fun E => (td tt E).bind fun e => chkT (Nat.beq e.n 1) ((opd s x).bind fun xv => (copyTo xv).bind fun c => (rowOf c.h s.chs).bind fun r => chkT (Nat.beq r.E E && (!c.sub || Nat.beq c.ver r.ver)) ((copyRow r).bind fun q => (opd s y).bind fun yv => sCopyI k c.h r.ver r.E q.1 q.2 r.rest c.lo yv))
/-- a row, copied -/
def sClone (E b : Nat) (x : Operand) : Option Y := match opd s x with
  | some (.sub h ver E' t xs l) => (rowOf h s.chs).bind fun r => chkT (Nat.beq r.ver ver && (t.sh && Nat.beq t.size 1)) ((appI b [] (xs.drop l.toNat)).bind fun zs => k ⟨[r.ent h], [], r.rest, [(⟨s.nxt, []⟩, .own (.sl E t) zs)], .one (.own ⟨s.nxt, []⟩)⟩)
  | some (.one (.own h)) => (rowOf h s.chs).bind fun r => chkT (r.t.sh && Nat.beq r.t.size 1) ((appI b [] r.xs).bind fun zs => k ⟨[r.ent h], [], r.rest, [(⟨s.nxt, []⟩, .own (.sl E r.t) zs)], .one (.own ⟨s.nxt, []⟩)⟩)
  | some (.one (.rd h (.sl E' t) xs)) => chkT (t.sh && Nat.beq t.size 1) ((appI b [] xs).bind fun zs => newRow s k E t [] s.chs zs)
  | _ => none
end
section
variable {Y : Type} {tt : TT} {s : Sg} {k : Res → Option Y} {P : Program} {w0 : World} {o : Oper} {res : Y} {x y : Operand}
/-- an operation whose value is new -/
theorem good_new {av : AV} {fact : Hp → Th → Value → Prop} (hop : ∀ J θ, Fine P w0 J θ s → OpT P J w0 o (evL (envL θ s)) [] (fact J θ) (fun _ => [])) (hok : ∀ J θ v, Fine P w0 J θ s → fact J θ v → av.ok P w0 J (upd θ s.nxt v) (s.nxt + 1) s.chs ∧ av.v (upd θ s.nxt v) = v) : Good P w0 s o (Res.pure s av) :=
  ⟨List.Perm.refl _, fun _ _ _ g hg => (by cases hg), fun J θ hf => OpT.weak (hop J θ hf) (fun v hv => by
    obtain ⟨h1, h2⟩ := hok J θ v hf hv
    exact ⟨h1, h2, fun g hg => by cases hg⟩) (fun v hv => rfl)⟩
theorem sNilC_ok (ho : o.op = .nilCheck x) (h : sNilC s k x = some res) : Oks P w0 s o k res := by
  unfold sNilC at h
  split at h
  · rename_i hh off hx
    exact ⟨_, h, good_val (fun J θ hf => opT_nilc ho (opd_ev hx)) fun J θ hf => opd_ok hf hx⟩
  · rename_i hh T E t d hx
    obtain ⟨p, hp, h⟩ := bind_some h
    refine ⟨_, h, good_val (fun J θ hf => ?_) fun J θ hf => opd_ok hf hx⟩
    have hxo : (hh.id < s.nxt ∧ (Ty.tree T E t).rep.rd J [hv θ hh] d) := opd_ok hf hx
    obtain ⟨b, e, -⟩ := tree_get (E := E) hxo.2 hp
    have hev : evL (envL θ s) x = .pointer (some ⟨b, 0, none⟩) := (opd_ev hx).trans e
    have := opT_nilc (P := P) (I := J) (w0 := w0) ho hev
    rwa [← hev, opd_ev (θ := θ) hx] at this
  · cases h
theorem sMin_ok {T U : TypeId} (ho : o.op = .call { callee := .builtin .min, args := #[x, y], argTypes := #[T, U] }) (h : sMin s k x y = some res) : Oks P w0 s o k res := by
  unfold sMin at h
  split at h
  · rename_i m n hx hy
    exact kv_ok h rfl fun J θ hf => opT_min ho (opd_ev hx) (opd_ev hy)
  · cases h
theorem sMax_ok {T U : TypeId} (ho : o.op = .call { callee := .builtin .max, args := #[x, y], argTypes := #[T, U] }) (h : sMax s k x y = some res) : Oks P w0 s o k res := by
  unfold sMax at h
  split at h
  · rename_i m n hx hy
    exact kv_ok h rfl fun J θ hf => opT_max ho (opd_ev hx) (opd_ev hy)
  · cases h
theorem sEqP_ok (hT : TTok P tt) {b : BinOp} {t u : TypeId} (ho : o.op = .binOp b t x y u) (h : sEqP tt s k b t x y = some res) : Oks P w0 s o k res := by
  obtain ⟨q, hq, h⟩ := bind_some h
  obtain ⟨e, he, h⟩ := bind_some h
  have hpt := (hT.get hq).pt e he
  split at h
  · rename_i hh T' E t' d v hx hy
    obtain ⟨hn, h⟩ := chkT_ok h
    have hn := isNilP_ok hn
    subst hn
    have key : ∀ J θ, Fine P w0 J θ s → ∃ a : Option Addr, evL (envL θ s) x = .pointer a ∧ a.isNone = d.isNil := fun J θ hf => by
      have hxo : (hh.id < s.nxt ∧ (Ty.tree T' E t').rep.rd J [hv θ hh] d) := opd_ok hf hx
      obtain ⟨a, e1, e2⟩ := tree_nil hxo.2
      exact ⟨a, (opd_ev hx).trans e1, e2⟩
    split at h
    · refine kv_ok h rfl fun J θ hf => ?_
      obtain ⟨a, e1, e2⟩ := key J θ hf
      rw [← e2]
      exact opT_eqp hpt ho e1 (opd_ev hy)
    · refine ⟨_, h, good_val (fun J θ hf => ?_) fun _ _ _ => trivial⟩
      obtain ⟨a, e1, e2⟩ := key J θ hf
      show OpT P J w0 o _ [] (· = .bool (!d.isNil)) _
      rw [← e2]
      exact opT_nep hpt ho e1 (opd_ev hy)
    · cases h
  · rename_i hh off v hx hy
    obtain ⟨hn, h⟩ := chkT_ok h
    have hn := isNilP_ok hn
    subst hn
    split at h
    · exact kv_ok h rfl fun J θ hf => opT_eqp hpt ho (opd_ev hx) (opd_ev hy)
    · exact kv_ok h rfl fun J θ hf => opT_nep hpt ho (opd_ev hx) (opd_ev hy)
    · cases h
  · cases h
theorem sEqN_ok (hT : TTok P tt) {b : BinOp} {t u : TypeId} (ho : o.op = .binOp b t x y u) (h : sEqN tt s k b t x y = some res) : Oks P w0 s o k res := by
  obtain ⟨q, hq, h⟩ := bind_some h
  obtain ⟨e, he, h⟩ := bind_some h
  have hel := (hT.get hq).el e he
  split at h
  · rename_i hh b' E t' d v hx hy _ _
    obtain ⟨hn, h⟩ := chkT_ok h
    have hn := isNil_ok hn
    subst hn
    refine kv_ok h rfl fun J θ hf => ?_
    have hxo : (hh.id < s.nxt ∧ (Ty.sl E t').rep.rd J [hv θ hh] d ∧ isNilV (hv θ hh) = b') := opd_ok hf hx
    obtain ⟨h1, ⟨ao, cap, h2, -⟩, h3⟩ := hxo
    have h2 : hv θ hh = .slice ao d.length cap := by simpa using h2
    rw [h2] at h3
    rw [← h3]
    exact opT_eqn hel ho ((opd_ev hx).trans h2) (opd_ev hy)
  · cases h
theorem sFieldT_ok (hT : TTok P tt) {T : TypeId} {f : Nat} (ho : o.op = .fieldAddr T x f) (h : sFieldT tt s k T x f = some res) : Oks P w0 s o k res := by
  obtain ⟨d, hd, h⟩ := bind_some h
  obtain ⟨q, hq, h⟩ := bind_some h
  split at h
  · rename_i hh T' E t a hx
    obtain ⟨p, hp, h⟩ := bind_some h
    have hfl := (hT.get hd).fld f q hq
    have key : ∀ J θ, Fine P w0 J θ s → hh.id < s.nxt ∧ ∃ b, hv θ hh = .pointer (some ⟨b, 0, none⟩) ∧ ∃ cells : List Value, J b = some (.cells cells.toArray T' (0, 0)) ∧ (Ty.prod t (.sl E (.tree T' E t))).rep.rd J cells p := fun J θ hf => by
      have hxo : (hh.id < s.nxt ∧ (Ty.tree T' E t).rep.rd J [hv θ hh] a) := opd_ok hf hx
      obtain ⟨b, e, cells, k1, k2⟩ := tree_get (E := E) hxo.2 hp
      exact ⟨hxo.1, b, e, cells, k1, k2⟩
    refine ⟨_, h, good_val (fun J θ hf => ?_) fun J θ hf => ?_⟩
    · obtain ⟨-, b, e, -⟩ := key J θ hf
      have hev : evL (envL θ s) x = .pointer (some ⟨b, 0, none⟩) := (opd_ev hx).trans e
      have := opT_field_addr (P := P) (I := J) (w0 := w0) hfl ho hev
      rw [Nat.zero_add] at this
      show OpT P J w0 o _ [] (· = .pointer (some ⟨bk (hv θ hh), q.1, none⟩)) _
      rw [e]
      exact this
    · obtain ⟨h1, b, e, cells, k1, k2⟩ := key J θ hf
      exact ⟨h1, cells, by rw [e]; exact k1, k2⟩
  · cases h
theorem rdSl_ok {r : Hdr × (E : TypeId) × (t : Ty) × List t.den} (h : rdSl s x = some r) : opd s x = some (.one (.rd r.1 (.sl r.2.1 r.2.2.1) r.2.2.2)) := by
  unfold rdSl at h
  split at h
  · rename_i hx
    obtain rfl := Option.some.inj h
    exact hx
  · cases h
theorem asI_ok {m : Int} (h : asI s x = some m) (θ : Th) : evL (envL θ s) x = .int .i64 m := by
  unfold asI at h
  split at h
  · rename_i hx
    obtain rfl := Option.some.inj h
    exact opd_ev hx
  · cases h
theorem newRd_ok {E : TypeId} {t : Ty} {xs : List t.den} (h : newRd s k E t xs = some res) (hop : ∀ J θ, Fine P w0 J θ s → OpT P J w0 o (evL (envL θ s)) [] (fun v => (Ty.sl E t).rep.rd J [v] xs) (fun _ => [])) : Oks P w0 s o k res :=
  ⟨_, h, good_new (fact := fun J θ v => (Ty.sl E t).rep.rd J [v] xs) hop fun J θ v hf hv' => ⟨⟨Nat.lt_succ_self _, by rw [hv_new]; exact hv'⟩, hv_new⟩⟩
theorem sSliceR_ok (hT : TTok P tt) {T : TypeId} {lo hi : Option Operand} (ho : o.op = .slice T x lo hi none) (h : sSliceR tt s k T x lo hi = some res) : Oks P w0 s o k res := by
  obtain ⟨d, hd, h⟩ := bind_some h
  obtain ⟨E', hE, h⟩ := bind_some h
  obtain ⟨e, he, h⟩ := bind_some h
  obtain ⟨⟨hh, E, t, xs⟩, hr, h⟩ := bind_some h
  have hx := rdSl_ok hr
  obtain ⟨hn, h⟩ := chkT_ok h
  have hn : e.n = t.size := Nat.eq_of_beq_eq_true hn
  have hdE := (hT.get hd).el E' hE
  have hti := (hT.get he).ti
  have key : ∀ J θ, Fine P w0 J θ s → (rSlice E t.rep).rd J [hv θ hh] xs := fun J θ hf => (opd_ok hf hx).2
  have hsz : t.rep.size = e.n := t.rep_size.trans hn.symm
  split at h
  · rename_i l
    obtain ⟨m, hm, h⟩ := bind_some h
    obtain ⟨u, hc, h⟩ := bind_some h
    have hc := chk_some hc
    refine newRd_ok h fun J θ hf => OpT.weak (opT_slice_l hdE hti (Hd.of_rd (key J θ hf)) ho (opd_ev hx) (asI_ok hm θ) hc) (fun v hv' => ?_) (fun v hv' => rfl)
    subst hv'
    exact rd_sub_l (key J θ hf) (by simp only at hc ⊢; omega) hsz
  · rename_i hi
    obtain ⟨m, hm, h⟩ := bind_some h
    obtain ⟨u, hc, h⟩ := bind_some h
    have hc := chk_some hc
    refine newRd_ok h fun J θ hf => OpT.weak (opT_slice_h hdE hti (Hd.of_rd (key J θ hf)) ho (opd_ev hx) (asI_ok hm θ) hc) (fun v hv' => ?_) (fun v hv' => rfl)
    subst hv'
    exact rd_sub_h (key J θ hf) (by simp only at hc ⊢; omega) hsz
  · rename_i l hi
    obtain ⟨m, hm, h⟩ := bind_some h
    obtain ⟨m2, hm2, h⟩ := bind_some h
    obtain ⟨u, hc, h⟩ := bind_some h
    have hc := chk_some hc
    refine newRd_ok h fun J θ hf => OpT.weak (opT_slice_lh hdE hti (Hd.of_rd (key J θ hf)) ho (opd_ev hx) (asI_ok hm θ) (asI_ok hm2 θ) hc) (fun v hv' => ?_) (fun v hv' => rfl)
    subst hv'
    exact rd_sub (key J θ hf) (by simp only at hc ⊢; omega) (by simp only at hc ⊢; omega) hsz
  · cases h
/-- an own row without its head -/
theorem own_drop {α : Type} {E : TypeId} {R : Rep α} {I : Hp} {w : World} {C : List Ch} {v : Value} {xs : List α} {m n : Nat} (h : St I w0 w (Ch.own (rSlice E R) [v] xs :: C)) (hm : m ≤ xs.length) (hn : R.size = n) : St I w0 w (Ch.own (rSlice E R) [subV v m xs.length n] (xs.drop m) :: C) := by
  obtain ⟨h1, h2, F, ⟨G, K, rfl, k, e⟩, h4, h5⟩ := h
  obtain ⟨hl, k⟩ := k
  have hlen : (xs.drop m).length = xs.length - m := List.length_drop
  rcases k with ⟨hv', rfl, rfl⟩ | ⟨g, ofs, cap, cur, K1, hv', k1, k2, k3, k4, rfl, k5⟩
  · obtain rfl : v = .slice none 0 0 := by simpa using hv'
    obtain rfl : m = 0 := by simpa using hm
    refine ⟨h1, h2, [] ++ K, ⟨[], K, rfl, ⟨by simp, .inl ⟨?_, rfl, rfl⟩⟩, e⟩, h4, h5⟩
    simp [subV, sliced]
  · obtain rfl : v = .slice (some ⟨g, ofs, none⟩) xs.length cap := by simpa using hv'
    have hk5 := k5
    rw [← List.take_append_drop m xs] at k5
    obtain ⟨c1, c2, G1, G2, f1, f2, rfl, -, q1⟩ := k5.cut2
    have hp : ((g :: (G1 ++ G2)) ++ K).Perm (((g :: G2) ++ K) ++ G1) := by
      rw [List.append_assoc]
      show (g :: ((G1 ++ G2) ++ K)).Perm (g :: (G2 ++ (K ++ G1)))
      have : ((G1 ++ G2) ++ K).Perm (G2 ++ (K ++ G1)) := by
        rw [List.append_assoc, ← List.append_assoc G2 K G1]; exact List.perm_append_comm
      exact this.cons g
    have hdr : cur.toList.drop (ofs + m * R.size) = c2 := by
      rw [← List.drop_drop, f1]
      have : (xs.take m).length = m := by rw [List.length_take]; omega
      rw [this] at f2
      exact List.drop_left' f2
    by_cases hc : cap = m
    · have hx0 : xs.drop m = [] := List.eq_nil_of_length_eq_zero (by omega)
      rw [hx0] at q1
      obtain rfl : G2 = [] := q1
      refine ⟨h1, h2, (g :: []) ++ K, ⟨g :: [], K, rfl, ⟨by rw [hlen]; omega, .inr ⟨g, ofs, 0, cur, [], ?_, k1, by rw [hlen]; omega, Nat.zero_le _, by omega, rfl, by rw [hx0]; rfl⟩⟩, e⟩, (List.nodup_append.1 (hp.nodup_iff.1 h4)).1, fun b hb => h5 b (hp.mem_iff.2 (List.mem_append_left _ hb))⟩
      rw [hlen]
      simp [subV, sliced, hc]
    · refine ⟨h1, h2, (g :: G2) ++ K, ⟨g :: G2, K, rfl, ⟨by rw [hlen]; omega, .inr ⟨g, ofs + m * R.size, cap - m, cur, G2, ?_, k1, by rw [hlen]; omega, by omega, ?_, rfl, by rw [hdr]; exact q1⟩⟩, e⟩, (List.nodup_append.1 (hp.nodup_iff.1 h4)).1, fun b hb => h5 b (hp.mem_iff.2 (List.mem_append_left _ hb))⟩
      · rw [hlen, hn]
        simp [subV, sliced, Addr.add_mid, hc]
      · have : m * R.size + (cap - m) * R.size = cap * R.size := by rw [← Nat.add_mul]; congr 1; omega
        omega
/-- an own row, seen under the header of its head -/
theorem own_take {α : Type} {E : TypeId} {R : Rep α} {I : Hp} {w : World} {C : List Ch} {v : Value} {xs : List α} {m n : Nat} (h : St I w0 w (Ch.own (rSlice E R) [v] xs :: C)) (hm : m ≤ xs.length) (hn : R.size = n) : St I w0 w (Ch.own (rSlice E R) [subV v 0 m n] (xs.take m) :: C) := by
  obtain ⟨h1, h2, F, ⟨G, K, rfl, k, e⟩, h4, h5⟩ := h
  obtain ⟨hl, k⟩ := k
  have hlen : (xs.take m).length = m := by rw [List.length_take]; omega
  rcases k with ⟨hv', rfl, rfl⟩ | ⟨g, ofs, cap, cur, K1, hv', k1, k2, k3, k4, rfl, k5⟩
  · obtain rfl : v = .slice none 0 0 := by simpa using hv'
    obtain rfl : m = 0 := by simpa using hm
    refine ⟨h1, h2, [] ++ K, ⟨[], K, rfl, ⟨by simp, .inl ⟨?_, rfl, rfl⟩⟩, e⟩, h4, h5⟩
    simp [subV, sliced]
  · obtain rfl : v = .slice (some ⟨g, ofs, none⟩) xs.length cap := by simpa using hv'
    rw [← List.take_append_drop m xs] at k5
    obtain ⟨G1, G2, rfl, q1, -⟩ := k5.parts
    have hp : ((g :: (G1 ++ G2)) ++ K).Perm (((g :: G1) ++ K) ++ G2) := by
      rw [List.append_assoc]
      show (g :: ((G1 ++ G2) ++ K)).Perm (g :: (G1 ++ (K ++ G2)))
      rw [List.append_assoc]
      exact (List.perm_append_comm.append_left G1).cons g
    refine ⟨h1, h2, (g :: G1) ++ K, ⟨g :: G1, K, rfl, ⟨by rw [hlen]; omega, .inr ⟨g, ofs, cap, cur, G1, ?_, k1, by rw [hlen]; omega, k3, k4, rfl, q1⟩⟩, e⟩, (List.nodup_append.1 (hp.nodup_iff.1 h4)).1, fun b hb => h5 b (hp.mem_iff.2 (List.mem_append_left _ hb))⟩
    rw [hlen]
    simp [subV, sliced, Addr.add]
theorem sSliceO_ok (hT : TTok P tt) {T : TypeId} {lo hi : Option Operand} (ho : o.op = .slice T x lo hi none) (h : sSliceO tt s k T x lo hi = some res) : Oks P w0 s o k res := by
  obtain ⟨d, hd, h⟩ := bind_some h
  split at h
  · rename_i E' hh hi' he hx _
    obtain ⟨r, hr, h⟩ := bind_some h
    obtain ⟨e, hE, h⟩ := bind_some h
    obtain ⟨hn, h⟩ := chkT_ok h
    have hn : e.n = r.t.size := Nat.eq_of_beq_eq_true hn
    obtain ⟨m, hm, h⟩ := bind_some h
    obtain ⟨u, hc, h⟩ := bind_some h
    have hc := chk_some hc
    obtain ⟨hp, -⟩ := rowOf_ok hr
    have hsz : r.t.rep.size = e.n := r.t.rep_size.trans hn.symm
    refine ⟨_, h, good_row (rs := []) (perm2 hp) fun J θ hf => ?_⟩
    have h1 : OpT P J w0 o (evL (envL θ s)) [Ch.own (rSlice r.E r.t.rep) [hv θ hh] r.xs] (· = subV (hv θ hh) 0 m.toNat e.n) (fun _ => [Ch.own (rSlice r.E r.t.rep) [hv θ hh] r.xs]) := opT_rd1 fun hD => opT_slice_h ((hT.get hd).el _ he) (hT.get hE).ti hD ho (opd_ev hx) (asI_ok hm θ) hc
    refine OpT.post h1 fun v w C hv' hs => ⟨trivial, ?_⟩
    subst hv'
    exact own_take hs (by omega) hsz
  · cases h
theorem sSliceD_ok (hT : TTok P tt) {T : TypeId} {lo hi : Option Operand} (ho : o.op = .slice T x lo hi none) (h : sSliceD tt s k T x lo hi = some res) : Oks P w0 s o k res := by
  obtain ⟨d, hd, h⟩ := bind_some h
  split at h
  · rename_i E' hh lo' he hx _
    obtain ⟨r, hr, h⟩ := bind_some h
    obtain ⟨e, hE, h⟩ := bind_some h
    obtain ⟨hn, h⟩ := chkT_ok h
    have hn : e.n = r.t.size := Nat.eq_of_beq_eq_true hn
    obtain ⟨m, hm, h⟩ := bind_some h
    obtain ⟨u, hc, h⟩ := bind_some h
    have hc := chk_some hc
    obtain ⟨hp, -⟩ := rowOf_ok hr
    have hsz : r.t.rep.size = e.n := r.t.rep_size.trans hn.symm
    refine ⟨_, h, good_row (rs := []) (perm2 hp) fun J θ hf => ?_⟩
    have h1 : OpT P J w0 o (evL (envL θ s)) [Ch.own (rSlice r.E r.t.rep) [hv θ hh] r.xs] (· = subV (hv θ hh) m.toNat r.xs.length e.n) (fun _ => [Ch.own (rSlice r.E r.t.rep) [hv θ hh] r.xs]) := opT_rd1 fun hD => opT_slice_l ((hT.get hd).el _ he) (hT.get hE).ti hD ho (opd_ev hx) (asI_ok hm θ) hc
    refine OpT.post h1 fun v w C hv' hs => ⟨trivial, ?_⟩
    subst hv'
    exact own_drop hs (by omega) hsz
  · cases h
theorem sub_row {h : Hdr} {ver : Nat} {E : TypeId} {t : Ty} {xs : List t.den} {l : Int} {J : Hp} {θ : Th} {r : Row} (hr : rowOf h s.chs = some r) (hv : r.ver = ver) (hm : AV.ok P w0 J θ s.nxt s.chs (.sub h ver E t xs l)) : r.ent h = (h, ver, .own (.sl E t) xs) := by
  obtain ⟨hp, -⟩ := rowOf_ok hr
  have := hm.2.2.2 (r.ent h) (hp.mem_iff.2 (by simp)) _ ⟨rfl, .inl ⟨hv, rfl⟩⟩
  show (h, r.ver, Chk.own (.sl r.E r.t) r.xs) = _
  rw [hv, show Chk.own (.sl r.E r.t) r.xs = _ from this]
theorem sSliceV_ok (hT : TTok P tt) {T : TypeId} {lo hi : Option Operand} (ho : o.op = .slice T x lo hi none) (h : sSliceV tt s k T x lo hi = some res) : Oks P w0 s o k res := by
  obtain ⟨d, hd, h⟩ := bind_some h
  split at h
  · rename_i E' hh lo' he hx _
    obtain ⟨r, hr, h⟩ := bind_some h
    obtain ⟨e, hE, h⟩ := bind_some h
    obtain ⟨hn, h⟩ := chkT_ok h
    have hn : e.n = r.t.size := Nat.eq_of_beq_eq_true hn
    obtain ⟨m, hm, h⟩ := bind_some h
    obtain ⟨u, hc, h⟩ := bind_some h
    have hc := chk_some hc
    obtain ⟨hp, -⟩ := rowOf_ok hr
    refine ⟨_, h, perm1 hp, says_plain rfl, fun J θ hf => OpT.weak (opT_rd1 (fact := (· = subV (hv θ hh) m.toNat r.xs.length e.n)) fun hD => opT_slice_l ((hT.get hd).el _ he) (hT.get hE).ti hD ho (opd_ev hx) (asI_ok hm θ) hc) (fun u hu => ?_) (fun u hu => rfl)⟩
    have hok := ent_ok hf hp
    refine ⟨⟨Nat.lt_succ_of_lt hok.1, hc, (rowOf_mem hr hok.2.1).newer (Res.newer (perm1 hp) (says_plain rfl J θ hf)) (Nat.le_succ _)⟩, ?_, fun g hg => by cases hg⟩
    rw [hu, hn]
    show subV (hv (upd θ s.nxt _) hh) _ _ _ = subV (hv θ hh) _ _ _
    rw [show hv (upd θ s.nxt _) hh = hv θ hh from hv_same Same.upd hok.1]
  · cases h
theorem sSliceW_ok (hT : TTok P tt) {T : TypeId} {lo hi : Option Operand} (ho : o.op = .slice T x lo hi none) (h : sSliceW tt s k T x lo hi = some res) : Oks P w0 s o k res := by
  obtain ⟨d, hd, h⟩ := bind_some h
  split at h
  · rename_i E' hh hi' he hx _
    obtain ⟨r, hr, h⟩ := bind_some h
    obtain ⟨e, hE, h⟩ := bind_some h
    obtain ⟨hn, h⟩ := chkT_ok h
    have hn : e.n = r.t.size := Nat.eq_of_beq_eq_true hn
    obtain ⟨m, hm, h⟩ := bind_some h
    obtain ⟨u, hc, h⟩ := bind_some h
    have hc := chk_some hc
    obtain ⟨hp, -⟩ := rowOf_ok hr
    refine ⟨_, h, perm1 hp, says_plain rfl, fun J θ hf => OpT.weak (opT_rd1 (fact := (· = subV (hv θ hh) 0 m.toNat e.n)) fun hD => opT_slice_h ((hT.get hd).el _ he) (hT.get hE).ti hD ho (opd_ev hx) (asI_ok hm θ) hc) (fun u hu => ?_) (fun u hu => rfl)⟩
    have hok := ent_ok hf hp
    refine ⟨⟨Nat.lt_succ_of_lt hok.1, hc, (rowOf_mem hr hok.2.1).newer (Res.newer (perm1 hp) (says_plain rfl J θ hf)) (Nat.le_succ _)⟩, ?_, fun g hg => by cases hg⟩
    rw [hu, hn]
    show subV (hv (upd θ s.nxt _) hh) _ _ _ = subV (hv θ hh) _ _ _
    rw [show hv (upd θ s.nxt _) hh = hv θ hh from hv_same Same.upd hok.1]
  · cases h
/-- a row changed in its place -/
theorem good_upd {e : Ent} {rest : List Ent} {t : Ty} {d : t.den} {v : Value} (hp : s.chs.Perm (e :: rest)) (h1 : v.oneCell' = true) (hop : ∀ J θ, Fine P w0 J θ s → OpT P J w0 o (evL (envL θ s)) [toCh P θ e] (· = v) (fun _ => [Ch.own t.rep [hv θ e.1] d])) : Good P w0 s o ⟨[], [e], rest, [(e.1, .own t d)], .one (.val v)⟩ := by
  refine ⟨perm2 hp, says_plain rfl, fun J θ hf => OpT.weak (hop J θ hf) (fun u hu => ?_) (fun u hu => ?_)⟩
  · have hok := ent_ok hf hp
    refine ⟨h1, hu.symm, fun g hg => ?_⟩
    obtain rfl := List.mem_singleton.1 hg
    exact ⟨Nat.lt_succ_of_lt hok.1, Nat.lt_succ_self _, trivial⟩
  · have hok := ent_ok hf hp
    show [Ch.own t.rep [hv θ e.1] d] = [Ch.own t.rep [hv (upd θ s.nxt u) e.1] d]
    rw [show hv (upd θ s.nxt u) e.1 = hv θ e.1 from hv_same Same.upd hok.1]
theorem copyRow_ent {r : Row} {q : (k : IntKind) × List Int} {h : Hdr} (hq : copyRow r = some q) : r.ent h = (h, r.ver, .own (.sl r.E (.int q.1)) q.2) := by
  obtain ⟨ver, E, t, xs, rest⟩ := r
  unfold copyRow at hq
  split at hq
  · rename_i k xs' h1 h2
    obtain rfl := Option.some.inj hq
    subst h1
    obtain rfl := eq_of_heq h2
    rfl
  · cases hq
theorem sCopy_ok (hT : TTok P tt) {T U : TypeId} (ho : o.op = .call { callee := .builtin .copy, args := #[x, y], argTypes := #[T, U] }) (h : sCopy tt s k T x y = some res) : Oks P w0 s o k res := by
  obtain ⟨d, hd, h⟩ := bind_some h
  obtain ⟨E, hE, h⟩ := bind_some h
  obtain ⟨e, he, h⟩ := bind_some h
  obtain ⟨hn, h⟩ := chkT_ok h
  have hn : e.n = 1 := Nat.eq_of_beq_eq_true hn
  obtain ⟨xv, hx, h⟩ := bind_some h
  obtain ⟨c, hc, h⟩ := bind_some h
  obtain ⟨r, hr, h⟩ := bind_some h
  obtain ⟨hver, h⟩ := chkT_ok h
  rw [Bool.and_eq_true] at hver
  have hrE : r.E = E := Nat.eq_of_beq_eq_true hver.1
  obtain ⟨q, hq, h⟩ := bind_some h
  obtain ⟨yv, hy, h⟩ := bind_some h
  obtain ⟨hp, -⟩ := rowOf_ok hr
  have hent := copyRow_ent (h := c.h) hq
  rw [hent, hrE] at hp
  have hTe := (hT.get hd).el E hE
  have hsz : (P.info? E).map (·.size) = some 1 := by have := (hT.get he).ti; rw [hn] at this; exact ti_one this
  have hto : ∀ J θ, Fine P w0 J θ s → (evL (envL θ s) x = hv θ c.h ∧ c.lo.toNat = 0) ∨ evL (envL θ s) x = subV (hv θ c.h) c.lo.toNat q.2.length 1 := by
    intro J θ hf
    unfold copyTo at hc
    split at hc
    · obtain rfl := Option.some.inj hc
      exact .inl ⟨opd_ev hx, rfl⟩
    · rename_i hh ver' E' t' xs' l
      obtain rfl := Option.some.inj hc
      have hv2 : ver' = r.ver := Nat.eq_of_beq_eq_true (by simpa using hver.2)
      have h1 := sub_row hr hv2.symm (opd_ok hf hx)
      rw [hent] at h1
      have h2 : (Chk.own (.sl r.E (.int q.1)) q.2) = Chk.own (.sl E' t') xs' := (Prod.mk.inj (Prod.mk.inj h1).2).2
      injection h2 with h3 h4
      injection h3 with h5 h6
      subst h6
      obtain rfl := eq_of_heq h4
      right
      rw [opd_ev (θ := θ) hx]
      rfl
    · cases hc
  unfold sCopyI at h
  split at h
  · rename_i hh E' k2 ys
    obtain ⟨hk, h⟩ := chkT_ok h
    have hk : q.1 = k2 := by simpa using hk
    subst hk
    obtain ⟨u, hlo, h⟩ := bind_some h
    have hlo := chk_some hlo
    rw [hrE] at h
    refine ⟨_, h, good_upd (e := (c.h, r.ver, .own (.sl E (.int q.1)) q.2)) hp rfl fun J θ hf => ?_⟩
    have l1 : c.lo.toNat ≤ q.2.length := by omega
    exact opT_copy_rd (lo := c.lo.toNat) (opd_ok hf hy).2 hTe hsz ho rfl (opd_ev hy) l1 (hto J θ hf)
  · rename_i h2 v2 E' t' xs' hi
    obtain ⟨hk, h9⟩ := chkT_ok h
    clear h
    rw [Bool.and_eq_true] at hk
    have e1 := Hdr.beq_eq hk.1
    subst e1
    have e2 : v2 = r.ver := Nat.eq_of_beq_eq_true hk.2
    subst e2
    obtain ⟨u, hlo, h9⟩ := bind_some h9
    have hlo := chk_some hlo
    obtain ⟨u, hhi, h9⟩ := bind_some h9
    have hhi := chk_some hhi
    have l1 : c.lo.toNat ≤ q.2.length := by omega
    have l2 : hi.toNat ≤ q.2.length := by omega
    rw [hrE] at h9
    refine ⟨_, h9, good_upd (e := (c.h, r.ver, .own (.sl E (.int q.1)) q.2)) hp rfl fun J θ hf => ?_⟩
    have hyo : c.h.id < s.nxt ∧ (0 ≤ hi ∧ hi ≤ (xs'.length : Int)) ∧ Mem s.chs s.nxt c.h r.ver (.own (.sl E' t') xs') := opd_ok hf hy
    have h1 : (Chk.own (.sl E (.int q.1)) q.2) = Chk.own (.sl E' t') xs' := hyo.2.2.2 (c.h, r.ver, .own (.sl E (.int q.1)) q.2) (hp.mem_iff.2 (by simp)) _ ⟨rfl, .inl ⟨rfl, rfl⟩⟩
    injection h1 with h3 h4
    injection h3 with h5 h6
    subst h6
    obtain rfl := eq_of_heq h4
    exact opT_copy_self (lo := c.lo.toNat) (hi := hi.toNat) hTe hsz ho rfl ((opd_ev hy).trans rfl) l1 l2 (hto J θ hf)
  · cases h
inductive All2 {α β : Type} (p : α → β → Prop) : List α → List β → Prop
  | nil : All2 p [] []
  | cons {a : α} {b : β} {l : List α} {m : List β} (h : p a b) (k : All2 p l m) : All2 p (a :: l) (b :: m)
theorem All2.length_eq {α β : Type} {p : α → β → Prop} {l : List α} {m : List β} (h : All2 p l m) : l.length = m.length := by
  induction h with
  | nil => rfl
  | cons _ _ ih => rw [List.length_cons, List.length_cons, ih]
/-- a row's cells, as they are -/
theorem els_raw {α : Type} {R : Rep α} (hR : R.Sh) (h1 : R.size = 1) {I : Hp} {w : World} : ∀ {xs : List α} {cur : List Value} {K : List Nat}, OwnEls R I w cur xs K → ∃ ps : List Raw, K = [] ∧ OwnEls rRaw I w cur ps [] ∧ All2 (fun p x => R.rd I [p.1] x) ps xs
  | [], cur, K, h => ⟨[], h, rfl, .nil⟩
  | x :: xs, cur, K, ⟨c, rest, G, K1, e1, e2, e3, e4, e5⟩ => by
    obtain ⟨rfl, hrd⟩ := hR e4
    obtain ⟨p, rfl⟩ := List.length_eq_one_iff.1 (e2.trans h1)
    obtain ⟨ps, rfl, k2, k3⟩ := els_raw hR h1 e5
    exact ⟨⟨p, R.rd_one hrd p (by simp)⟩ :: ps, e3, ⟨[p], rest, [], [], e1, rfl, rfl, ⟨rfl, rfl⟩, k2⟩, .cons hrd k3⟩
theorem raw_els {α : Type} {R : Rep α} (hC : Cpy R R) (h1 : R.size = 1) {I : Hp} {w : World} : ∀ {xs : List α} {ps : List Raw} {cur : List Value} {K : List Nat}, OwnEls rRaw I w cur ps K → All2 (fun p x => R.rd I [p.1] x) ps xs → K = [] ∧ OwnEls R I w cur xs []
  | [], [], cur, K, h, _ => ⟨h, rfl⟩
  | x :: xs, p :: ps, cur, K, h, hh => by
    obtain ⟨c, rest, G, K1, e1, e2, e3, e4, e5⟩ := h
    cases hh with
    | cons hp hps =>
      obtain ⟨rfl, e4⟩ := e4
      obtain rfl : c = [p.1] := e4
      obtain ⟨rfl, k⟩ := raw_els hC h1 e5 hps
      exact ⟨e3, [p.1], rest, [], [], e1, h1.symm, rfl, hC hp, k⟩
  | [], _ :: _, _, _, _, hh => by cases hh
  | _ :: _, [], _, _, _, hh => by cases hh
theorem row_raw {α : Type} {E : TypeId} {R : Rep α} (hR : R.Sh) (h1 : R.size = 1) {I : Hp} {w : World} {C : List Ch} {v : Value} {xs : List α} (h : St I w0 w (Ch.own (rSlice E R) [v] xs :: C)) : ∃ ps : List Raw, All2 (fun p x => R.rd I [p.1] x) ps xs ∧ St I w0 w (Ch.own (rSlice E rRaw) [v] ps :: C) := by
  obtain ⟨a1, a2, F, ⟨G, K, rfl, ⟨hl, k⟩, e⟩, a4, a5⟩ := h
  rcases k with ⟨hv', rfl, rfl⟩ | ⟨g, ofs, cap, cur, K1, hv', k1, k2, k3, k4, rfl, k5⟩
  · exact ⟨[], .nil, a1, a2, [] ++ K, ⟨[], K, rfl, ⟨Nat.zero_le _, .inl ⟨hv', rfl, rfl⟩⟩, e⟩, a4, a5⟩
  · obtain ⟨ps, rfl, q1, q2⟩ := els_raw hR h1 k5
    have hlen := q2.length_eq
    exact ⟨ps, q2, a1, a2, [g] ++ K, ⟨[g], K, rfl, ⟨by rw [hlen]; exact hl, .inr ⟨g, ofs, cap, cur, [], by rw [hlen]; exact hv', k1, by rw [hlen]; exact k2, k3, by rw [h1] at k4; exact k4, rfl, q1⟩⟩, e⟩, a4, a5⟩
theorem raw_row {α : Type} {E : TypeId} {R : Rep α} (hC : Cpy R R) (h1 : R.size = 1) {I : Hp} {w : World} {C : List Ch} {v : Value} {xs : List α} {ps : List Raw} (hp : All2 (fun p x => R.rd I [p.1] x) ps xs) (h : St I w0 w (Ch.own (rSlice E rRaw) [v] ps :: C)) : St I w0 w (Ch.own (rSlice E R) [v] xs :: C) := by
  obtain ⟨a1, a2, F, ⟨G, K, rfl, ⟨hl, k⟩, e⟩, a4, a5⟩ := h
  have hlen := hp.length_eq
  rcases k with ⟨hv', rfl, rfl⟩ | ⟨g, ofs, cap, cur, K1, hv', k1, k2, k3, k4, rfl, k5⟩
  · cases hp
    exact ⟨a1, a2, [] ++ K, ⟨[], K, rfl, ⟨Nat.zero_le _, .inl ⟨hv', rfl, rfl⟩⟩, e⟩, a4, a5⟩
  · obtain ⟨rfl, q1⟩ := raw_els hC h1 k5 hp
    exact ⟨a1, a2, [g] ++ K, ⟨[g], K, rfl, ⟨by rw [← hlen]; exact hl, .inr ⟨g, ofs, cap, cur, [], by rw [← hlen]; exact hv', k1, by rw [← hlen]; exact k2, k3, by rw [h1]; exact k4, rfl, q1⟩⟩, e⟩, a4, a5⟩
theorem rd_raw {α : Type} {E : TypeId} {R : Rep α} (h1 : R.size = 1) {I : Hp} {v : Value} {xs : List α} (h : (rSlice E R).rd I [v] xs) : ∃ ps : List Raw, All2 (fun p x => R.rd I [p.1] x) ps xs ∧ (rSlice E rRaw).rd I [v] ps := by
  obtain ⟨ao, cap, e, hl, h⟩ := h
  obtain rfl : v = .slice ao xs.length cap := by simpa using e
  rcases h with rfl | ⟨b, off, ccs, t, fr, rfl, h2, h3⟩
  · exact ⟨[], .nil, ao, cap, rfl, hl, .inl rfl⟩
  · have key : ∀ (xs : List α) (k0 : Nat), (∀ i x, xs[i]? = some x → ∃ c : List Value, c.length = R.size ∧ (∀ j, j < R.size → ccs.toList[off + (k0 + i) * R.size + j]? = c[j]?) ∧ R.rd I c x) → ∃ ps : List Raw, All2 (fun p x => R.rd I [p.1] x) ps xs ∧ ∀ i p, ps[i]? = some p → ccs.toList[off + (k0 + i)]? = some p.1 := by
      intro xs
      induction xs with
      | nil => intro k0 _; exact ⟨[], .nil, fun i p hp => by simp at hp⟩
      | cons x xs ih =>
        intro k0 h
        obtain ⟨c, e1, e2, e3⟩ := h 0 x rfl
        obtain ⟨p, rfl⟩ := List.length_eq_one_iff.1 (e1.trans h1)
        obtain ⟨ps, q1, q2⟩ := ih (k0 + 1) fun i y hy => by
          have := h (i + 1) y (by simpa using hy)
          rwa [show k0 + (i + 1) = k0 + 1 + i from by omega] at this
        refine ⟨⟨p, R.rd_one e3 p (by simp)⟩ :: ps, .cons e3 q1, fun i u hu => ?_⟩
        cases i with
        | zero =>
          obtain rfl : ⟨p, R.rd_one e3 p (by simp)⟩ = u := by simpa using hu
          have := e2 0 (by rw [h1]; exact Nat.one_pos)
          rw [h1, Nat.mul_one, Nat.add_zero] at this
          rw [Nat.add_zero] at this ⊢
          exact this
        | succ i =>
          have := q2 i u (by simpa using hu)
          rwa [show k0 + 1 + i = k0 + (i + 1) from by omega] at this
    obtain ⟨ps, q1, q2⟩ := key xs 0 (fun i x hx => by rw [Nat.zero_add]; exact h3 i x hx)
    have hlen := q1.length_eq
    refine ⟨ps, q1, _, cap, by rw [hlen], by rw [hlen]; exact hl, .inr ⟨b, off, ccs, t, fr, rfl, h2, fun i p hp => ?_⟩⟩
    have k1 := q2 i p hp
    refine ⟨[p.1], rfl, fun j hj => ?_, rfl⟩
    have hj : j = 0 := by have : j < 1 := hj; omega
    subst hj
    rw [Nat.zero_add] at k1
    show ccs.toList[off + i * 1 + 0]? = _
    rw [Nat.mul_one, Nat.add_zero]
    exact k1
theorem forall2_drop {α β : Type} {p : α → β → Prop} : ∀ {xs : List α} {ys : List β} (n : Nat), All2 p xs ys → All2 p (xs.drop n) (ys.drop n)
  | _, _, 0, h => h
  | _, _, n + 1, .nil => .nil
  | _, _, n + 1, .cons _ h => forall2_drop n h
theorem appI_nil {α : Type} {b : Nat} {xs zs : List α} (h : appI b [] xs = some zs) : zs = xs ∧ (∀ {β : Type} (ys : List β), ys.length = xs.length → appI b [] ys = some ys) := by
  obtain ⟨h1, h2⟩ := appI_some h
  refine ⟨h1, fun ys hy => ?_⟩
  unfold appI
  rw [if_pos (by rw [hy]; exact h2)]; rfl
theorem clone_own {E' : TypeId} {α : Type} {R : Rep α} (hR : R.Sh) (hC : Cpy R R) (h1 : R.size = 1) {kf : FuncId} {E b : Nat} (hcl : CloneOk P kf E b) {xs zs : List α} {l : Nat} (hl : l ≤ xs.length) (hz : appI b [] (xs.drop l) = some zs) {v u : Value} (hu : u = subV v l xs.length 1 ∨ (l = 0 ∧ u = v)) {ts : Array TypeId} {J : Hp} {θ : Th} (ho : o.op = .call { callee := .value (.func kf), args := #[x], argTypes := ts }) {ev : Operand → Value} (hev : ev x = u) (hevf : ev (.func kf) = .func (.func kf) #[] #[]) :
    OpT P J w0 o ev [Ch.own (rSlice E' R) [v] xs] (fun _ => True) (fun r => [Ch.own (rSlice E' R) [v] xs, Ch.own (rSlice E R) [r] zs]) := by
  obtain ⟨rfl, happ⟩ := appI_nil hz
  intro w C hs
  obtain ⟨ps, hp, hs1⟩ := row_raw hR h1 hs
  have hlen := hp.length_eq
  have h2 : OpT P J w0 o ev ([Ch.own (rSlice E' rRaw) [v] ps] ++ []) (fun _ => True) (fun r => [Ch.own (rSlice E' rRaw) [v] ps] ++ [Ch.own (rSlice E rRaw) [r] (ps.drop l)]) := by
    refine OpT_lend (fun v => ⟨dp_own (dp_slice dp_raw), trivial⟩) fun J' hJ hrd hbl => ?_
    have hr := hrd (rSlice E' rRaw) [v] ps (by simp)
    have hr2 : (rSlice E' rRaw).rd J' [u] (ps.drop l) := by
      rcases hu with rfl | ⟨rfl, rfl⟩
      · rw [← hlen]
        exact rd_sub_l hr (by omega) rfl
      · exact hr
    exact opT_call hcl.1 ho hevf (by simp [hev]) (hcl.2 E' J' w0 u (ps.drop l) (ps.drop l) hr2 (happ _ (by rw [List.length_drop, List.length_drop, hlen])))
  have := h2 w C (by simpa using hs1)
  refine this.imp fun r w' hr => ⟨trivial, ?_⟩
  have h3 : St J w0 w' (Ch.own (rSlice E' rRaw) [v] ps :: Ch.own (rSlice E rRaw) [r] (ps.drop l) :: C) := by simpa using hr.2
  have h4 := raw_row hC h1 hp h3
  have h5 := raw_row hC h1 (forall2_drop l hp) (h4.perm (List.Perm.swap _ _ _))
  exact h5.perm (List.Perm.swap _ _ _)
theorem clone_rd {E' : TypeId} {α : Type} {R : Rep α} (hC : Cpy R R) (h1 : R.size = 1) {kf : FuncId} {E b : Nat} (hcl : CloneOk P kf E b) {xs zs : List α} (hz : appI b [] xs = some zs) {v : Value} {ts : Array TypeId} {J : Hp} (hr : (rSlice E' R).rd J [v] xs) (ho : o.op = .call { callee := .value (.func kf), args := #[x], argTypes := ts }) {ev : Operand → Value} (hev : ev x = v) (hevf : ev (.func kf) = .func (.func kf) #[] #[]) :
    OpT P J w0 o ev [] (fun _ => True) (fun r => [Ch.own (rSlice E R) [r] zs]) := by
  obtain ⟨rfl, happ⟩ := appI_nil hz
  obtain ⟨ps, hp, hr2⟩ := rd_raw h1 hr
  have := opT_call (P := P) (w0 := w0) (o := o) hcl.1 ho hevf (by simp [hev]) (hcl.2 E' J w0 v ps ps hr2 (happ _ hp.length_eq))
  exact OpT.post this fun r w C _ hs => ⟨trivial, raw_row hC h1 hp hs⟩
theorem good_row1 {e : Ent} {rest : List Ent} {E : TypeId} {t : Ty} {xs : List t.den} (hp : s.chs.Perm (e :: rest)) (hop : ∀ J θ, Fine P w0 J θ s → OpT P J w0 o (evL (envL θ s)) [toCh P θ e] (fun _ => True) (fun v => [toCh P θ e, Ch.own (Ty.sl E t).rep [v] xs])) : Good P w0 s o ⟨[e], [], rest, [(⟨s.nxt, []⟩, .own (.sl E t) xs)], .one (.own ⟨s.nxt, []⟩)⟩ :=
  good_row (rs := [e]) (ns := []) hp fun J θ hf => fun w C hs => (hop J θ hf w C hs).imp fun v w hv => ⟨hv.1, hv.2.perm ((List.Perm.swap _ _ _).append_right C)⟩
theorem sClone_ok {kf : FuncId} {E b : Nat} (hcl : CloneOk P kf E b) {ts : Array TypeId} (ho : o.op = .call { callee := .value (.func kf), args := #[x], argTypes := ts }) (h : sClone s k E b x = some res) : Oks P w0 s o k res := by
  unfold sClone at h
  split at h
  · rename_i hh ver E' t xs l hx
    obtain ⟨r, hr, h⟩ := bind_some h
    obtain ⟨hc, h⟩ := chkT_ok h
    rw [Bool.and_eq_true, Bool.and_eq_true] at hc
    have hver := Nat.eq_of_beq_eq_true hc.1
    have hsz : t.size = 1 := Nat.eq_of_beq_eq_true hc.2.2
    obtain ⟨zs, hz, h⟩ := bind_some h
    obtain ⟨hp, -⟩ := rowOf_ok hr
    refine ⟨_, h, good_row1 hp fun J θ hf => ?_⟩
    have hxo := opd_ok hf hx
    have he := sub_row hr hver hxo
    rw [he]
    refine clone_own (Ty.sh_ok hc.2.1) (Ty.cpy hc.2.1) (t.rep_size.trans hsz) hcl (l := l.toNat) (by have := hxo.2.1; omega) hz (.inl ?_) (J := J) (θ := θ) ho rfl rfl
    rw [← hsz]
    exact opd_ev hx
  · rename_i hh hx
    obtain ⟨r, hr, h⟩ := bind_some h
    obtain ⟨hc, h⟩ := chkT_ok h
    rw [Bool.and_eq_true] at hc
    have hsz : r.t.size = 1 := Nat.eq_of_beq_eq_true hc.2
    obtain ⟨zs, hz, h⟩ := bind_some h
    obtain ⟨hp, -⟩ := rowOf_ok hr
    refine ⟨_, h, good_row1 hp fun J θ hf => ?_⟩
    exact clone_own (Ty.sh_ok hc.1) (Ty.cpy hc.1) (r.t.rep_size.trans hsz) hcl (l := 0) (Nat.zero_le _) (by simpa using hz) (.inr ⟨rfl, opd_ev hx⟩) (J := J) (θ := θ) ho rfl rfl
  · rename_i hh E' t xs hx
    obtain ⟨hc, h⟩ := chkT_ok h
    rw [Bool.and_eq_true] at hc
    have hsz : t.size = 1 := Nat.eq_of_beq_eq_true hc.2
    obtain ⟨zs, hz, h⟩ := bind_some h
    exact ⟨_, h, good_row (rs := []) (ns := []) (List.Perm.refl _) fun J θ hf => clone_rd (Ty.cpy hc.1) (t.rep_size.trans hsz) hcl hz (opd_ok hf hx).2 ho (opd_ev hx) rfl⟩
  · cases h
end
end Go.Proofs.YtimjccbdngajoaaGreat.R
/- Boxes opened; trees frozen: what turns in a state between operations. No program text is named here. -/
set_option linter.unusedVariables false
set_option linter.unusedSimpArgs false
set_option linter.unnecessarySimpa false
set_option linter.unusedSectionVars false
namespace Go.Proofs.YtimjccbdngajoaaGreat.R
open Go.RowKit
open Go.Proofs.YtimjccbdngajoaaGreat.D

/-! ### What stays -/
structure Fr (s : Sg) (θ : Th) (s' : Sg) (θ' : Th) : Prop where
  le : s.nxt ≤ s'.nxt
  same : Same s.nxt θ θ'
  env : ∀ e ∈ s'.env, e.2.1 < s.nxt → e ∈ s.env
  chs : Newer s.nxt s.chs s'.chs
section
variable {s s1 s2 : Sg} {θ θ1 θ2 : Th}
theorem Fr.rfl : Fr s θ s θ := ⟨Nat.le_refl _, Same.rfl, fun e he _ => he, Newer.rfl⟩
theorem Fr.trans (h : Fr s θ s1 θ1) (k : Fr s1 θ1 s2 θ2) : Fr s θ s2 θ2 :=
  ⟨Nat.le_trans h.le k.le, h.same.trans k.same h.le, fun e he hv => h.env e (k.env e he (Nat.lt_of_lt_of_le hv h.le)) hv, fun e he h' ver c hs => by
    rcases k.chs e he h' ver c hs with h1 | ⟨e1, he1, hs1⟩
    · exact .inl (Nat.le_trans h.le h1)
    · exact h.chs e1 he1 h' ver c hs1⟩
theorem Fr.put {d : Option Nat} {v : AV} {chs : List Ent} (hs : Same s.nxt θ θ1) (hc : Newer s.nxt s.chs chs) : Fr s θ ⟨putE d s.nxt v s.env, chs, s.nxt + 1⟩ θ1 :=
  ⟨Nat.le_succ _, hs, fun e he hv => by
    rcases mem_putE he with h | h
    · rw [h.2] at hv; exact absurd hv (Nat.lt_irrefl _)
    · exact h, hc⟩
end

/-! ### Slots that lead elsewhere -/
def replE (p : AV → Bool) (x : AV) : Nat → List (Nat × Nat × AV) → List (Nat × Nat × AV)
  | _, [] => []
  | k, e :: l => (match p e.2.2 with
    | true => (e.1, k, x)
    | false => e) :: replE p x (k + 1) l
section
variable {P : Program} {I J J' : Hp} {w0 w : World} {F : Ch} {n : Nat} {θ θ' : Th} {s : Sg} {a : Act}
theorem replE_mem {p : AV → Bool} {x : AV} {e : Nat × Nat × AV} : ∀ {l : List (Nat × Nat × AV)} {k : Nat}, e ∈ replE p x k l → (e ∈ l) ∨ (e.2.2 = x ∧ k ≤ e.2.1 ∧ e.2.1 < k + l.length ∧ ∃ e0 ∈ l, e0.1 = e.1 ∧ p e0.2.2 = true)
  | [], k, h => by cases h
  | e0 :: l, k, h => by
    rcases List.mem_cons.1 h with h | h
    · cases hp : p e0.2.2 with
      | true => rw [hp] at h; subst h; exact .inr ⟨rfl, Nat.le_refl _, by show k < k + (l.length + 1); omega, e0, by simp, rfl, hp⟩
      | false => rw [hp] at h; subst h; exact .inl (by simp)
    · rcases replE_mem h with h | ⟨h1, h2, h3, e1, h4, h5⟩
      · exact .inl (by simp [h])
      · exact .inr ⟨h1, by omega, by rw [List.length_cons]; omega, e1, by simp [h4], h5⟩
theorem replE_nd {p : AV → Bool} {x : AV} : ∀ {l : List (Nat × Nat × AV)} {k : Nat}, l.Pairwise (fun a b => a.2.1 ≠ b.2.1) → (∀ e ∈ l, e.2.1 < k) → (replE p x k l).Pairwise fun a b => a.2.1 ≠ b.2.1
  | [], _, _, _ => List.Pairwise.nil
  | e0 :: l, k, h, hk => by
    obtain ⟨h1, h2⟩ := List.pairwise_cons.1 h
    refine List.pairwise_cons.2 ⟨fun e he => ?_, replE_nd h2 fun e he => Nat.lt_succ_of_lt (hk e (by simp [he]))⟩
    have h0 := hk e0 (by simp)
    rcases replE_mem he with he | ⟨-, k2, -, -⟩
    · cases hp : p e0.2.2 with
      | true =>
        have := hk e (by simp [he])
        show k ≠ e.2.1
        omega
      | false => exact h1 e he
    · cases hp : p e0.2.2 with
      | true => show k ≠ e.2.1; omega
      | false => show e0.2.1 ≠ e.2.1; omega
theorem replE_envL {p : AV → Bool} {x : AV} : ∀ {l : List (Nat × Nat × AV)} {k : Nat}, (∀ e ∈ l, e.2.2.v θ' = e.2.2.v θ) → (∀ e ∈ l, p e.2.2 = true → x.v θ' = e.2.2.v θ) → (replE p x k l).map (fun e => (e.1, e.2.2.v θ')) = l.map fun e => (e.1, e.2.2.v θ)
  | [], _, _, _ => rfl
  | e0 :: l, k, h, hp => by
    rw [replE, List.map_cons, List.map_cons, replE_envL (fun e he => h e (by simp [he])) fun e he => hp e (by simp [he])]
    congr 1
    cases hq : p e0.2.2 with
    | true => show (e0.1, x.v θ') = _; rw [hp e0 (by simp) hq]
    | false => show (e0.1, e0.2.2.v θ') = _; rw [h e0 (by simp)]
/-- other entries, a greater frozen part, slots that lead elsewhere -/
theorem Sim.repl {p : AV → Bool} {x : AV} {chs' : List Ent} (hS : Sim P I w0 F n J θ s a w) (hs : Same s.nxt θ θ') (hJ : J.le J') (hst : St J' w0 w (chs'.map (toCh P θ') ++ [F])) (hn : Newer s.nxt s.chs chs') (hok : ∀ e ∈ chs', okE P w0 J' θ' (s.nxt + 1) chs' e)
    (hx : x.ok P w0 J' θ' (s.nxt + 1) chs') (hp : ∀ e ∈ s.env, p e.2.2 = true → x.v θ' = e.2.2.v θ) : Sim P I w0 F n J' θ' ⟨replE p x (s.nxt + 1) s.env, chs', s.nxt + 1 + s.env.length⟩ a w ∧ Fr s θ ⟨replE p x (s.nxt + 1) s.env, chs', s.nxt + 1 + s.env.length⟩ θ' := by
  have hle : s.nxt + 1 ≤ s.nxt + 1 + s.env.length := Nat.le_add_right _ _
  refine ⟨⟨hS.le.trans hJ, ?_, hst, fun e he => ?_, fun e he => ?_, replE_nd hS.fine.nd fun e he => Nat.lt_succ_of_lt (hS.fine.ver e he), fun e he => okE_same Same.rfl hle Newer.rfl (hok e he) Hp.le.rfl⟩, by show s.nxt ≤ s.nxt + 1 + s.env.length; omega, hs, fun e he hv => ?_, hn⟩
  · have : envL θ' ⟨replE p x (s.nxt + 1) s.env, chs', s.nxt + 1 + s.env.length⟩ = envL θ s := replE_envL (fun e he => AV.v_same hs (hS.fine.env e he)) hp
    rw [this]; exact hS.agr
  · rcases replE_mem he with he | ⟨h1, -⟩
    · exact AV.ok_same hs (by show s.nxt ≤ s.nxt + 1 + s.env.length; omega) hn (hS.fine.env e he) hJ
    · rw [h1]; exact AV.ok_same Same.rfl hle Newer.rfl hx Hp.le.rfl
  · rcases replE_mem he with he | ⟨-, h2, h3, -⟩
    · have := hS.fine.ver e he
      show e.2.1 < s.nxt + 1 + s.env.length
      omega
    · exact h3
  · rcases replE_mem he with he | ⟨-, h2, -⟩
    · exact he
    · exfalso; omega
end

/-! ### Boxes opened -/
def openH (h : Hdr) (s : Sg) : Option Sg := (pull h s.chs).bind fun r => match r.1.2.2 with
  | .box T t d => some ⟨s.env, (h, s.nxt, .blk T (cellsOwn s.nxt (fun j => [j]) t d 0)) :: ((chsOwn s.nxt (fun j => [j]) t d 0).map (fun g => (g.1, s.nxt, g.2)) ++ r.2), s.nxt + 1⟩
  | _ => none
section
variable {P : Program} {I J : Hp} {w0 w : World} {F : Ch} {n : Nat} {θ : Th} {s s' : Sg} {a : Act} {h : Hdr}
theorem openH_ok (hs : openH h s = some s') (hS : Sim P I w0 F n J θ s a w) : ∃ θ', Sim P I w0 F n J θ' s' a w ∧ Fr s θ s' θ' := by
  obtain ⟨r, hr, hs⟩ := bind_some hs
  obtain ⟨p, k⟩ := pull_ok hr
  obtain ⟨⟨h2, ver, c⟩, rest⟩ := r
  obtain rfl : h2 = h := k
  cases c with
  | box T t d =>
    obtain rfl := Option.some.inj (show some _ = some s' from hs)
    have hok := hS.fine.chs _ (p.mem_iff.2 (List.mem_cons_self ..))
    have h0 := hS.st.perm ((p.map (toCh P θ)).append_right [F])
    have h1 : St J w0 w (Ch.box (bk (hv θ h2)) T t.rep d :: (rest.map (toCh P θ) ++ [F])) := h0
    obtain ⟨cells, h1⟩ := St.box.1 h1
    let θ' := upd θ s.nxt (.agg cells.toArray)
    have hsame : Same s.nxt θ θ' := Same.upd
    have h3 := h1.perm (List.Perm.swap _ _ _)
    obtain ⟨k1, k2, k3, k4⟩ := cellsOwn_fine (P := P) (m := s.nxt) (θ := θ') (pth := fun j => [j]) (n := s.nxt + 1) (Nat.lt_succ_self _) t d 0 cells _ (fun i v hv' => by
      show vg (upd θ s.nxt (.agg cells.toArray) s.nxt) [0 + i] = v
      rw [upd_self, Nat.zero_add]
      exact vg_agg (by simpa using hv')) h3
    have hmem : ∀ e, e ∈ rest → e ∈ s.chs := fun e he => p.mem_iff.2 (List.mem_cons_of_mem _ he)
    have hnew : Newer s.nxt s.chs ((h2, s.nxt, .blk T (cellsOwn s.nxt (fun j => [j]) t d 0)) :: ((chsOwn s.nxt (fun j => [j]) t d 0).map (fun g => (g.1, s.nxt, g.2)) ++ rest)) := fun e he h' ver' c hs' => by
      rcases List.mem_cons.1 he with rfl | he
      · obtain ⟨rfl, hs'⟩ := hs'
        rcases hs' with ⟨h1, -⟩ | hs'
        · exact .inl (Nat.le_of_eq h1)
        · exact hs'.elim
      · rcases List.mem_append.1 he with he | he
        · obtain ⟨g, hg, rfl⟩ := List.mem_map.1 he
          rcases hs'.2 with ⟨h1, -⟩ | hs'
          · exact .inl (Nat.le_of_eq h1)
          · exact (easy_says (chsOwn_easy t d 0 g hg) hs').elim
        · exact .inr ⟨e, hmem e he, hs'⟩
    refine ⟨θ', ⟨hS.le, ?_, ?_, fun e he => AV.ok_same hsame (Nat.le_succ _) hnew (hS.fine.env e he) Hp.le.rfl, fun e he => Nat.lt_succ_of_lt (hS.fine.ver e he), hS.fine.nd, fun e he => ?_⟩, Nat.le_succ _, hsame, fun e he _ => he, hnew⟩
    · show Agr n a (envL θ' s)
      rw [envL_same hsame hS.fine.env]; exact hS.agr
    · rw [List.map_cons, List.map_append, List.map_map]
      have e1 : toCh P θ' (h2, s.nxt, Chk.blk T (cellsOwn s.nxt (fun j => [j]) t d 0)) = Ch.blk (bk (hv θ h2)) cells T := by
        show Ch.blk (bk (hv θ' h2)) ((cellsOwn s.nxt (fun j => [j]) t d 0).map (·.v θ')) T = _
        rw [k2, hv_same hsame hok.1]
      rw [e1, map_toCh_same hsame fun e he => hS.fine.chs e (hmem e he)]
      have := k4.perm (List.perm_middle (l₁ := (chsOwn s.nxt (fun j => [j]) t d 0).map fun g => toCh P θ' (g.1, s.nxt, g.2)))
      rw [List.cons_append, List.append_assoc]
      exact this
    · rcases List.mem_cons.1 he with rfl | he
      · exact ⟨Nat.lt_succ_of_lt hok.1, Nat.lt_succ_self _, k1⟩
      · rcases List.mem_append.1 he with he | he
        · obtain ⟨g, hg, rfl⟩ := List.mem_map.1 he
          exact easy_ok (chsOwn_easy t d 0 g hg) (by rw [k3 g hg]; exact Nat.lt_succ_self _) (Nat.lt_succ_self _)
        · exact okE_same hsame (Nat.le_succ _) hnew (hS.fine.chs e (hmem e he)) Hp.le.rfl
  | _ => cases hs
end
def boxHdrs : List Ent → List Hdr
  | [] => []
  | (h, _, .box _ _ _) :: l => h :: boxHdrs l
  | _ :: l => boxHdrs l
def openL : List Hdr → Sg → Sg
  | [], s => s
  | h :: hs, s => openL hs (match openH h s with
    | some s' => s'
    | none => s)
def openA (s : Sg) : Sg := openL (boxHdrs s.chs) s

/-! ### Trees frozen -/
def isOwnH (h : Hdr) : AV → Bool
  | .one (.own h') => Hdr.beq h' h
  | _ => false
def isPtrH (h : Hdr) : AV → Bool
  | .one (.ptr h' off) => Hdr.beq h' h && Nat.beq off 0
  | _ => false
abbrev Trs := List (TypeId × TypeId × Ty)
def trOf (l : Trs) (T : TypeId) : Option (TypeId × Ty) := match l with
  | [] => none
  | (U, x) :: l => if Nat.beq U T then some x else trOf l T
/-- a tree of the function's own -/
def frzOwn (h : Hdr) (s : Sg) : Option Sg := (pull h s.chs).bind fun r => match r.1.2.2 with
  | .own (.tree T E t) d => some ⟨replE (isOwnH h) (.one (.rd h (.tree T E t) d)) (s.nxt + 1) s.env, r.2, s.nxt + 1 + s.env.length⟩
  | _ => none
def kidsOf (T E : TypeId) (t : Ty) (x : LV) (chs : List Ent) : Option (List (Tr t.den) × List Ent × List Ent) := match x with
  | .own h => (rowOf h chs).bind fun r => (castTy (.sl r.E r.t) (.sl E (.tree T E t)) r.xs).bind fun ks => some (ks, [r.ent h], r.rest)
  | x => (lvSl E (.tree T E t) x).bind fun ks => some (ks, [], chs)
/-- a block becomes a node -/
def frzPtr (tr : Trs) (h : Hdr) (s : Sg) : Option Sg := (blkOf h s.chs).bind fun b => (trOf tr b.T).bind fun q => (rdData q.2 b.cells).bind fun a => match a.2 with
  | [kid] => (kidsOf b.T q.1 q.2 kid b.rest).bind fun ks => some ⟨replE (isPtrH h) (.one (.rd ⟨s.nxt, []⟩ (.tree b.T q.1 q.2) (.node a.1 ks.1))) (s.nxt + 1) s.env, ks.2.2, s.nxt + 1 + s.env.length⟩
  | _ => none
section
variable {P : Program} {I J : Hp} {w0 w : World} {F : Ch} {n : Nat} {θ : Th} {s s' : Sg} {a : Act} {h : Hdr}
theorem newer_sub {m : Nat} {chs chs' : List Ent} (h : ∀ e, e ∈ chs' → e ∈ chs) : Newer m chs chs' := fun e he h' ver c hs => .inr ⟨e, h e he, hs⟩
theorem frzOwn_ok (hs : frzOwn h s = some s') (hS : Sim P I w0 F n J θ s a w) : ∃ J', J.le J' ∧ Sim P I w0 F n J' θ s' a w ∧ Fr s θ s' θ := by
  obtain ⟨r, hr, hs⟩ := bind_some hs
  obtain ⟨p, k⟩ := pull_ok hr
  obtain ⟨⟨h2, ver, c⟩, rest⟩ := r
  obtain rfl : h2 = h := k
  cases c with
  | own t' d =>
    cases t' with
    | tree T E t =>
      obtain rfl := Option.some.inj (show some _ = some s' from hs)
      have hok := hS.fine.chs _ (p.mem_iff.2 (List.mem_cons_self ..))
      have h1 : St J w0 w (Ch.own (Ty.tree T E t).rep [hv θ h2] d :: (rest.map (toCh P θ) ++ [F])) := hS.st.perm ((p.map (toCh P θ)).append_right [F])
      obtain ⟨J', hJ, hrd, hst⟩ := h1.freeze
      have hmem : ∀ e, e ∈ rest → e ∈ s.chs := fun e he => p.mem_iff.2 (List.mem_cons_of_mem _ he)
      have hnew : Newer s.nxt s.chs rest := newer_sub hmem
      refine ⟨J', hJ, hS.repl Same.rfl hJ hst hnew (fun e he => okE_same Same.rfl (Nat.le_succ _) hnew (hS.fine.chs e (hmem e he)) hJ) ⟨Nat.lt_succ_of_lt hok.1, hrd⟩ fun e he hp => ?_⟩
      unfold isOwnH at hp
      split at hp
      · rename_i h' heq
        rw [heq, Hdr.beq_eq hp]; rfl
      · cases hp
    | _ => cases hs
  | _ => cases hs
theorem frzPtr_ok {tr : Trs} (hs : frzPtr tr h s = some s') (hS : Sim P I w0 F n J θ s a w) : ∃ J' θ', J.le J' ∧ Sim P I w0 F n J' θ' s' a w ∧ Fr s θ s' θ' := by
  obtain ⟨b, hb, hs⟩ := bind_some hs
  obtain ⟨⟨E, t⟩, hq, hs⟩ := bind_some hs
  obtain ⟨c, hc, hs⟩ := bind_some hs
  have p := blkOf_ok hb
  have hok := hS.fine.chs _ (p.mem_iff.2 (List.mem_cons_self ..))
  have hcells : ∀ x ∈ b.cells, x.ok P w0 J θ s.nxt := hok.2.2
  obtain ⟨c1, e1, k1⟩ := rdData_ok (J := J) (θ := θ) hc hcells
  split at hs
  · rename_i kid hkid
    obtain ⟨ks, hks, hs⟩ := bind_some hs
    obtain rfl := Option.some.inj hs
    have h0 := hS.st.perm ((p.map (toCh P θ)).append_right [F])
    have h1 : St J w0 w (Ch.blk (bk (hv θ h)) (b.cells.map (·.v θ)) b.T :: (b.rest.map (toCh P θ) ++ [F])) := h0
    have hcv : b.cells.map (·.v θ) = c1.map (·.v θ) ++ [kid.v θ] := by rw [e1, hkid, List.map_append]; rfl
    let θ' := upd θ s.nxt (.pointer (some ⟨bk (hv θ h), 0, none⟩))
    have hsame : Same s.nxt θ θ' := Same.upd
    -- the kids
    have key : ∃ J1, J.le J1 ∧ (Ty.sl E (.tree b.T E t)).rep.rd J1 [kid.v θ] ks.1 ∧ St J1 w0 w (Ch.blk (bk (hv θ h)) (b.cells.map (·.v θ)) b.T :: (ks.2.2.map (toCh P θ) ++ [F])) ∧ ∀ e, e ∈ ks.2.2 → e ∈ b.rest := by
      unfold kidsOf at hks
      split at hks
      · rename_i hk
        obtain ⟨r, hr, hks⟩ := bind_some hks
        obtain ⟨xs, hxs, hks⟩ := bind_some hks
        obtain rfl := Option.some.inj hks
        obtain ⟨pr, -⟩ := rowOf_ok hr
        have h2 : St J w0 w (Ch.own (Ty.sl r.E r.t).rep [hv θ hk] r.xs :: Ch.blk (bk (hv θ h)) (b.cells.map (·.v θ)) b.T :: (r.rest.map (toCh P θ) ++ [F])) := by
          refine (h1.perm ?_ : St J w0 w _)
          have := ((pr.map (toCh P θ)).append_right [F]).cons (Ch.blk (bk (hv θ h)) (b.cells.map (·.v θ)) b.T)
          exact this.trans (List.Perm.swap _ _ _)
        obtain ⟨J1, hJ1, hrd, hst⟩ := h2.freeze
        exact ⟨J1, hJ1, castTy_rd hxs hrd, hst, fun e he => pr.mem_iff.2 (List.mem_cons_of_mem _ he)⟩
      · obtain ⟨xs, hxs, hks⟩ := bind_some hks
        obtain rfl := Option.some.inj hks
        exact ⟨J, Hp.le.rfl, lvSl_ok hxs (hcells kid (by rw [e1, hkid]; simp)), h1, fun e he => he⟩
    obtain ⟨J1, hJ1, hk1, hst1, hm1⟩ := key
    obtain ⟨J2, hJ2, hb2, hst2⟩ := hst1.freeze_blk
    have hJ : J.le J2 := hJ1.trans hJ2
    have hmem : ∀ e, e ∈ ks.2.2 → e ∈ s.chs := fun e he => p.mem_iff.2 (List.mem_cons_of_mem _ (hm1 e he))
    have hnew : Newer s.nxt s.chs ks.2.2 := newer_sub hmem
    have hpv : hv θ' ⟨s.nxt, []⟩ = .pointer (some ⟨bk (hv θ h), 0, none⟩) := upd_self
    refine ⟨J2, θ', hJ, hS.repl hsame hJ ?_ hnew (fun e he => okE_same hsame (Nat.le_succ _) hnew (hS.fine.chs e (hmem e he)) hJ) ⟨Nat.lt_succ_self _, ?_⟩ fun e he hp => ?_⟩
    · rw [map_toCh_same hsame fun e he => hS.fine.chs e (hmem e he)]
      exact hst2
    · rw [hpv]
      rw [hcv] at hb2
      exact tree_node hb2 (Rep.rd_mono _ k1 hJ) (Rep.rd_mono _ hk1 hJ2)
    · unfold isPtrH at hp
      split at hp
      · rename_i h' off heq
        rw [Bool.and_eq_true] at hp
        rw [heq, Hdr.beq_eq hp.1, Nat.eq_of_beq_eq_true hp.2]
        exact hpv
      · cases hp
  · cases hs
end
def orS (x : Option Sg) (s : Sg) : Sg := match x with
  | some s' => s'
  | none => s
def frzL (tr : Trs) : List (Bool × Hdr) → Sg → Sg
  | [], s => s
  | (true, h) :: hs, s => frzL tr hs (orS (frzPtr tr h s) s)
  | (false, h) :: hs, s => frzL tr hs (orS (frzOwn h s) s)
section
variable {P : Program} {I J : Hp} {w0 w : World} {F : Ch} {n : Nat} {θ : Th} {s s' : Sg} {a : Act}
theorem openL_ok : ∀ {hs : List Hdr} {s : Sg} {θ : Th}, Sim P I w0 F n J θ s a w → ∃ θ', Sim P I w0 F n J θ' (openL hs s) a w ∧ Fr s θ (openL hs s) θ'
  | [], s, θ, hS => ⟨θ, hS, Fr.rfl⟩
  | h :: hs, s, θ, hS => by
    unfold openL
    split
    · rename_i s' he
      obtain ⟨θ1, S1, F1⟩ := openH_ok he hS
      obtain ⟨θ2, S2, F2⟩ := openL_ok (hs := hs) S1
      exact ⟨θ2, S2, F1.trans F2⟩
    · exact openL_ok hS
theorem openA_ok (hS : Sim P I w0 F n J θ s a w) : ∃ θ', Sim P I w0 F n J θ' (openA s) a w ∧ Fr s θ (openA s) θ' := openL_ok hS
theorem frzL_ok {tr : Trs} : ∀ {hs : List (Bool × Hdr)} {s : Sg} {J : Hp} {θ : Th}, Sim P I w0 F n J θ s a w → ∃ J' θ', J.le J' ∧ Sim P I w0 F n J' θ' (frzL tr hs s) a w ∧ Fr s θ (frzL tr hs s) θ'
  | [], s, J, θ, hS => ⟨J, θ, Hp.le.rfl, hS, Fr.rfl⟩
  | (true, h) :: hs, s, J, θ, hS => by
    unfold frzL
    cases he : frzPtr tr h s with
    | some s' =>
      obtain ⟨J1, θ1, L1, S1, F1⟩ := frzPtr_ok he hS
      obtain ⟨J2, θ2, L2, S2, F2⟩ := frzL_ok (hs := hs) S1
      exact ⟨J2, θ2, L1.trans L2, S2, F1.trans F2⟩
    | none => exact frzL_ok hS
  | (false, h) :: hs, s, J, θ, hS => by
    unfold frzL
    cases he : frzOwn h s with
    | some s' =>
      obtain ⟨J1, L1, S1, F1⟩ := frzOwn_ok he hS
      obtain ⟨J2, θ2, L2, S2, F2⟩ := frzL_ok (hs := hs) S1
      exact ⟨J2, θ2, L1.trans L2, S2, F1.trans F2⟩
    | none => exact frzL_ok hS
end
end Go.Proofs.YtimjccbdngajoaaGreat.R
/- The end of an own row pushed down over its middle, and cells made zero. No program text is named here. -/
set_option linter.unusedVariables false
set_option linter.unusedSimpArgs false
set_option linter.unnecessarySimpa false
namespace Go.Proofs.YtimjccbdngajoaaGreat.D
open Go.RowKit

section
variable {P : Program} {I J : Hp} {w0 w w' : World} {cs C : List Ch} {o : Oper} {ev : Operand → Value}
theorem els_of_rd {α : Type} {R : Rep α} (hC : Cpy R R) : ∀ {xs : List α} {cur : List Value}, (∀ i x, xs[i]? = some x → ∃ c : List Value, c.length = R.size ∧ (∀ j, j < R.size → cur[i * R.size + j]? = c[j]?) ∧ R.rd I c x) → OwnEls R I w cur xs []
  | [], cur, _ => rfl
  | x :: xs, cur, h => by
    obtain ⟨c, c1, c2, c3⟩ := h 0 x rfl
    refine ⟨c, cur.drop R.size, [], [], ?_, c1, rfl, hC c3, els_of_rd hC fun i y hy => ?_⟩
    · apply List.ext_getElem?
      intro j
      by_cases hj : j < R.size
      · have := c2 j hj
        rw [Nat.zero_mul, Nat.zero_add] at this
        rw [this, List.getElem?_append_left (by omega)]
      · rw [List.getElem?_append_right (by omega), List.getElem?_drop]; congr 1; omega
    · obtain ⟨d, d1, d2, d3⟩ := h (i + 1) y (by simpa using hy)
      refine ⟨d, d1, fun j hj => ?_, d3⟩
      rw [List.getElem?_drop, ← d2 j hj, Nat.add_mul]; congr 1; omega
/-- the elements from j on pushed down to i; what stood at the end stays there -/
def slideL {α : Type} (xs : List α) (i j : Nat) : List α := xs.take i ++ (xs.drop j ++ xs.drop (i + (xs.length - j)))
theorem slideL_length {α : Type} {xs : List α} {i j : Nat} (h1 : i ≤ j) (h2 : j ≤ xs.length) : (slideL xs i j).length = xs.length := by
  simp only [slideL, List.length_append, List.length_take, List.length_drop]; omega
theorem slideL_get {α : Type} {xs : List α} {i j k : Nat} (h1 : i ≤ j) (h2 : j ≤ xs.length) : (slideL xs i j)[k]? = if i ≤ k ∧ k < i + (xs.length - j) then xs[j + (k - i)]? else xs[k]? := by
  have hi : (xs.take i).length = i := by rw [List.length_take]; omega
  unfold slideL
  by_cases c1 : k < i
  · rw [if_neg (by omega), List.getElem?_append_left (by omega), List.getElem?_take, if_pos c1]
  · rw [List.getElem?_append_right (by omega), hi]
    by_cases c2 : k < i + (xs.length - j)
    · rw [if_pos (by omega), List.getElem?_append_left (by rw [List.length_drop]; omega), List.getElem?_drop]
    · rw [if_neg (by omega), List.getElem?_append_right (by rw [List.length_drop]; omega), List.length_drop, List.getElem?_drop]; congr 1; omega
theorem opT_append_self {α : Type} {E T : TypeId} {R : Rep α} {z : Value} {n b : Nat} {x y : Operand} {v : Value} {xs : List α} {i j : Nat} (hSh : R.Sh) (hC : Cpy R R) (hT : P.underlying T = some (.slice E)) (hE : TZ P E z n b) (hn : 0 < n) (hR : R.size = n)
    (ho : o.op = .call { callee := .builtin .append, args := #[x, y], argTypes := #[T, T] }) (hx : ev x = subV v 0 i n) (hy : ev y = subV v j xs.length n) (hij : i ≤ j) (hj : j ≤ xs.length) :
    OpT P I w0 o ev [Ch.own (rSlice E R) [v] xs] (· = subV v 0 (i + (xs.length - j)) n) (fun _ => [Ch.own (rSlice E R) [v] (slideL xs i j)]) := by
  intro w C hs
  obtain ⟨info, hi', hz, hsize, hby⟩ := info_parts hE
  obtain ⟨hb, hi, F, ⟨G, K, rfl, ⟨hl, e2⟩, e3⟩, h4, h5⟩ := hs
  rcases e2 with ⟨hv, rfl, rfl⟩ | ⟨g, ofs, cap, cur, K1, hv, k1, k2, k3, k4, rfl, k5⟩
  · obtain rfl : v = .slice none 0 0 := by simpa using hv
    obtain rfl : j = 0 := by simpa using hj
    obtain rfl : i = 0 := by omega
    have e : subV (.slice none 0 0) 0 0 n = .slice none 0 0 := by simp [subV, sliced]
    have hrun : (Builtin.append_ #[T, T] o.type #[.slice none 0 0, .slice none 0 0]).run P w = .ok (.slice none 0 0) w := run_append_none hT hi' (Nat.le_refl _)
    rw [run_call_append ho (hx.trans e) (hy.trans (by simp [subV, sliced])) hrun]
    exact ⟨by simp [subV, sliced], hb, hi, [] ++ K, ⟨[], K, rfl, ⟨Nat.zero_le _, .inl ⟨rfl, rfl, rfl⟩⟩, e3⟩, h4, h5⟩
  · obtain rfl : v = .slice (some ⟨g, ofs, none⟩) xs.length cap := by simpa using hv
    obtain rfl := k5.sh hSh
    rw [hR] at k4
    have hat := fun k x hx => k5.at Hp.le.rfl (by simp) k x hx
    rw [hR] at hat
    have hln : cur.toList.length = cur.size := Array.length_toList
    generalize hD : cur.toList.drop ofs = D at *
    have hDl : D.length = cur.size - ofs := by rw [← hD, List.length_drop, hln]
    have m1 : xs.length * n ≤ cap * n := Nat.mul_le_mul_right _ k2
    have m2 : i * n ≤ j * n := Nat.mul_le_mul_right _ hij
    have m3 : j * n + (xs.length - j) * n = xs.length * n := by rw [← Nat.add_mul]; congr 1; omega
    have m4 : (i + (xs.length - j)) * n = i * n + (xs.length - j) * n := Nat.add_mul _ _ _
    have hnl : ((D.drop (j * n)).take ((xs.length - j) * n)).length = (xs.length - j) * n := by rw [List.length_take, List.length_drop]; omega
    have hone : ∀ u ∈ (D.drop (j * n)).take ((xs.length - j) * n), u.oneCell' = true := by
      intro u hu
      obtain ⟨q, hq⟩ := List.getElem?_of_mem hu
      have hq' := (List.getElem?_eq_some_iff.1 hq).1
      rw [hnl] at hq'
      rw [List.getElem?_take, if_pos hq', List.getElem?_drop] at hq
      have hqn : (j * n + q) / n < xs.length := by
        rw [Nat.div_lt_iff_lt_mul hn]; omega
      obtain ⟨c, c1, c2, c3⟩ := hat _ _ (List.getElem?_eq_getElem hqn)
      have := c2 ((j * n + q) % n) (Nat.mod_lt _ hn)
      rw [Nat.div_add_mod', hq] at this
      exact R.rd_one c3 u (List.mem_of_getElem? this.symm)
    obtain ⟨a, c, hya, hnews⟩ : ∃ a c, ev y = .slice (some a) (xs.length - j) c ∧ ∀ q u, ((D.drop (j * n)).take ((xs.length - j) * n))[q]? = some u → w.cell? (a.add q) = some u := by
      by_cases hc : cap = j
      · refine ⟨⟨g, ofs, none⟩, cap - j, by rw [hy]; simp [subV, sliced, hc], fun q u hq => ?_⟩
        have := (List.getElem?_eq_some_iff.1 hq).1
        rw [hnl, show xs.length - j = 0 from by omega] at this
        omega
      · refine ⟨⟨g, ofs + j * n, none⟩, cap - j, by rw [hy]; simp [subV, sliced, hc, Addr.add_mid], fun q u hq => ?_⟩
        have hq' := (List.getElem?_eq_some_iff.1 hq).1
        rw [hnl] at hq'
        rw [List.getElem?_take, if_pos hq', List.getElem?_drop, ← hD, List.getElem?_drop] at hq
        simp only [Addr.add_mid, World.cell?, k1]
        rw [Nat.add_assoc]; simpa using hq
    have hfit : ofs + i * n + ((D.drop (j * n)).take ((xs.length - j) * n)).length ≤ cur.size := by rw [hnl]; omega
    have hrun := run_append_room_cells (P := P) w T o.type E info hT hi' g ofs i cap a (xs.length - j) c _ (by rw [hsize]; exact hnl) hnews hone (by omega) (fun q hq => by
      rw [hsize]; simp only [World.cell?, k1, Option.isSome_none, Bool.false_eq_true, ite_false]
      rw [Array.getElem?_eq_getElem (by omega)]; rfl) (fun q _ => by simp [World.frozen?, k1])
    rw [hsize] at hrun
    rw [run_call_append ho (hx.trans (by simp [subV, sliced, Addr.add_mid] : _ = Value.slice (some ⟨g, ofs, none⟩) i cap)) hya hrun]
    obtain ⟨o1, o2, o3, o4, o5⟩ := setCells_other g ((D.drop (j * n)).take ((xs.length - j) * n)) (ofs + i * n) w
    have hrow := setCells_row _ _ w cur hfit k1
    have hgK : g ∉ K := by rw [List.cons_append] at h4; simpa using (List.nodup_cons.1 h4).1
    refine ⟨by simp [subV, sliced, Addr.add_mid], ⟨o1.trans hb.1, o2.trans hb.2.1, o3.trans hb.2.2.1, by rw [o4]; exact hb.2.2.2⟩, fun q u hq => ?_, [g] ++ K, ⟨[g], K, rfl, ⟨by rw [slideL_length hij hj]; exact hl, .inr ⟨g, ofs, cap, _, [], by rw [slideL_length hij hj], hrow, by rw [slideL_length hij hj]; exact k2, k3, ?_, rfl, els_of_rd hC fun k x hk => ?_⟩⟩, e3.stay fun q hq => o5 q fun e => hgK (e ▸ hq)⟩, h4, h5⟩
    · show (w.setCells g (ofs + i * n) _).heap[q]? = some u
      rw [o5 q fun e => by rw [e, h5 g (by simp)] at hq; cases hq]
      exact hi q u hq
    · rw [hR]; simp only [List.size_toArray, List.length_append, List.length_take, List.length_drop, hln]; omega
    · rw [slideL_get hij hj] at hk
      have hklt : k < xs.length := by
        split at hk
        · omega
        · exact (List.getElem?_eq_some_iff.1 hk).1
      have hkn : k * n + n ≤ xs.length * n := by rw [← Nat.succ_mul]; exact Nat.mul_le_mul_right _ hklt
      have key : ∀ q, q < xs.length * n → ((cur.toList.take (ofs + i * n) ++ (D.drop (j * n)).take ((xs.length - j) * n) ++ cur.toList.drop (ofs + i * n + ((D.drop (j * n)).take ((xs.length - j) * n)).length)).toArray.toList.drop ofs)[q]? = if i * n ≤ q ∧ q < i * n + (xs.length - j) * n then D[j * n + (q - i * n)]? else D[q]? := by
        intro q hq
        rw [List.getElem?_drop]
        show (cur.toList.take (ofs + i * n) ++ (D.drop (j * n)).take ((xs.length - j) * n) ++ cur.toList.drop (ofs + i * n + ((D.drop (j * n)).take ((xs.length - j) * n)).length))[ofs + q]? = _
        have htl : (cur.toList.take (ofs + i * n)).length = ofs + i * n := by rw [List.length_take]; omega
        by_cases c1 : q < i * n
        · rw [if_neg (by omega), List.append_assoc, List.getElem?_append_left (by omega), List.getElem?_take, if_pos (by omega), ← hD, List.getElem?_drop]
        · by_cases c2 : q < i * n + (xs.length - j) * n
          · rw [if_pos (by omega), List.append_assoc, List.getElem?_append_right (by omega), htl, List.getElem?_append_left (by omega), List.getElem?_take, if_pos (by omega), List.getElem?_drop]
            congr 2; omega
          · rw [if_neg (by omega), List.getElem?_append_right (by rw [List.length_append]; omega), List.length_append, htl, hnl, List.getElem?_drop, ← hD, List.getElem?_drop]
            congr 1; omega
      by_cases c1 : i ≤ k ∧ k < i + (xs.length - j)
      · rw [if_pos c1] at hk
        obtain ⟨c, d1, d2, d3⟩ := hat _ _ hk
        refine ⟨c, by rw [hR]; exact d1, fun q hq => ?_, d3⟩
        rw [hR] at hq ⊢
        have n1 : i * n ≤ k * n := Nat.mul_le_mul_right _ c1.1
        have n2 : k * n + n ≤ i * n + (xs.length - j) * n := by rw [← Nat.succ_mul, ← Nat.add_mul]; exact Nat.mul_le_mul_right _ c1.2
        have n3 : (j + (k - i)) * n = j * n + (k * n - i * n) := by rw [Nat.add_mul, Nat.sub_mul]
        rw [key _ (by omega), if_pos (by omega), ← d2 q hq, n3]
        congr 1; omega
      · rw [if_neg c1] at hk
        obtain ⟨c, d1, d2, d3⟩ := hat _ _ hk
        refine ⟨c, by rw [hR]; exact d1, fun q hq => ?_, d3⟩
        rw [hR] at hq ⊢
        have n1 : k * n + n ≤ i * n ∨ i * n + (xs.length - j) * n ≤ k * n := by
          by_cases c2 : k < i
          · left; rw [← Nat.succ_mul]; exact Nat.mul_le_mul_right _ c2
          · right; rw [← Nat.add_mul]; exact Nat.mul_le_mul_right _ (by omega)
        rw [key _ (by omega), if_neg (by omega)]
        exact d2 q hq
end
end Go.Proofs.YtimjccbdngajoaaGreat.D
/- Own rows written in their place: parts pushed, made zero, filled. No program text is named here. -/
set_option linter.unusedVariables false
set_option linter.unusedSimpArgs false
set_option linter.unnecessarySimpa false
namespace Go.Proofs.YtimjccbdngajoaaGreat.D
open Go.RowKit

section
variable {P : Program} {I J : Hp} {w0 w w' : World} {cs C : List Ch} {o : Oper} {ev : Operand → Value}
/-- what an own row with a block holds -/
theorem row_at {α : Type} {E : TypeId} {R : Rep α} (hSh : R.Sh) {k : Nat} (hR : R.size = k) {g ofs n cap : Nat} {xs : List α} (h : St I w0 w (Ch.own (rSlice E R) [.slice (some ⟨g, ofs, none⟩) n cap] xs :: C)) :
    n = xs.length ∧ xs.length ≤ cap ∧ cap ≤ maxLen ∧ ∃ cur, w.heap[g]? = some (.cells cur E (0, 0)) ∧ ofs + cap * k ≤ cur.size ∧ ∀ (i : Nat) x, xs[i]? = some x → ∃ c : List Value, c.length = k ∧ (∀ j, j < k → (cur.toList.drop ofs)[i * k + j]? = c[j]?) ∧ R.rd I c x := by
  obtain ⟨hb, hi, F, ⟨G, K, rfl, ⟨hl, e2⟩, e3⟩, h4, h5⟩ := h
  rcases e2 with ⟨hv, rfl, rfl⟩ | ⟨g', ofs', cap', cur, K1, hv, k1, k2, k3, k4, rfl, k5⟩
  · simp at hv
  · simp only [List.cons.injEq, Value.slice.injEq, Option.some.injEq, Addr.mk.injEq, and_true] at hv
    obtain ⟨⟨rfl, rfl⟩, rfl, rfl⟩ := hv
    obtain rfl := k5.sh hSh
    have hat := fun i x hx => k5.at Hp.le.rfl (by simp) i x hx
    rw [hR] at hat k4
    exact ⟨rfl, k2, k3, cur, k1, k4, hat⟩
theorem row_set {α : Type} {E : TypeId} {R : Rep α} (hSh : R.Sh) (hC : Cpy R R) {k : Nat} (hR : R.size = k) {g ofs n cap p cnt : Nat} {xs zs : List α} {news : List Value} (hn : news.length = cnt * k) (hfit : p + cnt ≤ cap) (hz : zs.length ≤ cap) (hlim : zs.length ≤ lim)
    (hnew : ∀ i z, zs[i]? = some z → (p ≤ i ∧ i < p + cnt ∧ ∃ c : List Value, c.length = k ∧ (∀ j, j < k → news[(i - p) * k + j]? = c[j]?) ∧ R.rd I c z) ∨ ((i < p ∨ p + cnt ≤ i) ∧ xs[i]? = some z))
    (h : St I w0 w (Ch.own (rSlice E R) [.slice (some ⟨g, ofs, none⟩) n cap] xs :: C)) : St I w0 (w.setCells g (ofs + p * k) news) (Ch.own (rSlice E R) [.slice (some ⟨g, ofs, none⟩) zs.length cap] zs :: C) := by
  obtain ⟨hb, hi, F, ⟨G, K, rfl, ⟨hl, e2⟩, e3⟩, h4, h5⟩ := h
  rcases e2 with ⟨hv, rfl, rfl⟩ | ⟨g', ofs', cap', cur, K1, hv, k1, k2, k3, k4, rfl, k5⟩
  · simp at hv
  · simp only [List.cons.injEq, Value.slice.injEq, Option.some.injEq, Addr.mk.injEq, and_true] at hv
    obtain ⟨⟨rfl, rfl⟩, rfl, rfl⟩ := hv
    obtain rfl := k5.sh hSh
    have hat := fun i x hx => k5.at Hp.le.rfl (by simp) i x hx
    rw [hR] at hat k4
    have hln : cur.toList.length = cur.size := Array.length_toList
    have m0 : (p + cnt) * k = p * k + cnt * k := Nat.add_mul _ _ _
    have m1 : (p + cnt) * k ≤ cap * k := Nat.mul_le_mul_right _ hfit
    have hroom : ofs + p * k + news.length ≤ cur.size := by omega
    obtain ⟨o1, o2, o3, o4, o5⟩ := setCells_other g news (ofs + p * k) w
    have hrow := setCells_row news (ofs + p * k) w cur hroom k1
    have hgK : g ∉ K := by rw [List.cons_append] at h4; simpa using (List.nodup_cons.1 h4).1
    have key : ∀ q, ((cur.toList.take (ofs + p * k) ++ news ++ cur.toList.drop (ofs + p * k + news.length)).toArray.toList.drop ofs)[q]? = if p * k ≤ q ∧ q < p * k + cnt * k then news[q - p * k]? else (cur.toList.drop ofs)[q]? := by
      intro q
      rw [List.getElem?_drop]
      show (cur.toList.take (ofs + p * k) ++ news ++ cur.toList.drop (ofs + p * k + news.length))[ofs + q]? = _
      have htl : (cur.toList.take (ofs + p * k)).length = ofs + p * k := by rw [List.length_take]; omega
      by_cases c1 : q < p * k
      · rw [if_neg (by omega), List.append_assoc, List.getElem?_append_left (by omega), List.getElem?_take, if_pos (by omega), List.getElem?_drop]
      · by_cases c2 : q < p * k + cnt * k
        · rw [if_pos (by omega), List.append_assoc, List.getElem?_append_right (by omega), htl, List.getElem?_append_left (by omega)]
          congr 1; omega
        · rw [if_neg (by omega), List.getElem?_append_right (by rw [List.length_append]; omega), List.length_append, htl, hn, List.getElem?_drop, List.getElem?_drop]
          congr 1; omega
    refine ⟨⟨o1.trans hb.1, o2.trans hb.2.1, o3.trans hb.2.2.1, by rw [o4]; exact hb.2.2.2⟩, fun q u hq => ?_, [g] ++ K, ⟨[g], K, rfl, ⟨hlim, .inr ⟨g, ofs, cap, _, [], rfl, hrow, hz, k3, ?_, rfl, els_of_rd hC fun i x hx => ?_⟩⟩, e3.stay fun q hq => o5 q fun e => hgK (e ▸ hq)⟩, h4, h5⟩
    · show (w.setCells g (ofs + p * k) _).heap[q]? = some u
      rw [o5 q fun e => by rw [e, h5 g (by simp)] at hq; cases hq]
      exact hi q u hq
    · rw [hR]; simp only [List.size_toArray, List.length_append, List.length_take, List.length_drop, hln]; omega
    · rw [hR]
      rcases hnew i x hx with ⟨n1, n2, c, c1, c2, c3⟩ | ⟨n1, n2⟩
      · refine ⟨c, c1, fun j hj => ?_, c3⟩
        have a1 : p * k ≤ i * k := Nat.mul_le_mul_right _ n1
        have a2 : i * k + k ≤ p * k + cnt * k := by rw [← Nat.succ_mul, ← Nat.add_mul]; exact Nat.mul_le_mul_right _ n2
        have a3 : (i - p) * k = i * k - p * k := Nat.sub_mul _ _ _
        rw [key, if_pos (by omega), ← c2 j hj, a3]
        congr 1; omega
      · obtain ⟨c, c1, c2, c3⟩ := hat i x n2
        refine ⟨c, c1, fun j hj => ?_, c3⟩
        have a1 : i * k + k ≤ p * k ∨ p * k + cnt * k ≤ i * k := by
          rcases n1 with n1 | n1
          · left; rw [← Nat.succ_mul]; exact Nat.mul_le_mul_right _ n1
          · right; rw [← Nat.add_mul]; exact Nat.mul_le_mul_right _ n1
        rw [key, if_neg (by omega)]
        exact c2 j hj
/-- the cells of a part of a row -/
def pCells (cur : Array Value) (ofs k j m : Nat) : List Value := ((cur.toList.drop ofs).drop (j * k)).take ((m - j) * k)
theorem pCells_len {cur : Array Value} {ofs k j m cap : Nat} (h : ofs + cap * k ≤ cur.size) (hj : j ≤ m) (hm : m ≤ cap) : (pCells cur ofs k j m).length = (m - j) * k := by
  have m1 : m * k ≤ cap * k := Nat.mul_le_mul_right _ hm
  have m2 : (m - j) * k = m * k - j * k := Nat.sub_mul _ _ _
  have m3 : j * k ≤ m * k := Nat.mul_le_mul_right _ hj
  unfold pCells
  rw [List.length_take, List.length_drop, List.length_drop, Array.length_toList]; omega
theorem pCells_get {cur : Array Value} {ofs k j m q : Nat} (hq : q < (m - j) * k) : (pCells cur ofs k j m)[q]? = (cur.toList.drop ofs)[j * k + q]? := by
  unfold pCells
  rw [List.getElem?_take, if_pos hq, List.getElem?_drop]
theorem pCells_one {α : Type} {R : Rep α} {xs : List α} {cur : Array Value} {ofs k j m : Nat} (hk : 0 < k) (hm : m ≤ xs.length) (hat : ∀ (i : Nat) x, xs[i]? = some x → ∃ c : List Value, c.length = k ∧ (∀ j, j < k → (cur.toList.drop ofs)[i * k + j]? = c[j]?) ∧ R.rd I c x) : ∀ u ∈ pCells cur ofs k j m, u.oneCell' = true := by
  intro u hu
  obtain ⟨q, hq⟩ := List.getElem?_of_mem hu
  have hq' := (List.getElem?_eq_some_iff.1 hq).1
  have hq2 : q < (m - j) * k := by
    unfold pCells at hq'
    rw [List.length_take] at hq'; omega
  rw [pCells_get hq2] at hq
  have m2 : (m - j) * k = m * k - j * k := Nat.sub_mul _ _ _
  have m1 : m * k ≤ xs.length * k := Nat.mul_le_mul_right _ hm
  have hqn : (j * k + q) / k < xs.length := by rw [Nat.div_lt_iff_lt_mul hk]; omega
  obtain ⟨c, c1, c2, c3⟩ := hat _ _ (List.getElem?_eq_getElem hqn)
  have := c2 ((j * k + q) % k) (Nat.mod_lt _ hk)
  rw [Nat.div_add_mod', hq] at this
  exact R.rd_one c3 u (List.mem_of_getElem? this.symm)
theorem cell_at {g ofs : Nat} {cur : Array Value} {E : TypeId} {fr : Nat × Nat} (h : w.heap[g]? = some (.cells cur E fr)) (q : Nat) : w.cell? ⟨g, ofs + q, none⟩ = (cur.toList.drop ofs)[q]? := by
  simp [World.cell?, h]
/-- the part from j to m pushed down to i; what stood behind stays there -/
def slideM {α : Type} (xs : List α) (i j m : Nat) : List α := xs.take i ++ (((xs.take m).drop j) ++ xs.drop (i + (m - j)))
theorem slideM_length {α : Type} {xs : List α} {i j m : Nat} (h1 : i ≤ j) (h2 : j ≤ m) (h3 : m ≤ xs.length) : (slideM xs i j m).length = xs.length := by
  simp only [slideM, List.length_append, List.length_take, List.length_drop]; omega
theorem slideM_get {α : Type} {xs : List α} {i j m q : Nat} (h1 : i ≤ j) (h2 : j ≤ m) (h3 : m ≤ xs.length) : (slideM xs i j m)[q]? = if i ≤ q ∧ q < i + (m - j) then xs[j + (q - i)]? else xs[q]? := by
  have hi : (xs.take i).length = i := by rw [List.length_take]; omega
  have hm : ((xs.take m).drop j).length = m - j := by rw [List.length_drop, List.length_take]; omega
  unfold slideM
  by_cases c1 : q < i
  · rw [if_neg (by omega), List.getElem?_append_left (by omega), List.getElem?_take, if_pos c1]
  · rw [List.getElem?_append_right (by omega), hi]
    by_cases c2 : q < i + (m - j)
    · rw [if_pos (by omega), List.getElem?_append_left (by omega), List.getElem?_drop, List.getElem?_take, if_pos (by omega)]
    · rw [if_neg (by omega), List.getElem?_append_right (by omega), hm, List.getElem?_drop]; congr 1; omega
/-- append of a part to the head of the same row -/
theorem opT_append_vw {α : Type} {E T : TypeId} {R : Rep α} {z : Value} {n b : Nat} {x y : Operand} {g ofs cap len i j m c : Nat} {a : Addr} {xs : List α} (hSh : R.Sh) (hC : Cpy R R) (hT : P.underlying T = some (.slice E)) (hE : TZ P E z n b) (hn : 0 < n) (hR : R.size = n)
    (ho : o.op = .call { callee := .builtin .append, args := #[x, y], argTypes := #[T, T] }) (hx : ev x = .slice (some ⟨g, ofs, none⟩) i cap) (hy : ev y = .slice (some a) (m - j) c) (ha : j < m → a = ⟨g, ofs + j * n, none⟩) (hij : i ≤ j) (hj : j ≤ m) (hm : m ≤ xs.length) :
    OpT P I w0 o ev [Ch.own (rSlice E R) [.slice (some ⟨g, ofs, none⟩) len cap] xs] (· = .slice (some ⟨g, ofs, none⟩) (i + (m - j)) cap) (fun _ => [Ch.own (rSlice E R) [.slice (some ⟨g, ofs, none⟩) len cap] (slideM xs i j m)]) := by
  intro w C hs
  obtain ⟨info, hi', hz, hsize, hby⟩ := info_parts hE
  obtain ⟨rfl, r1, r2, cur, r3, r4, hat⟩ := row_at hSh hR hs
  have hln := pCells_len (k := n) (j := j) r4 hj (Nat.le_trans hm r1)
  have m1 : xs.length * n ≤ cap * n := Nat.mul_le_mul_right _ r1
  have m2 : i * n ≤ j * n := Nat.mul_le_mul_right _ hij
  have m3 : (m - j) * n = m * n - j * n := Nat.sub_mul _ _ _
  have m4 : j * n ≤ m * n := Nat.mul_le_mul_right _ hj
  have m5 : m * n ≤ xs.length * n := Nat.mul_le_mul_right _ hm
  have hcl : (cur.toList.drop ofs).length = cur.size - ofs := by rw [List.length_drop, Array.length_toList]
  have hrun := run_append_room_cells (P := P) w T o.type E info hT hi' g ofs i cap a (m - j) c (pCells cur ofs n j m) (by rw [hsize]; exact hln) (fun q u hq => by
    have hq' := (List.getElem?_eq_some_iff.1 hq).1
    rw [hln] at hq'
    rw [pCells_get hq'] at hq
    by_cases hjm : j < m
    · rw [ha hjm]; simp only [Addr.add_mid]; rw [Nat.add_assoc, cell_at r3]; exact hq
    · rw [show m - j = 0 from by omega] at hq'; omega) (pCells_one hn hm hat) (by omega) (fun q hq => by
    rw [hln] at hq
    rw [hsize, Nat.add_assoc, cell_at r3, List.getElem?_eq_getElem (by rw [hcl]; omega)]; rfl) (fun q _ => by simp [World.frozen?, r3])
  rw [hsize] at hrun
  rw [run_call_append ho hx hy hrun]
  have hsl := slideM_length (xs := xs) hij hj hm
  have hxl := (hs.hd 0 rfl).2
  have := row_set (zs := slideM xs i j m) hSh hC hR (p := i) (cnt := m - j) hln (by omega) (by omega) (by omega) (fun q u hq => by
    rw [slideM_get hij hj hm] at hq
    by_cases c1 : i ≤ q ∧ q < i + (m - j)
    · rw [if_pos c1] at hq
      obtain ⟨c, d1, d2, d3⟩ := hat _ _ hq
      refine .inl ⟨c1.1, c1.2, c, d1, fun t ht => ?_, d3⟩
      have e1 : (q - i) * n + n ≤ (m - j) * n := by rw [← Nat.succ_mul]; exact Nat.mul_le_mul_right _ (by omega)
      rw [pCells_get (by omega), ← d2 t ht, Nat.add_mul]
      congr 1; omega
    · rw [if_neg c1] at hq
      exact .inr ⟨by omega, hq⟩) hs
  rw [hsl] at this
  exact ⟨rfl, this⟩
theorem run_clear_cells (w : World) (t e ty : TypeId) (z : Value) (ht : P.underlying t = some (.slice e)) (hv : (zeroValue e).run P w = .ok z w) (b o n c : Nat) (hn : 0 < n)
    (hc : ∀ j, j < (Builtin.zeroCells z.cells n).toList.length → (w.cell? ⟨b, o + j, none⟩).isSome = true) (hf : ∀ j, j < (Builtin.zeroCells z.cells n).toList.length → w.frozen? ⟨b, o + j, none⟩ = false) (h1 : ∀ v ∈ (Builtin.zeroCells z.cells n).toList, v.oneCell' = true) :
    (Builtin.clear_ #[t] ty #[.slice (some ⟨b, o, none⟩) n c]).run P w = .ok (.tuple #[]) (w.setCells b o (Builtin.zeroCells z.cells n).toList) := by
  have hst := run_storeCells_cells (P := P) b o (Builtin.zeroCells z.cells n).toList 0 w (by simpa using hc) (by simpa using hf) h1
  simp only [Nat.add_zero] at hst
  obtain ⟨m, rfl⟩ : ∃ m, n = m + 1 := ⟨n - 1, by omega⟩
  simp [Builtin.clear_, run_underlying ht, hv, hst]
theorem run_clear_empty (w : World) (t e ty : TypeId) (ht : P.underlying t = some (.slice e)) (a : Option Addr) (c : Nat) : (Builtin.clear_ #[t] ty #[.slice a 0 c]).run P w = .ok (.tuple #[]) w := by
  cases a <;> simp [Builtin.clear_, run_underlying ht]
theorem run_call_clear {x : Operand} {T : TypeId} {v r : Value} {w w' : World} (ho : o.op = .call { callee := .builtin .clear, args := #[x], argTypes := #[T] }) (hx : ev x = v) (hr : (Builtin.clear_ #[T] o.type #[v]).run P w = .ok r w') : (execOp ev o).run P w = .ok (.value r) w' := by
  simp only [execOp, ho, resolve, invoke, builtin, Sem.run_bind, Sem.run_pure, Result.andThen_ok, List.map_toArray, List.map_cons, List.map_nil, hx, hr]
theorem zeroCells_len {zc : Array Value} {n : Nat} : (Builtin.zeroCells zc n).toList.length = n * zc.size := by simp [Builtin.zeroCells]
theorem zeroCells_get {zc : Array Value} {n i j : Nat} (hi : i < n) (hj : j < zc.size) : (Builtin.zeroCells zc n).toList[i * zc.size + j]? = zc.toList[j]? := by
  have h1 : i * zc.size + j < n * zc.size := by
    have : i * zc.size + zc.size ≤ n * zc.size := by rw [← Nat.succ_mul]; exact Nat.mul_le_mul_right _ hi
    omega
  have h2 : (i * zc.size + j) % zc.size = j := by rw [Nat.add_comm, Nat.add_mul_mod_self_right, Nat.mod_eq_of_lt hj]
  simp [Builtin.zeroCells, h1, h2, hj]
/-- a part of a row made zero -/
def zeroM {α : Type} (xs : List α) (l m : Nat) (z : α) : List α := xs.take l ++ (List.replicate (m - l) z ++ xs.drop m)
theorem zeroM_length {α : Type} {xs : List α} {l m : Nat} {z : α} (h1 : l ≤ m) (h2 : m ≤ xs.length) : (zeroM xs l m z).length = xs.length := by
  simp only [zeroM, List.length_append, List.length_take, List.length_drop, List.length_replicate]; omega
theorem zeroM_get {α : Type} {xs : List α} {l m q : Nat} {z : α} (h1 : l ≤ m) (h2 : m ≤ xs.length) : (zeroM xs l m z)[q]? = if l ≤ q ∧ q < m then some z else xs[q]? := by
  have hi : (xs.take l).length = l := by rw [List.length_take]; omega
  unfold zeroM
  by_cases c1 : q < l
  · rw [if_neg (by omega), List.getElem?_append_left (by omega), List.getElem?_take, if_pos c1]
  · rw [List.getElem?_append_right (by omega), hi]
    by_cases c2 : q < m
    · rw [if_pos (by omega), List.getElem?_append_left (by rw [List.length_replicate]; omega), List.getElem?_replicate, if_pos (by omega)]
    · rw [if_neg (by omega), List.getElem?_append_right (by rw [List.length_replicate]; omega), List.length_replicate, List.getElem?_drop]; congr 1; omega
theorem opT_clear_vw {α : Type} {E T : TypeId} {R : Rep α} {z : Value} {zd : α} {n b : Nat} {x : Operand} {g ofs cap len l m c : Nat} {a : Addr} {xs : List α} (hSh : R.Sh) (hC : Cpy R R) (hT : P.underlying T = some (.slice E)) (hE : TZ P E z n b) (hn : 0 < n) (hR : R.size = n) (hzs : z.cells.size = n) (hzd : R.rd I z.cells.toList zd)
    (ho : o.op = .call { callee := .builtin .clear, args := #[x], argTypes := #[T] }) (hx : ev x = .slice (some a) (m - l) c) (ha : l < m → a = ⟨g, ofs + l * n, none⟩) (hl : l ≤ m) (hm : m ≤ xs.length) :
    OpT P I w0 o ev [Ch.own (rSlice E R) [.slice (some ⟨g, ofs, none⟩) len cap] xs] (fun _ => True) (fun _ => [Ch.own (rSlice E R) [.slice (some ⟨g, ofs, none⟩) len cap] (zeroM xs l m zd)]) := by
  intro w C hs
  obtain ⟨rfl, r1, r2, cur, r3, r4, hat⟩ := row_at hSh hR hs
  by_cases hlm : l = m
  · subst hlm
    rw [Nat.sub_self] at hx
    rw [run_call_clear ho hx (run_clear_empty w T E o.type hT _ _)]
    refine ⟨trivial, ?_⟩
    have : zeroM xs l l zd = xs := by simp [zeroM]
    rw [this]; exact hs
  · have hlt : l < m := by omega
    rw [ha hlt] at hx
    have m1 : xs.length * n ≤ cap * n := Nat.mul_le_mul_right _ r1
    have m3 : (m - l) * n = m * n - l * n := Nat.sub_mul _ _ _
    have m4 : l * n ≤ m * n := Nat.mul_le_mul_right _ hl
    have m5 : m * n ≤ xs.length * n := Nat.mul_le_mul_right _ hm
    have hcl : (cur.toList.drop ofs).length = cur.size - ofs := by rw [List.length_drop, Array.length_toList]
    have hL : (Builtin.zeroCells z.cells (m - l)).toList.length = (m - l) * n := by rw [zeroCells_len, hzs]
    have hone : ∀ v ∈ (Builtin.zeroCells z.cells (m - l)).toList, v.oneCell' = true := by
      intro v hv'
      simp only [Builtin.zeroCells, Array.toList_map, List.mem_map] at hv'
      obtain ⟨q, -, rfl⟩ := hv'
      have hq : q % z.cells.size < z.cells.size := Nat.mod_lt _ (by omega)
      rw [getElem!_pos z.cells _ hq]
      exact R.rd_one hzd _ (by simp)
    have hrun := run_clear_cells (P := P) w T E o.type z hT (hE.run_zero w) g (ofs + l * n) (m - l) c (by omega) (fun q hq => by
      rw [hL] at hq
      rw [Nat.add_assoc, cell_at r3, List.getElem?_eq_getElem (by rw [hcl]; omega)]; rfl) (fun q _ => by simp [World.frozen?, r3]) hone
    rw [run_call_clear ho hx hrun]
    have hsl := zeroM_length (xs := xs) (z := zd) hl hm
    have hxl := (hs.hd 0 rfl).2
    have := row_set (zs := zeroM xs l m zd) hSh hC hR (p := l) (cnt := m - l) hL (by omega) (by omega) (by omega) (fun q u hq => by
      rw [zeroM_get hl hm] at hq
      by_cases c1 : l ≤ q ∧ q < m
      · rw [if_pos c1] at hq
        obtain rfl := Option.some.inj hq
        refine .inl ⟨c1.1, by omega, z.cells.toList, by rw [Array.length_toList, hzs], fun t ht => ?_, hzd⟩
        rw [← hzs, zeroCells_get (by omega) (by omega)]
      · rw [if_neg c1] at hq
        exact .inr ⟨by omega, hq⟩) hs
    rw [hsl] at this
    exact ⟨trivial, this⟩
end
end Go.Proofs.YtimjccbdngajoaaGreat.D
/- Parts of own rows, looked at; rows written through them. No program text is named here. -/
set_option linter.unusedVariables false
set_option linter.unusedSimpArgs false
set_option linter.unnecessarySimpa false
set_option linter.unusedSectionVars false
namespace Go.Proofs.YtimjccbdngajoaaGreat.R
open Go.RowKit
open Go.Proofs.YtimjccbdngajoaaGreat.D

/-! ### Values -/
theorem Vw.hd {u v : Value} {k n : Nat} {l m : Int} (h : Vw u v k n l m) : ∃ a c, u = .slice a (m.toNat - l.toNat) c ∧ 0 ≤ l ∧ l ≤ m := by
  rcases h with ⟨-, rfl, -, rfl, rfl⟩ | ⟨g, ofs, cap, x, -, rfl, h1, h2, -⟩
  · exact ⟨_, _, rfl, Int.le_refl _, Int.le_refl _⟩
  · exact ⟨_, _, rfl, h1, h2⟩
theorem Vw.one {u v : Value} {k n : Nat} {l m : Int} (h : Vw u v k n l m) : u.oneCell' = true := by
  obtain ⟨a, c, rfl, _⟩ := h.hd; rfl
theorem vw_self {I : Hp} {w0 w : World} {C : List Ch} {α : Type} {E : TypeId} {R : Rep α} {v : Value} {xs : List α} {k : Nat} (h : St I w0 w (Ch.own (rSlice E R) [v] xs :: C)) : Vw v v k xs.length 0 xs.length := by
  obtain ⟨hb, hi, F, ⟨G, K, rfl, ⟨hl, e2⟩, e3⟩, h4, h5⟩ := h
  rcases e2 with ⟨hv, rfl, rfl⟩ | ⟨g, ofs, cap, cur, K1, hv, k1, k2, k3, k4, rfl, k5⟩
  · obtain rfl : v = .slice none 0 0 := by simpa using hv
    exact .inl ⟨rfl, rfl, rfl, rfl, rfl⟩
  · obtain rfl : v = .slice (some ⟨g, ofs, none⟩) xs.length cap := by simpa using hv
    exact .inr ⟨g, ofs, cap, 0, rfl, by simp, by omega, by omega, k2, by omega, Nat.zero_le _, .inr (by simp)⟩
theorem vw_len {I : Hp} {w0 w : World} {C : List Ch} {α : Type} {E : TypeId} {R : Rep α} {u v : Value} {xs : List α} {k n : Nat} {l m : Int} (h : St I w0 w (Ch.own (rSlice E R) [v] xs :: C)) (hv : Vw u v k n l m) : n = xs.length := by
  have h1 := vw_self (k := k) h
  rcases hv with ⟨rfl, -, rfl, -, -⟩ | ⟨g, ofs, cap, x, rfl, -, -⟩ <;> rcases h1 with ⟨e, -, q, -, -⟩ | ⟨g', ofs', cap', x', e, -, -⟩
  · exact q.symm
  · cases e
  · cases e
  · injection e
theorem vw_slice {u v w : Value} {k n : Nat} {l m a c : Int} (h : Vw u v k n l m) (h1 : 0 ≤ a) (h2 : a ≤ c) (h3 : l + c ≤ (n : Int)) {ao : Option Addr} {len cap : Nat} (hu : u = .slice ao len cap) (hw : w = sliced ao a.toNat c.toNat cap k) : Vw w v k n (l + a) (l + c) := by
  rcases h with ⟨rfl, rfl, rfl, rfl, rfl⟩ | ⟨g, ofs, cp, x, rfl, rfl, q1, q2, q3, q4, q5, q6⟩
  · obtain rfl : a = 0 := by simp only [Int.zero_add] at h3; omega
    obtain rfl : c = 0 := by simp only [Int.zero_add] at h3; omega
    injection hu with e1 e2 e3
    subst e1; subst e3
    exact .inl ⟨rfl, by rw [hw]; simp [sliced], rfl, rfl, rfl⟩
  · injection hu with e1 e2 e3
    subst e1; subst e3
    subst hw
    have t1 : (l + a).toNat = l.toNat + a.toNat := by omega
    have t2 : (l + c).toNat - (l + a).toNat = c.toNat - a.toNat := by omega
    have t3 : (l.toNat + a.toNat) * k = l.toNat * k + a.toNat * k := Nat.add_mul _ _ _
    by_cases hc : cp - l.toNat = a.toNat
    · refine .inr ⟨g, ofs, cp, x, rfl, ?_, by omega, by omega, q3, by omega, by rw [t1, t3]; omega, .inl (by omega)⟩
      simp only [sliced, hc, if_true, t2]
      congr 1; omega
    · refine .inr ⟨g, ofs, cp, x + a.toNat * k, rfl, ?_, by omega, by omega, q3, by omega, by rw [t1, t3]; omega, ?_⟩
      · simp only [sliced, hc, if_false, t2, Option.map_some, Addr.add_mid, Nat.add_assoc]
        congr 1; omega
      · rcases q6 with q6 | q6
        · exfalso; omega
        · right; rw [t1, t3, q6]

/-! ### Operations -/
/-- operands that may be left out -/
def oI (ev : Operand → Value) : Option Operand → Option Int → Prop
  | none, none => True
  | some x, some m => ev x = .int .i64 m
  | _, _ => False
section
variable {P : Program} {I : Hp} {w0 : World} {o : Oper} {ev : Operand → Value}
theorem opT_sliceV {t e : TypeId} {x : Operand} {lo hi : Option Operand} {ml mh : Option Int} {ao : Option Addr} {len cap n : Nat} {agg : Bool} (hT : P.underlying t = some (.slice e)) (hE : TI P e agg n) (ho : o.op = .slice t x lo hi none) (hx : ev x = .slice ao len cap) (hl : oI ev lo ml) (hh : oI ev hi mh) (hlc : len ≤ cap)
    (h1 : 0 ≤ ml.getD 0) (h2 : ml.getD 0 ≤ mh.getD len) (h3 : mh.getD len ≤ (cap : Int)) :
    OpT P I w0 o ev [] (· = sliced ao (ml.getD 0).toNat (mh.getD len).toNat cap n) (fun _ => []) := by
  have he : P.elem t = e := by simp [Program.elem, hT]
  have hT' : P.underlying t = some (.slice (P.elem t)) := by rw [he]; exact hT
  refine opT_val fun w => ?_
  have hs := TI.size hE w
  rw [← he] at hs
  cases lo with
  | none =>
    cases ml with
    | some _ => exact hl.elim
    | none =>
      cases hi with
      | none =>
        cases mh with
        | some _ => exact hh.elim
        | none =>
          simp only [execOp, ho, hx, Option.map_some, Option.map_none, Sem.run_bind, run_sliceAt_slice w t _ _ _ _ hT', run_slice_all w t ao len cap hT', hs, Result.andThen_ok]
          simp
      | some hi =>
        cases mh with
        | none => exact hh.elim
        | some mh =>
          have hh : ev hi = .int .i64 mh := hh
          simp only [execOp, ho, hx, Option.map_some, Option.map_none, hh, Sem.run_bind, run_sliceAt_slice w t _ _ _ _ hT', run_slice_h w t ao len cap hT' .i64 mh (by simp at h1 h2; omega) h3, hs, Result.andThen_ok]
          rfl
  | some lo =>
    cases ml with
    | none => exact hl.elim
    | some ml =>
      have hl : ev lo = .int .i64 ml := hl
      cases hi with
      | none =>
        cases mh with
        | some _ => exact hh.elim
        | none =>
          simp only [execOp, ho, hx, Option.map_some, Option.map_none, hl, Sem.run_bind, run_sliceAt_slice w t _ _ _ _ hT', run_slice_l w t ao len cap hT' .i64 ml h1 h2, hs, Result.andThen_ok]
          rfl
      | some hi =>
        cases mh with
        | none => exact hh.elim
        | some mh =>
          have hh : ev hi = .int .i64 mh := hh
          simp only [execOp, ho, hx, Option.map_some, Option.map_none, hl, hh, Sem.run_bind, run_sliceAt_slice w t _ _ _ _ hT', run_slice_lh w t ao len cap hT' .i64 .i64 ml mh h1 h2 h3, hs, Result.andThen_ok]
          rfl
theorem opT_slice3 {t e : TypeId} {x y z q : Operand} {ml mh mx : Int} {ao : Option Addr} {len cap n : Nat} {agg : Bool} (hT : P.underlying t = some (.slice e)) (hE : TI P e agg n) (ho : o.op = .slice t x (some y) (some z) (some q)) (hx : ev x = .slice ao len cap) (hl : ev y = .int .i64 ml) (hh : ev z = .int .i64 mh) (hq : ev q = .int .i64 mx)
    (h1 : 0 ≤ ml) (h2 : ml ≤ mh) (h3 : mh ≤ mx) (h4 : mx ≤ (cap : Int)) :
    OpT P I w0 o ev [] (fun _ => True) (fun _ => []) := by
  have he : P.elem t = e := by simp [Program.elem, hT]
  have hT' : P.underlying t = some (.slice (P.elem t)) := by rw [he]; exact hT
  refine OpT.weak (opT_val (v := sliced ao ml.toNat mh.toNat mx.toNat n) fun w => ?_) (fun _ _ => trivial) (fun _ _ => rfl)
  have hs := TI.size hE w
  rw [← he] at hs
  simp only [execOp, ho, hx, Option.map_some, hl, hh, hq, Sem.run_bind, run_sliceAt_slice w t _ _ _ _ hT', run_slice_lhm w t ao len cap hT' .i64 .i64 .i64 ml mh mx h1 h2 h3 h4, hs, Result.andThen_ok]
  rfl
end

/-! ### Steps -/
/-- data of cells as they are -/
def zeroR : (t : Ty) → List Value → Option t.den
  | .raw, [v] => if h : v.oneCell' = true then some (⟨v, h⟩ : Raw) else none
  | .prod .raw b, v :: cs => if h : v.oneCell' = true then (zeroR b cs).bind fun d => some ((⟨v, h⟩ : Raw), d) else none
  | _, _ => none
theorem zeroR_ok {J : Hp} : ∀ {t : Ty} {cs : List Value} {d : t.den}, zeroR t cs = some d → t.rep.rd J cs d := by
  intro t
  induction t with
  | raw =>
    intro cs d h
    match cs, h with
    | [], h => cases h
    | _ :: _ :: _, h => cases h
    | [v], h =>
      by_cases hv' : v.oneCell' = true
      · have h : (if h : v.oneCell' = true then some (⟨v, h⟩ : Raw) else none) = some d := h
        rw [dif_pos hv'] at h
        obtain rfl := Option.some.inj h; rfl
      · have h : (if h : v.oneCell' = true then some (⟨v, h⟩ : Raw) else none) = some d := h
        rw [dif_neg hv'] at h; cases h
  | prod a b iha ihb =>
    intro cs d h
    cases a with
    | raw =>
      cases cs with
      | nil => cases h
      | cons v cs =>
        unfold zeroR at h
        split at h
        · obtain ⟨d', hd, h⟩ := Option.bind_eq_some_iff.1 h
          obtain rfl := Option.some.inj h
          exact ⟨[v], cs, rfl, rfl, ihb hd⟩
        · cases h
    | _ => cases cs <;> cases h
  | _ => intro cs d h; cases cs <;> cases h
def zeroF (e t : Ty) : Option t.den := match castTy e t (zeroD e) with
  | some z => some z
  | none => zeroR t (zeroCells e)
theorem zeroF_ok {e t : Ty} {z : t.den} (h : zeroF e t = some z) (J : Hp) : t.rep.rd J (zeroCells e) z := by
  unfold zeroF at h
  split at h
  · rename_i hz
    obtain rfl := Option.some.inj h
    exact castTy_rd hz (zero_rd e J)
  · exact zeroR_ok h
structure Vb where
  h : Hdr
  k : Nat
  l : Int
  m : Int
  r : Row
section
variable {Y : Type} (tt : TT) (s : Sg) (k : Res → Option Y)
/-- which row is it a part of, from where to where -/
def vbOf (x : Operand) : Option Vb := match opd s x with
  | some (.one (.own h)) => (rowOf h s.chs).bind fun r => some ⟨h, r.t.size, 0, (r.xs.length : Int), r⟩
  | some (.vw u h k n l m) => match rowOf u s.chs with
    | some r => chkT (Nat.beq k r.t.size) (some ⟨u, k, 0, (r.xs.length : Int), r⟩)
    | none => (rowOf h s.chs).bind fun r => chkT (Nat.beq k r.t.size) (some ⟨h, k, l, m, r⟩)
  | _ => none
def loV (x : Option Operand) (d : Int) (k : Int → Option Y) : Option Y := match x with
  | none => k d
  | some x => (asI s x).bind k
def sSliceA (T : TypeId) (x : Operand) (lo hi : Option Operand) : Option Y := (td tt T).bind fun d => d.el.bind fun E' => (td tt E').bind fun e => (vbOf s x).bind fun b => chkT (Nat.beq e.n b.k) (loV s lo 0 fun ml => loV s hi (b.m - b.l) fun mh =>
  (chk (0 ≤ ml ∧ ml ≤ mh ∧ b.l + mh ≤ (b.r.xs.length : Int))).bind fun _ => k ⟨[b.r.ent b.h], [], b.r.rest, [], .vw ⟨s.nxt, []⟩ b.h b.k b.r.xs.length (b.l + ml) (b.l + mh)⟩)
def sSlice3 (T : TypeId) (x y z q : Operand) : Option Y := (td tt T).bind fun d => d.el.bind fun E' => (td tt E').bind fun e => (vbOf s x).bind fun b => chkT (Nat.beq e.n b.k) ((asI s y).bind fun ml => (asI s z).bind fun mh => (asI s q).bind fun mx =>
  (chk (0 ≤ ml ∧ ml ≤ mh ∧ mh ≤ mx ∧ b.l + mx ≤ (b.r.xs.length : Int))).bind fun _ => k ⟨[b.r.ent b.h], [], b.r.rest, [], .any ⟨s.nxt, []⟩⟩)
def sLenV (T : TypeId) (x : Operand) : Option Y := (td tt T).bind fun d => match d.el, opd s x with
  | some _, some (.vw u h k' n l m) => k (.pure s (.one (.val (.int .i64 (m - l)))))
  | _, _ => none
def sIndexV (T : TypeId) (x i : Operand) : Option Y := (td tt T).bind fun d => d.el.bind fun E => (td tt E).bind fun e => (vbOf s x).bind fun b => chkT (Nat.beq e.n b.k) ((asI s i).bind fun i => (chk (0 ≤ i ∧ i < b.m - b.l)).bind fun _ => (getI b.r.xs (b.l + i)).bind fun a => k ⟨[b.r.ent b.h], [], b.r.rest, [], .elo b.h b.r.ver b.r.E b.r.t b.r.xs a (b.l + i) 0⟩)
def sAppV (T : TypeId) (x y : Operand) : Option Y := (td tt T).bind fun d => d.el.bind fun E => (td tt E).bind fun e => e.bytes.bind fun _ => (vbOf s x).bind fun b => (vbOf s y).bind fun c =>
  chkT (Nat.beq e.n b.k && Hdr.beq c.h b.h && Nat.beq b.r.E E && b.r.t.sh) ((chk (b.l = 0 ∧ b.m ≤ c.l ∧ c.l ≤ c.m ∧ c.m ≤ (b.r.xs.length : Int))).bind fun _ => k ⟨[], [b.r.ent b.h], b.r.rest, [(b.h, .own (.sl b.r.E b.r.t) (slideM b.r.xs b.m.toNat c.l.toNat c.m.toNat))], .vw ⟨s.nxt, []⟩ b.h b.k b.r.xs.length 0 (b.m + (c.m - c.l))⟩)
def sClearV (T : TypeId) (x : Operand) : Option Y := (td tt T).bind fun d => d.el.bind fun E => (td tt E).bind fun e => e.bytes.bind fun _ => (vbOf s x).bind fun b =>
  chkT (Nat.beq e.n b.k && Nat.beq b.r.E E && b.r.t.sh) ((zeroF e.ty b.r.t).bind fun z => (chk (b.l ≤ b.m ∧ b.m ≤ (b.r.xs.length : Int))).bind fun _ => k ⟨[], [b.r.ent b.h], b.r.rest, [(b.h, .own (.sl b.r.E b.r.t) (zeroM b.r.xs b.l.toNat b.m.toNat z))], .any ⟨s.nxt, []⟩⟩)
end
section
variable {Y : Type} {tt : TT} {s : Sg} {k : Res → Option Y} {P : Program} {w0 : World} {o : Oper} {res : Y} {x y : Operand}
theorem vbOf_ok {b : Vb} (h : vbOf s x = some b) : rowOf b.h s.chs = some b.r ∧ b.k = b.r.t.size ∧ ∀ {J : Hp} {θ : Th}, Fine P w0 J θ s → ∀ {w : World} {C : List Ch} {xs : List b.r.t.den}, xs.length = b.r.xs.length → St J w0 w (Ch.own (rSlice b.r.E b.r.t.rep) [hv θ b.h] xs :: C) → Vw (evL (envL θ s) x) (hv θ b.h) b.k b.r.xs.length b.l b.m := by
  unfold vbOf at h
  split at h
  · rename_i hh hx
    obtain ⟨r, hr, h⟩ := bind_some h
    obtain rfl := Option.some.inj h
    refine ⟨hr, rfl, fun {J θ} hf {w C xs} hl hs => ?_⟩
    have h1 := vw_self (k := r.t.size) hs
    rw [hl] at h1
    show Vw (evL (envL θ s) x) (hv θ hh) r.t.size r.xs.length 0 _
    rw [opd_ev (θ := θ) hx]
    exact h1
  · rename_i u hh k' n l m hx
    split at h
    · rename_i r hr
      obtain ⟨hk, h⟩ := chkT_ok h
      have hk := Nat.eq_of_beq_eq_true hk
      obtain rfl := Option.some.inj h
      refine ⟨hr, hk, fun {J θ} hf {w C xs} hl hs => ?_⟩
      have h1 := vw_self (k := k') hs
      rw [hl] at h1
      show Vw (evL (envL θ s) x) (hv θ u) k' r.xs.length 0 _
      rw [opd_ev (θ := θ) hx]
      exact h1
    · obtain ⟨r, hr, h⟩ := bind_some h
      obtain ⟨hk, h⟩ := chkT_ok h
      have hk := Nat.eq_of_beq_eq_true hk
      obtain rfl := Option.some.inj h
      refine ⟨hr, hk, fun {J θ} hf {w C xs} hl hs => ?_⟩
      have hxo : u.id < s.nxt ∧ hh.id < s.nxt ∧ Vw (hv θ u) (hv θ hh) k' n l m ∧ m ≤ (n : Int) := opd_ok hf hx
      have h1 := hxo.2.2.1
      obtain rfl := vw_len hs h1
      show Vw (evL (envL θ s) x) (hv θ hh) k' r.xs.length l m
      rw [opd_ev (θ := θ) hx, ← hl]
      exact h1
  · cases h
theorem loV_ok {Z : Type} {x : Option Operand} {d : Int} {k : Int → Option Z} {z : Z} (h : loV s x d k = some z) : ∃ m : Option Int, k (m.getD d) = some z ∧ ∀ θ, oI (evL (envL θ s)) x m := by
  unfold loV at h
  split at h
  · exact ⟨none, h, fun _ => trivial⟩
  · obtain ⟨q, hq, h⟩ := bind_some h
    exact ⟨some q, h, fun θ => asI_ok hq θ⟩
/-- a part is looked at: its value is new -/
theorem good_vw {h : Hdr} {r : Row} {kk : Nat} {l m : Int} (hr : rowOf h s.chs = some r) (hm : m ≤ (r.xs.length : Int)) (hop : ∀ J θ, Fine P w0 J θ s → OpT P J w0 o (evL (envL θ s)) [toCh P θ (r.ent h)] (fun v => Vw v (hv θ h) kk r.xs.length l m) (fun _ => [toCh P θ (r.ent h)])) : Good P w0 s o ⟨[r.ent h], [], r.rest, [], .vw ⟨s.nxt, []⟩ h kk r.xs.length l m⟩ := by
  obtain ⟨hp, -⟩ := rowOf_ok hr
  refine ⟨perm1 hp, says_plain rfl, fun J θ hf => OpT.weak (hop J θ hf) (fun u hu => ?_) (fun u hu => rfl)⟩
  have hok := ent_ok hf hp
  refine ⟨⟨Nat.lt_succ_self _, Nat.lt_succ_of_lt hok.1, ?_, hm⟩, hv_new, fun g hg => by cases hg⟩
  rw [hv_new, show hv (upd θ s.nxt u) h = hv θ h from hv_same Same.upd hok.1]
  exact hu
theorem sSliceA_ok (hT : TTok P tt) {T : TypeId} {lo hi : Option Operand} (ho : o.op = .slice T x lo hi none) (h : sSliceA tt s k T x lo hi = some res) : Oks P w0 s o k res := by
  obtain ⟨d, hd, h⟩ := bind_some h
  obtain ⟨E', hE, h⟩ := bind_some h
  obtain ⟨e, he, h⟩ := bind_some h
  obtain ⟨b, hb, h⟩ := bind_some h
  obtain ⟨hn, h⟩ := chkT_ok h
  have hn : e.n = b.k := Nat.eq_of_beq_eq_true hn
  obtain ⟨ml, h, hml⟩ := loV_ok h
  obtain ⟨mh, h, hmh⟩ := loV_ok h
  obtain ⟨u, hc, h⟩ := bind_some h
  obtain ⟨c1, c2, c3⟩ := chk_some hc
  obtain ⟨hr, hk, hvw⟩ := vbOf_ok (P := P) (w0 := w0) hb
  refine ⟨_, h, good_vw hr c3 fun J θ hf => fun w C hs => ?_⟩
  have h1 := hvw hf rfl hs
  obtain ⟨ao, cap, hu, hl0, hlm⟩ := h1.hd
  have hcap : b.m.toNat - b.l.toNat ≤ cap ∧ b.l + cap ≥ b.r.xs.length := by
    rcases h1 with ⟨-, q, e1, e2, e3⟩ | ⟨g, ofs, cp, x', -, q, q1, q2, q3, q4, q5, q6⟩
    · rw [q] at hu; injection hu with _ _ e4
      exact ⟨by omega, by omega⟩
    · rw [q] at hu; injection hu with _ _ e4
      exact ⟨by omega, by omega⟩
  have e1 : mh.getD (b.m - b.l) = mh.getD ((b.m.toNat - b.l.toNat : Nat) : Int) := by
    cases mh with
    | none => show b.m - b.l = _; simp only [Option.getD_none]; omega
    | some _ => rfl
  rw [e1] at c2 c3
  have := opT_sliceV (P := P) (I := J) (w0 := w0) (ev := evL (envL θ s)) ((hT.get hd).el _ hE) (hT.get he).ti ho hu (hml θ) (hmh θ) hcap.1 c1 c2 (by omega) w (toCh P θ (b.r.ent b.h) :: C) hs
  refine this.imp fun v w' hv' => ⟨?_, hv'.2⟩
  rw [e1]
  exact vw_slice h1 c1 c2 c3 hu (by rw [hv'.1, hn])
theorem sSlice3_ok (hT : TTok P tt) {T : TypeId} {y z q : Operand} (ho : o.op = .slice T x (some y) (some z) (some q)) (h : sSlice3 tt s k T x y z q = some res) : Oks P w0 s o k res := by
  obtain ⟨d, hd, h⟩ := bind_some h
  obtain ⟨E', hE, h⟩ := bind_some h
  obtain ⟨e, he, h⟩ := bind_some h
  obtain ⟨b, hb, h⟩ := bind_some h
  obtain ⟨hn, h⟩ := chkT_ok h
  obtain ⟨ml, hml, h⟩ := bind_some h
  obtain ⟨mh, hmh, h⟩ := bind_some h
  obtain ⟨mx, hmx, h⟩ := bind_some h
  obtain ⟨u, hc, h⟩ := bind_some h
  obtain ⟨c1, c2, c3, c4⟩ := chk_some hc
  obtain ⟨hr, hk, hvw⟩ := vbOf_ok (P := P) (w0 := w0) hb
  obtain ⟨hp, -⟩ := rowOf_ok hr
  refine ⟨_, h, perm1 hp, says_plain rfl, fun J θ hf => OpT.weak (fact := fun _ => True) (gv := fun _ => [toCh P θ (b.r.ent b.h)]) (fun w C hs => ?_) (fun u hu => ⟨Nat.lt_succ_self _, hv_new, fun g hg => by cases hg⟩) (fun u hu => rfl)⟩
  have h1 := hvw hf rfl hs
  obtain ⟨ao, cap, hu, hl0, hlm⟩ := h1.hd
  have hcap : b.l + cap ≥ b.r.xs.length := by
    rcases h1 with ⟨-, q, e1, e2, e3⟩ | ⟨g, ofs, cp, x', -, q, q1, q2, q3, q4, q5, q6⟩
    · rw [q] at hu; injection hu with _ _ e4
      omega
    · rw [q] at hu; injection hu with _ _ e4
      omega
  exact opT_slice3 (P := P) (I := J) (w0 := w0) (ev := evL (envL θ s)) ((hT.get hd).el _ hE) (hT.get he).ti ho hu (asI_ok hml θ) (asI_ok hmh θ) (asI_ok hmx θ) c1 c2 c3 (by omega) w (toCh P θ (b.r.ent b.h) :: C) hs
theorem sLenV_ok (hT : TTok P tt) {T : TypeId} (ho : o.op = .call { callee := .builtin .len, args := #[x], argTypes := #[T] }) (h : sLenV tt s k T x = some res) : Oks P w0 s o k res := by
  obtain ⟨d, hd, h⟩ := bind_some h
  split at h
  · rename_i E u hh k' n l m he hx
    refine kv_ok h rfl fun J θ hf => ?_
    have hxo : u.id < s.nxt ∧ hh.id < s.nxt ∧ Vw (hv θ u) (hv θ hh) k' n l m ∧ m ≤ (n : Int) := opd_ok hf hx
    obtain ⟨a, c, e, h1, h2⟩ := hxo.2.2.1.hd
    have e2 : ((m.toNat - l.toNat : Nat) : Int) = m - l := by omega
    have := opT_len_s (P := P) (I := J) (w0 := w0) (o := o) (ev := evL (envL θ s)) ((hT.get hd).el _ he) ho ((opd_ev (θ := θ) hx).trans e)
    rw [e2] at this
    exact this
  · cases h
theorem sIndexV_ok (hT : TTok P tt) {T : TypeId} {i : Operand} (ho : o.op = .indexAddr T x i) (h : sIndexV tt s k T x i = some res) : Oks P w0 s o k res := by
  obtain ⟨d, hd, h⟩ := bind_some h
  obtain ⟨E', hE, h⟩ := bind_some h
  obtain ⟨e, he, h⟩ := bind_some h
  obtain ⟨b, hb, h⟩ := bind_some h
  obtain ⟨hn, h⟩ := chkT_ok h
  have hn : e.n = b.k := Nat.eq_of_beq_eq_true hn
  obtain ⟨iv, hi, h⟩ := bind_some h
  obtain ⟨u, hc, h⟩ := bind_some h
  obtain ⟨c1, c2⟩ := chk_some hc
  obtain ⟨a, ha, h⟩ := bind_some h
  obtain ⟨hr, hk, hvw⟩ := vbOf_ok (P := P) (w0 := w0) hb
  obtain ⟨hp, -⟩ := rowOf_ok hr
  refine ⟨_, h, perm1 hp, says_plain rfl, fun J θ hf => OpT.weak (fact := (· = pt (hv θ b.h) ((b.l + iv).toNat * b.r.t.size + 0))) (gv := fun _ => [toCh P θ (b.r.ent b.h)]) (fun w C hs => ?_) (fun u hu => ?_) (fun u hu => rfl)⟩
  · have h1 := hvw hf rfl hs
    have hT2 := (hT.get hd).el _ hE
    have hti := (hT.get he).ti
    rcases h1 with ⟨-, q, e1, e2, e3⟩ | ⟨g, ofs, cp, x', q0, q, q1, q2, q3, q4, q5, q6⟩
    · exfalso; omega
    · have hx' : x' = b.l.toNat * b.k := by
        rcases q6 with q6 | q6
        · exfalso; omega
        · exact q6
      subst hx'
      have hval : pt (hv θ b.h) ((b.l + iv).toNat * b.r.t.size + 0) = .pointer (some ⟨g, ofs + b.l.toNat * b.k + iv.toNat * e.n, none⟩) := by
        rw [q0]
        show Value.pointer (some ⟨g, ofs + ((b.l + iv).toNat * b.r.t.size + 0), none⟩) = _
        rw [show (b.l + iv).toNat = b.l.toNat + iv.toNat from by omega, ← hk, hn, Nat.add_mul]
        congr 3; omega
      rw [hval]
      have h2 : iv < ((b.m.toNat - b.l.toNat : Nat) : Int) := by omega
      have : OpT P J w0 o (evL (envL θ s)) [] (· = .pointer (some ⟨g, ofs + b.l.toNat * b.k + iv.toNat * e.n, none⟩)) (fun _ => []) := by
        refine opT_val fun w => ?_
        simp [execOp, ho, q, asI_ok hi θ, Instr.indexAt, asIntOf, run_underlying hT2, hti.run_size, c1, h2, Result.andThen, Addr.add_mid]
      exact this w (toCh P θ (b.r.ent b.h) :: C) hs
  · have hok := ent_ok hf hp
    refine ⟨⟨Nat.lt_succ_of_lt hok.1, ha, (rowOf_mem hr hok.2.1).newer (Res.newer (perm1 hp) (says_plain rfl J θ hf)) (Nat.le_succ _)⟩, ?_, fun g hg => by cases hg⟩
    rw [hu]
    show pt (hv (upd θ s.nxt _) b.h) _ = pt (hv θ b.h) _
    rw [show hv (upd θ s.nxt _) b.h = hv θ b.h from hv_same Same.upd hok.1]
theorem good_set {h : Hdr} {r : Row} {xs : List r.t.den} {av : AV} {fact : Th → Value → Prop} (hr : rowOf h s.chs = some r) (hop : ∀ J θ, Fine P w0 J θ s → OpT P J w0 o (evL (envL θ s)) [toCh P θ (r.ent h)] (fact θ) (fun _ => [Ch.own (rSlice r.E r.t.rep) [hv θ h] xs]))
    (hav : ∀ J θ u, Fine P w0 J θ s → fact θ u → h.id < s.nxt → av.ok P w0 J (upd θ s.nxt u) (s.nxt + 1) ((h, s.nxt, .own (.sl r.E r.t) xs) :: r.rest) ∧ av.v (upd θ s.nxt u) = u) : Good P w0 s o ⟨[], [r.ent h], r.rest, [(h, .own (.sl r.E r.t) xs)], av⟩ := by
  obtain ⟨hp, -⟩ := rowOf_ok hr
  refine ⟨perm2 hp, says_plain rfl, fun J θ hf => OpT.weak (hop J θ hf) (fun u hu => ?_) (fun u hu => ?_)⟩
  · have hok := ent_ok hf hp
    obtain ⟨q1, q2⟩ := hav J θ u hf hu hok.1
    refine ⟨q1, q2, fun g hg => ?_⟩
    obtain rfl := List.mem_singleton.1 hg
    exact ⟨Nat.lt_succ_of_lt hok.1, Nat.lt_succ_self _, trivial⟩
  · have hok := ent_ok hf hp
    show [Ch.own _ [hv θ h] xs] = [Ch.own _ [hv (upd θ s.nxt u) h] xs]
    rw [show hv (upd θ s.nxt u) h = hv θ h from hv_same Same.upd hok.1]
    rfl
theorem sAppV_ok (hT : TTok P tt) {T : TypeId} (ho : o.op = .call { callee := .builtin .append, args := #[x, y], argTypes := #[T, T] }) (h : sAppV tt s k T x y = some res) : Oks P w0 s o k res := by
  obtain ⟨d, hd, h⟩ := bind_some h
  obtain ⟨E, hE, h⟩ := bind_some h
  obtain ⟨e, he, h⟩ := bind_some h
  obtain ⟨by_, hby, h⟩ := bind_some h
  obtain ⟨b, hb, h⟩ := bind_some h
  obtain ⟨c, hcv, h⟩ := bind_some h
  obtain ⟨hn, h⟩ := chkT_ok h
  simp only [Bool.and_eq_true] at hn
  obtain ⟨⟨⟨n1, n2⟩, n3⟩, n4⟩ := hn
  have n1 : e.n = b.k := Nat.eq_of_beq_eq_true n1
  have n2 := Hdr.beq_eq n2
  have n3 : b.r.E = E := Nat.eq_of_beq_eq_true n3
  obtain ⟨u, hc, h⟩ := bind_some h
  obtain ⟨c1, c2, c3, c4⟩ := chk_some hc
  obtain ⟨hr, hk, hvw⟩ := vbOf_ok (P := P) (w0 := w0) hb
  obtain ⟨hr2, hk2, hvw2⟩ := vbOf_ok (P := P) (w0 := w0) hcv
  have hcr : c.r = b.r := by
    rw [n2] at hr2
    exact Option.some.inj (hr2.symm.trans hr)
  have hk3 : c.k = b.k := by rw [hk2, hk, hcr]
  have hdk := hT.get hd
  have hek := hT.get he
  obtain ⟨z, hz1, hz2, hz3⟩ := hek.zero by_ hby
  have hTE : P.underlying T = some (.slice b.r.E) := (hdk.el E hE).trans (by rw [n3])
  refine ⟨_, h, good_set (fact := fun θ v => Vw v (hv θ b.h) b.k b.r.xs.length 0 (b.m + (c.m - c.l))) hr (fun J θ hf => fun w C hs => ?_) (fun J θ u hf hu hlt => ⟨⟨Nat.lt_succ_self _, Nat.lt_succ_of_lt hlt, ?_, by omega⟩, hv_new⟩)⟩
  · have h1 := hvw hf rfl hs
    have h2 : Vw (evL (envL θ s) y) (hv θ b.h) b.k b.r.xs.length c.l c.m := by
      have := hvw2 hf rfl (xs := c.r.xs) (by rw [hcr, n2]; exact hs)
      rwa [hcr, n2, hk3] at this
    have hs' : St J w0 w (Ch.own (rSlice b.r.E b.r.t.rep) [hv θ b.h] b.r.xs :: C) := hs
    rcases h1 with ⟨q0, q, e1, e2, e3⟩ | ⟨g, ofs, cp, x', q0, q, q1, q2, q3, q4, q5, q6⟩
    · rcases h2 with ⟨p0, p, f1, f2, f3⟩ | ⟨g2, ofs2, cp2, y', p0, p, -⟩
      · have hx0 : b.r.xs = [] := List.eq_nil_of_length_eq_zero e1
        have hrun : (Builtin.append_ #[T, T] o.type #[.slice none 0 0, .slice none 0 0]).run P w = .ok (.slice none 0 0) w := by
          obtain ⟨info, hi', -, -, -⟩ := info_parts hz1
          rw [← n3] at hi'
          exact run_append_none hTE hi' (Nat.le_refl _)
        rw [run_call_append ho q p hrun]
        refine ⟨.inl ⟨q0, rfl, e1, rfl, by omega⟩, ?_⟩
        have : slideM b.r.xs b.m.toNat c.l.toNat c.m.toNat = b.r.xs := by rw [hx0]; simp [slideM]
        rw [this]
        exact hs
      · exfalso; rw [q0] at p0; cases p0
    · rcases h2 with ⟨p0, p, f1, f2, f3⟩ | ⟨g2, ofs2, cp2, y', p0, p, p1, p2, p3, p4, p5, p6⟩
      · exfalso; rw [q0] at p0; cases p0
      · rw [q0] at p0
        simp only [Value.slice.injEq, Option.some.injEq, Addr.mk.injEq, and_true, true_and] at p0
        obtain ⟨⟨rfl, rfl⟩, rfl⟩ := p0
        have hb0 : b.l.toNat = 0 := by omega
        have hx0 : x' = 0 := by rw [hb0, Nat.zero_mul] at q5; omega
        subst hx0
        rw [hb0, Nat.sub_zero, Nat.sub_zero, Nat.add_zero] at q
        rw [q0] at hs' ⊢
        have := opT_append_vw (P := P) (I := J) (w0 := w0) (o := o) (xs := b.r.xs) (ev := evL (envL θ s)) (Ty.sh_ok n4) (Ty.cpy n4) hTE (by rw [n3]; exact hz1) (by rw [n1, hk]; exact Ty.size_pos _) (b.r.t.rep_size.trans (hk.symm.trans n1.symm)) ho q p (fun hlt => ?_) (by omega) (by omega) (by omega) w C (by simpa using hs')
        · refine this.imp fun v w' hv' => ⟨?_, hv'.2⟩
          refine .inr ⟨g, ofs, cp, 0, rfl, ?_, by omega, by omega, q3, by omega, Nat.zero_le _, .inr (by simp)⟩
          rw [hv'.1]
          simp only [Nat.add_zero, Int.toNat_zero, Nat.sub_zero]
          congr 1; omega
        · rcases p6 with p6 | p6
          · exfalso; omega
          · rw [p6, n1]
  · rw [hv_new, show hv (upd θ s.nxt u) b.h = hv θ b.h from hv_same Same.upd hlt]
    exact hu
theorem sClearV_ok (hT : TTok P tt) {T : TypeId} (ho : o.op = .call { callee := .builtin .clear, args := #[x], argTypes := #[T] }) (h : sClearV tt s k T x = some res) : Oks P w0 s o k res := by
  obtain ⟨d, hd, h⟩ := bind_some h
  obtain ⟨E, hE, h⟩ := bind_some h
  obtain ⟨e, he, h⟩ := bind_some h
  obtain ⟨by_, hby, h⟩ := bind_some h
  obtain ⟨b, hb, h⟩ := bind_some h
  obtain ⟨hn, h⟩ := chkT_ok h
  simp only [Bool.and_eq_true] at hn
  obtain ⟨⟨n1, n3⟩, n4⟩ := hn
  have n1 : e.n = b.k := Nat.eq_of_beq_eq_true n1
  have n3 : b.r.E = E := Nat.eq_of_beq_eq_true n3
  obtain ⟨z, hz, h⟩ := bind_some h
  obtain ⟨u, hc, h⟩ := bind_some h
  obtain ⟨c3, c4⟩ := chk_some hc
  obtain ⟨hr, hk, hvw⟩ := vbOf_ok (P := P) (w0 := w0) hb
  have hdk := hT.get hd
  have hek := hT.get he
  obtain ⟨zv, hz1, hz2, hz3⟩ := hek.zero by_ hby
  have hzs : zv.cells.size = e.n := by rw [hz2, List.size_toArray, zero_len, hek.sz]
  have hTE : P.underlying T = some (.slice b.r.E) := (hdk.el E hE).trans (by rw [n3])
  have hzr : ∀ J, b.r.t.rep.rd J zv.cells.toList z := fun J => by
    rw [hz2]; exact zeroF_ok hz J
  refine ⟨_, h, good_set (fact := fun _ _ => True) hr (fun J θ hf => fun w C hs => ?_) (fun J θ u hf hu hlt => ⟨Nat.lt_succ_self _, hv_new⟩)⟩
  have h1 := hvw hf rfl hs
  have hs' : St J w0 w (Ch.own (rSlice b.r.E b.r.t.rep) [hv θ b.h] b.r.xs :: C) := hs
  rcases h1 with ⟨q0, q, e1, e2, e3⟩ | ⟨g, ofs, cp, x', q0, q, q1, q2, q3, q4, q5, q6⟩
  · have hx0 : b.r.xs = [] := List.eq_nil_of_length_eq_zero e1
    rw [run_call_clear ho q (run_clear_empty w T b.r.E o.type hTE _ _)]
    refine ⟨trivial, ?_⟩
    have : zeroM b.r.xs b.l.toNat b.m.toNat z = b.r.xs := by rw [hx0, e2, e3]; simp [zeroM]
    rw [this]
    exact hs
  · rw [q0] at hs' ⊢
    exact opT_clear_vw (P := P) (I := J) (w0 := w0) (o := o) (ev := evL (envL θ s)) (Ty.sh_ok n4) (Ty.cpy n4) hTE (by rw [n3]; exact hz1) (by rw [n1, hk]; exact Ty.size_pos _) (b.r.t.rep_size.trans (hk.symm.trans n1.symm)) hzs (hzr J) ho q (fun hlt => by
      rcases q6 with q6 | q6
      · exfalso; omega
      · rw [q6, n1]) (by omega) (by omega) w C hs'
end

/-! ### A part taken for the whole -/
theorem own_view {α : Type} {E : TypeId} {R : Rep α} {I : Hp} {w0 w : World} {C : List Ch} {u v : Value} {xs : List α} {l m : Int} {k : Nat} (h : St I w0 w (Ch.own (rSlice E R) [v] xs :: C)) (hR : R.size = k) (hv : Vw u v k xs.length l m) (hm : m ≤ (xs.length : Int)) : St I w0 w (Ch.own (rSlice E R) [u] ((xs.take m.toNat).drop l.toNat) :: C) := by
  obtain ⟨h1, h2, F, ⟨G, K, rfl, k0, e⟩, h4, h5⟩ := h
  obtain ⟨hl, k0⟩ := k0
  rcases hv with ⟨rfl, rfl, hn, rfl, rfl⟩ | ⟨g, ofs, cap, x, rfl, rfl, q1, q2, q3, q4, q5, q6⟩
  · have hx : xs = [] := List.eq_nil_of_length_eq_zero hn
    subst hx
    exact ⟨h1, h2, G ++ K, ⟨G, K, rfl, ⟨Nat.zero_le _, k0⟩, e⟩, h4, h5⟩
  · rcases k0 with ⟨hv', rfl, rfl⟩ | ⟨g', ofs', cap', cur, K1, hv', k1, k2, k3, k4, rfl, k5⟩
    · simp at hv'
    · simp only [List.cons.injEq, Value.slice.injEq, Option.some.injEq, Addr.mk.injEq, and_true, true_and] at hv'
      obtain ⟨⟨rfl, rfl⟩, rfl⟩ := hv'
      rw [hR] at k4
      have hlm : l.toNat ≤ m.toNat := by omega
      have hlen : ((xs.take m.toNat).drop l.toNat).length = m.toNat - l.toNat := by rw [List.length_drop, List.length_take]; omega
      have e1 : xs = (xs.take m.toNat).take l.toNat ++ ((xs.take m.toNat).drop l.toNat ++ xs.drop m.toNat) := by rw [← List.append_assoc, List.take_append_drop, List.take_append_drop]
      rw [e1] at k5
      obtain ⟨c1, c2, G1, G2, f1, f2, rfl, -, p1⟩ := k5.cut2
      obtain ⟨G3, G4, rfl, p2, -⟩ := p1.parts
      have hp : ((g :: (G1 ++ (G3 ++ G4))) ++ K).Perm (((g :: G3) ++ K) ++ (G1 ++ G4)) := by
        show (g :: ((G1 ++ (G3 ++ G4)) ++ K)).Perm (g :: ((G3 ++ K) ++ (G1 ++ G4)))
        refine List.Perm.cons g ?_
        rw [List.append_assoc, List.append_assoc, List.append_assoc]
        refine (List.perm_append_comm_assoc G1 G3 _).trans (List.Perm.append_left G3 ?_)
        refine (List.perm_append_comm_assoc G1 G4 K).trans ?_
        rw [← List.append_assoc]
        refine List.perm_append_comm.trans ?_
        exact List.Perm.append_left K List.perm_append_comm
      have hl1 : ((xs.take m.toNat).take l.toNat).length = l.toNat := by rw [List.length_take, List.length_take]; omega
      rw [hl1, hR] at f2
      have hdr : cur.toList.drop (ofs + l.toNat * k) = c2 := by
        rw [← List.drop_drop, f1]
        exact List.drop_left' f2
      have hbx : ∀ c, OwnEls R I w c ((xs.take m.toNat).drop l.toNat) G3 → St I w0 w (Ch.own (rSlice E R) [.slice (some ⟨g, ofs + x, none⟩) (m.toNat - l.toNat) (cap - l.toNat)] ((xs.take m.toNat).drop l.toNat) :: C) ∨ c ≠ cur.toList.drop (ofs + x) := fun c hc => by
        by_cases hcc : c = cur.toList.drop (ofs + x)
        · subst hcc
          have m1 : l.toNat * k + (cap - l.toNat) * k = cap * k := by rw [← Nat.add_mul]; congr 1; omega
          refine .inl ⟨h1, h2, (g :: G3) ++ K, ⟨g :: G3, K, rfl, ⟨by rw [hlen]; omega, .inr ⟨g, ofs + x, cap - l.toNat, cur, G3, by rw [hlen], k1, by rw [hlen]; omega, by omega, by rw [hR]; omega, rfl, hc⟩⟩, e⟩, (List.nodup_append.1 (hp.nodup_iff.1 h4)).1, fun b hb => h5 b (hp.mem_iff.2 (List.mem_append_left _ hb))⟩
        · exact .inr hcc
      rcases q6 with q6 | q6
      · have hz : (xs.take m.toNat).drop l.toNat = [] := List.eq_nil_of_length_eq_zero (by rw [hlen]; omega)
        have hG3 : G3 = [] := by rw [hz] at p2; exact p2
        rcases hbx (cur.toList.drop (ofs + x)) (by rw [hz, hG3]; rfl) with r | r
        · exact r
        · exact absurd rfl r
      · subst q6
        rw [← hdr] at p2
        rcases hbx _ p2 with r | r
        · exact r
        · exact absurd rfl r
/-- slots that look at the head of an own row: the row is cut off there -/
def viewE (u : Hdr) : List (Nat × Nat × AV) → List (Nat × Nat × AV)
  | [] => []
  | (t, ver, .vw u' h k n l m) :: es => (match Hdr.beq u' u with | true => (t, ver, .one (.own u)) | false => (t, ver, .vw u' h k n l m)) :: viewE u es
  | e :: es => e :: viewE u es
def view1 {Y : Type} (s : Sg) (v : AV) (kk : Sg → Option Y) : Option Y := match v with
  | .vw u h k n l m => match rowOf u s.chs with
    | some _ => kk ⟨viewE u s.env, s.chs, s.nxt + 1⟩
    | none => match rowOf h s.chs with
      | some r => chkT (Nat.beq k r.t.size) (kk ⟨viewE u s.env, (u, s.nxt, .own (.sl r.E r.t) ((r.xs.take m.toNat).drop l.toNat)) :: r.rest, s.nxt + 1⟩)
      | none => kk s
  | _ => kk s
def viewL {Y : Type} : List AV → Sg → (Sg → Option Y) → Option Y
  | [], s, kk => kk s
  | v :: vs, s, kk => view1 s v fun s => viewL vs s kk
section
variable {P : Program} {I J : Hp} {w0 w : World} {F : Ch} {n : Nat} {θ : Th} {s : Sg} {a : Act}
theorem viewE_ok {u : Hdr} {N : Nat} {chs : List Ent} : ∀ {l : List (Nat × Nat × AV)}, (∀ e ∈ l, e.2.2.ok P w0 J θ N chs) → (∀ e ∈ viewE u l, e.2.2.ok P w0 J θ N chs ∧ ∃ e0 ∈ l, e0.2.1 = e.2.1) ∧ ((viewE u l).map fun e => (e.1, e.2.2.v θ)) = (l.map fun e => (e.1, e.2.2.v θ)) ∧ ((l.Pairwise fun a b => a.2.1 ≠ b.2.1) → (viewE u l).Pairwise fun a b => a.2.1 ≠ b.2.1)
  | [], h => ⟨fun e he => (by cases he), rfl, fun _ => List.Pairwise.nil⟩
  | e :: es, h => by
    obtain ⟨k1, k2, k3⟩ := viewE_ok (u := u) (l := es) fun e he => h e (List.mem_cons_of_mem _ he)
    have hh := h e (List.mem_cons_self ..)
    have fin : ∀ e', e'.1 = e.1 → e'.2.1 = e.2.1 → e'.2.2.ok P w0 J θ N chs → e'.2.2.v θ = e.2.2.v θ → (∀ q ∈ e' :: viewE u es, q.2.2.ok P w0 J θ N chs ∧ ∃ e0 ∈ e :: es, e0.2.1 = q.2.1) ∧ ((e' :: viewE u es).map fun e => (e.1, e.2.2.v θ)) = ((e :: es).map fun e => (e.1, e.2.2.v θ)) ∧ (((e :: es).Pairwise fun a b => a.2.1 ≠ b.2.1) → (e' :: viewE u es).Pairwise fun a b => a.2.1 ≠ b.2.1) := fun e' f1 f2 f3 f4 => by
      refine ⟨fun q hq => ?_, ?_, fun hp => ?_⟩
      · rcases List.mem_cons.1 hq with rfl | hq
        · exact ⟨f3, e, List.mem_cons_self .., f2.symm⟩
        · obtain ⟨r1, e0, r2, r3⟩ := k1 q hq
          exact ⟨r1, e0, List.mem_cons_of_mem _ r2, r3⟩
      · rw [List.map_cons, List.map_cons, k2, f1, f4]
      · obtain ⟨p1, p2⟩ := List.pairwise_cons.1 hp
        refine List.pairwise_cons.2 ⟨fun q hq => ?_, k3 p2⟩
        obtain ⟨r1, e0, r2, r3⟩ := k1 q hq
        rw [f2, ← r3]
        exact p1 e0 r2
    obtain ⟨t, ver, av⟩ := e
    cases av with
    | vw u' h' k' n' l' m' =>
      have hh : u'.id < N ∧ h'.id < N ∧ Vw (hv θ u') (hv θ h') k' n' l' m' ∧ m' ≤ (n' : Int) := hh
      cases hb : Hdr.beq u' u with
      | true =>
        have := Hdr.beq_eq hb
        subst this
        have e1 : viewE u' ((t, ver, .vw u' h' k' n' l' m') :: es) = (t, ver, .one (.own u')) :: viewE u' es := by simp [viewE, hb]
        rw [e1]
        exact fin (t, ver, .one (.own u')) rfl rfl ⟨hh.1, hh.2.2.1.one⟩ rfl
      | false =>
        have e1 : viewE u ((t, ver, .vw u' h' k' n' l' m') :: es) = (t, ver, .vw u' h' k' n' l' m') :: viewE u es := by simp [viewE, hb]
        rw [e1]
        exact fin _ rfl rfl hh rfl
    | _ => exact fin _ rfl rfl hh rfl
theorem view1_ok {Y : Type} {kk : Sg → Option Y} {y : Y} {v : AV} (h : view1 s v kk = some y) (hv' : v.ok P w0 J θ s.nxt s.chs) (hS : Sim P I w0 F n J θ s a w) : ∃ s', kk s' = some y ∧ Sim P I w0 F n J θ s' a w ∧ Newer s.nxt s.chs s'.chs ∧ s.nxt ≤ s'.nxt := by
  have base : Sim P I w0 F n J θ s a w ∧ Newer s.nxt s.chs s.chs ∧ s.nxt ≤ s.nxt := ⟨hS, Newer.rfl, Nat.le_refl _⟩
  unfold view1 at h
  split at h
  · rename_i u hh k N l m
    have hvo : u.id < s.nxt ∧ hh.id < s.nxt ∧ Vw (hv θ u) (hv θ hh) k N l m ∧ m ≤ (N : Int) := hv'
    split at h
    · obtain ⟨q1, q2, q3⟩ := viewE_ok (u := u) (P := P) (w0 := w0) (J := J) (θ := θ) (N := s.nxt) (chs := s.chs) hS.fine.env
      refine ⟨_, h, ⟨hS.le, ?_, hS.st, fun e he => AV.ok_same Same.rfl (Nat.le_succ _) Newer.rfl (q1 e he).1 Hp.le.rfl, fun e he => ?_, q3 hS.fine.nd, fun e he => okE_same Same.rfl (Nat.le_succ _) Newer.rfl (hS.fine.chs e he) Hp.le.rfl⟩, Newer.rfl, Nat.le_succ _⟩
      · show Agr n a ((viewE u s.env).map _); rw [q2]; exact hS.agr
      · obtain ⟨-, e0, r1, r2⟩ := q1 e he
        rw [← r2]; exact Nat.lt_succ_of_lt (hS.fine.ver e0 r1)
    · split at h
      · rename_i r hr
        · obtain ⟨hk, h⟩ := chkT_ok h
          have hk := Nat.eq_of_beq_eq_true hk
          obtain ⟨hp, -⟩ := rowOf_ok hr
          obtain ⟨q1, q2, q3⟩ := viewE_ok (u := u) (P := P) (w0 := w0) (J := J) (θ := θ) (N := s.nxt) (chs := s.chs) hS.fine.env
          have hst := hS.st.perm ((hp.map (toCh P θ)).append_right [F])
          have hst : St J w0 w (Ch.own (rSlice r.E r.t.rep) [hv θ hh] r.xs :: (r.rest.map (toCh P θ) ++ [F])) := hst
          have hN := vw_len hst hvo.2.2.1
          subst hN
          have hst2 := own_view hst (r.t.rep_size.trans hk.symm) hvo.2.2.1 hvo.2.2.2
          have hnew : Newer s.nxt s.chs ((u, s.nxt, .own (.sl r.E r.t) ((r.xs.take m.toNat).drop l.toNat)) :: r.rest) := fun e he h' ver' c hs' => by
            rcases List.mem_cons.1 he with rfl | he
            · obtain ⟨rfl, hs'⟩ := hs'
              rcases hs' with ⟨rfl, rfl⟩ | hs'
              · exact .inl (Nat.le_refl _)
              · exact hs'.elim
            · exact .inr ⟨e, hp.mem_iff.2 (List.mem_cons_of_mem _ he), hs'⟩
          refine ⟨_, h, ⟨hS.le, ?_, hst2, fun e he => AV.ok_same Same.rfl (Nat.le_succ _) hnew (q1 e he).1 Hp.le.rfl, fun e he => ?_, q3 hS.fine.nd, fun e he => ?_⟩, hnew, Nat.le_succ _⟩
          · show Agr n a ((viewE u s.env).map _); rw [q2]; exact hS.agr
          · obtain ⟨-, e0, r1, r2⟩ := q1 e he
            rw [← r2]; exact Nat.lt_succ_of_lt (hS.fine.ver e0 r1)
          · rcases List.mem_cons.1 he with rfl | he
            · exact ⟨Nat.lt_succ_of_lt hvo.1, Nat.lt_succ_self _, trivial⟩
            · exact okE_same Same.rfl (Nat.le_succ _) hnew (hS.fine.chs e (hp.mem_iff.2 (List.mem_cons_of_mem _ he))) Hp.le.rfl
      · exact ⟨_, h, base⟩
  · exact ⟨_, h, base⟩
theorem viewL_ok {Y : Type} {kk : Sg → Option Y} {y : Y} : ∀ {vs : List AV} {s : Sg}, viewL vs s kk = some y → (∀ v ∈ vs, v.ok P w0 J θ s.nxt s.chs) → Sim P I w0 F n J θ s a w → ∃ s', kk s' = some y ∧ Sim P I w0 F n J θ s' a w ∧ s.nxt ≤ s'.nxt
  | [], s, h, _, hS => ⟨s, h, hS, Nat.le_refl _⟩
  | v :: vs, s, h, hv', hS => by
    obtain ⟨s1, e, h1, h2, h3⟩ := view1_ok (show view1 s v (fun s => viewL vs s kk) = some y from h) (hv' v (List.mem_cons_self ..)) hS
    obtain ⟨s', e', k1, k2⟩ := viewL_ok (vs := vs) e (fun x hx => AV.ok_same Same.rfl h3 h2 (hv' x (List.mem_cons_of_mem _ hx)) Hp.le.rfl) h1
    exact ⟨s', e', k1, Nat.le_trans h3 k2⟩
end
end Go.Proofs.YtimjccbdngajoaaGreat.R
/- Maps of the function's own. No program text is named here. -/
set_option linter.unusedVariables false
set_option linter.unusedSimpArgs false
set_option linter.unnecessarySimpa false
set_option linter.unusedSectionVars false
namespace Go.Proofs.YtimjccbdngajoaaGreat.R
open Go.RowKit
open Go.Proofs.YtimjccbdngajoaaGreat.D

structure Mp where
  ver : Nat
  md : MD
  m : List (md.k.den × md.e.den)
  rest : List Ent
def MD.ck (d : MD) (m : List (d.k.den × d.e.den)) : Chk := .map d.K d.E d.k d.e m
def mpOf (h : Hdr) (chs : List Ent) : Option Mp := (pull h chs).bind fun r => match r.1.2.2 with
  | .map K E k e m => some ⟨r.1.2.1, ⟨K, E, k, e⟩, m, r.2⟩
  | _ => none
def Mp.ent (r : Mp) (h : Hdr) : Ent := (h, r.ver, r.md.ck r.m)
theorem mpOf_ok {h : Hdr} {chs : List Ent} {r : Mp} (e : mpOf h chs = some r) : chs.Perm (r.ent h :: r.rest) := by
  obtain ⟨q, hq, e⟩ := bind_some e
  obtain ⟨p, k⟩ := pull_ok hq
  obtain ⟨⟨h', ver, c⟩, rest⟩ := q
  obtain rfl : h' = h := k
  cases c with
  | map K E k e' m =>
    obtain rfl := Option.some.inj (show some _ = some r from e)
    exact p
  | _ => cases e
def MK.beq : MK → MK → Bool
  | .int, .int => true
  | .ii, .ii => true
  | _, _ => false
def ME.beq : ME → ME → Bool
  | .int, .int => true
  | .bool, .bool => true
  | _, _ => false
def MD.beq (a b : MD) : Bool := Nat.beq a.K b.K && Nat.beq a.E b.E && MK.beq a.k b.k && ME.beq a.e b.e
theorem MD.beq_eq {a b : MD} (h : MD.beq a b = true) : a = b := by
  obtain ⟨K, E, k, e⟩ := a
  obtain ⟨K', E', k', e'⟩ := b
  unfold MD.beq at h
  simp only [Bool.and_eq_true] at h
  obtain ⟨⟨⟨h1, h2⟩, h3⟩, h4⟩ := h
  obtain rfl : K = K' := Nat.eq_of_beq_eq_true h1
  obtain rfl : E = E' := Nat.eq_of_beq_eq_true h2
  obtain rfl : k = k' := by cases k <;> cases k' <;> first | rfl | cases h3
  obtain rfl : e = e' := by cases e <;> cases e' <;> first | rfl | cases h4
  rfl
def avKey : (k : MK) → AV → Option k.den
  | .int, .one (.val (.int .i64 n)) => some n
  | .ii, .agg [.val (.int .i64 a), .val (.int .i64 b)] => some (a, b)
  | _, _ => none
theorem avKey_ok {k : MK} {v : AV} {d : k.den} (h : avKey k v = some d) (θ : Th) : v.v θ = k.val d := by
  unfold avKey at h
  split at h
  · rw [← Option.some.inj h]; rfl
  · rw [← Option.some.inj h]; rfl
  · cases h
def avElt : (e : ME) → AV → Option e.den
  | .int, .one (.val (.int .i64 n)) => some n
  | .bool, .one (.val (.bool b)) => some b
  | .bool, .one (.nb b) => some (!b)
  | _, _ => none
theorem avElt_ok {e : ME} {v : AV} {d : e.den} (h : avElt e v = some d) (θ : Th) : v.v θ = e.val d := by
  unfold avElt at h
  split at h
  · rw [← Option.some.inj h]; rfl
  · rw [← Option.some.inj h]; rfl
  · rw [← Option.some.inj h]; rfl
  · cases h
theorem ME.val_one (e : ME) (d : e.den) : (e.val d).oneCell' = true := by cases e <;> rfl
section
variable {Y : Type} (tt : TT) (s : Sg) (k : Res → Option Y)
def sMkM (T : TypeId) : Option Y := (td tt T).bind fun d => d.mp.bind fun md => k ⟨[], [], s.chs, [(⟨s.nxt, []⟩, md.ck [])], .one (.own ⟨s.nxt, []⟩)⟩
def sPutM (T : TypeId) (m x y : Operand) : Option Y := (td tt T).bind fun d => d.mp.bind fun md => match opd s m with
  | some (.one (.own h)) => (mpOf h s.chs).bind fun r => chkT (MD.beq md r.md) ((opd s x).bind fun kv => (avKey r.md.k kv).bind fun q => (opd s y).bind fun ev => (avElt r.md.e ev).bind fun i =>
    (@putM r.md.k.den r.md.e.den r.m r.md.k.ok r.md.e.ok q i).bind fun M => k ⟨[], [r.ent h], r.rest, [(h, r.md.ck M)], .any ⟨s.nxt, []⟩⟩)
  | _ => none
def sLookM (T : TypeId) (m x : Operand) (two : Bool) : Option Y := (td tt T).bind fun d => d.mp.bind fun md => match opd s m with
  | some (.one (.own h)) => (mpOf h s.chs).bind fun r => chkT (MD.beq md r.md) ((opd s x).bind fun kv => (avKey r.md.k kv).bind fun q =>
    chkD false (r.md.k.ok q = true) (instDecidableEqBool _ _) (match two with
      | true => k ⟨[r.ent h], [], r.rest, [], .tup [(false, [.val (r.md.e.val ((@lkM r.md.k.den r.md.e.den r.md.k.dec r.m q).getD r.md.e.z))]), (false, [.val (.bool (@lkM r.md.k.den r.md.e.den r.md.k.dec r.m q).isSome)])]⟩
      | false => k ⟨[r.ent h], [], r.rest, [], .one (.val (r.md.e.val ((@lkM r.md.k.den r.md.e.den r.md.k.dec r.m q).getD r.md.e.z)))⟩))
  | _ => none
end
section
variable {Y : Type} {tt : TT} {s : Sg} {k : Res → Option Y} {P : Program} {w0 : World} {o : Oper} {res : Y} {m x y : Operand}
theorem toCh_mp {θ : Th} {h : Hdr} {ver : Nat} {md : MD} {M : List (md.k.den × md.e.den)} : toCh P θ (h, ver, md.ck M) = @Ch.mp P md.K md.E md.k.den md.e.den md.k.dec md.k.lit md.k.ok md.e.lit md.e.z (hv θ h) M := rfl
theorem mp_one {I : Hp} {w : World} {C : List Ch} {K E : TypeId} {κ ε : Type} [DecidableEq κ] {lit : κ → Lit} {ok : κ → Bool} {elit : ε → Lit} {z : ε} {v : Value} {M : List (κ × ε)} (h : St I w0 w (Ch.mp P K E lit ok elit z v M :: C)) : v.oneCell' = true := by
  obtain ⟨h1, h2, F, ⟨G, G', rfl, ⟨b, rfl, rfl, h3⟩, e⟩, h4, h5⟩ := h
  rfl
theorem sMkM_ok (hT : TTok P tt) {T : TypeId} (ho : o.op = .makeMap T none) (h : sMkM tt s k T = some res) : Oks P w0 s o k res := by
  obtain ⟨d, hd, h⟩ := bind_some h
  obtain ⟨md, hm, h⟩ := bind_some h
  refine ⟨_, h, by simp, says_plain rfl, fun J θ hf => ?_⟩
  have h1 := @opT_makeMap P J w0 o (evL (envL θ s)) md.k.den md.e.den md.k.dec md.k.lit md.k.ok md.e.lit md.e.z T md.K md.E ho
  intro w C hs
  refine (h1 w C hs).imp fun v w' hv => ?_
  have hone := letI := md.k.dec; mp_one hv.2
  refine ⟨⟨⟨Nat.lt_succ_self _, by rw [hv_new]; exact hone⟩, hv_new, fun g hg => ?_⟩, ?_⟩
  · obtain rfl := List.mem_singleton.1 hg
    exact ⟨Nat.lt_succ_self _, Nat.lt_succ_self _, trivial⟩
  · show St J w0 w' ([toCh P (upd θ s.nxt v) (⟨s.nxt, []⟩, s.nxt, md.ck [])] ++ C)
    rw [toCh_mp, hv_new]; exact hv.2
theorem sPutM_ok (hT : TTok P tt) {T : TypeId} (ho : o.op = .mapUpdate T m x y ∨ o.op = .insert T m x y) (h : sPutM tt s k T m x y = some res) : Oks P w0 s o k res := by
  obtain ⟨d, hd, h⟩ := bind_some h
  obtain ⟨md, hm, h⟩ := bind_some h
  split at h
  · rename_i hh hx
    obtain ⟨r, hr, h⟩ := bind_some h
    obtain ⟨he, h⟩ := chkT_ok h
    obtain ⟨kv, hk, h⟩ := bind_some h
    obtain ⟨q, hq, h⟩ := bind_some h
    obtain ⟨ev, hev, h⟩ := bind_some h
    obtain ⟨i, hi, h⟩ := bind_some h
    obtain ⟨M, hM, h⟩ := bind_some h
    have hp := mpOf_ok hr
    obtain ⟨m1, m2, m3⟩ := (hT.get hd).mp _ hm
    rw [MD.beq_eq he] at m1 m2 m3
    refine ⟨_, h, perm2 hp, says_plain rfl, fun J θ hf => ?_⟩
    have hok := ent_ok hf hp
    have h1 := @opT_putMap P J w0 o (evL (envL θ s)) r.md.k.den r.md.e.den r.md.k.dec r.md.k.lit r.md.k.val r.md.k.ok r.md.e.val r.md.e.lit r.md.e.ok r.md.e.z T r.md.K r.md.E m x y (hv θ hh) q i r.m M m2 m3 m1 ho (opd_ev hx) ((opd_ev hk).trans (avKey_ok hq θ)) ((opd_ev hev).trans (avElt_ok hi θ)) hM
    refine OpT.weak h1 (fun u hu => ⟨Nat.lt_succ_self _, hv_new, fun g hg => ?_⟩) (fun u hu => ?_)
    · obtain rfl := List.mem_singleton.1 hg
      exact ⟨Nat.lt_succ_of_lt hok.1, Nat.lt_succ_self _, trivial⟩
    · show [_] = [toCh P (upd θ s.nxt u) (hh, s.nxt, r.md.ck M)]
      rw [toCh_mp, show hv (upd θ s.nxt u) hh = hv θ hh from hv_same Same.upd hok.1]
  · cases h
theorem sLookM_ok (hT : TTok P tt) {T : TypeId} {two : Bool} (ho : o.op = .lookup T m x two) (h : sLookM tt s k T m x two = some res) : Oks P w0 s o k res := by
  obtain ⟨d, hd, h⟩ := bind_some h
  obtain ⟨md, hm, h⟩ := bind_some h
  split at h
  · rename_i hh hx
    obtain ⟨r, hr, h⟩ := bind_some h
    obtain ⟨he, h⟩ := chkT_ok h
    obtain ⟨kv, hk, h⟩ := bind_some h
    obtain ⟨q, hq, h⟩ := bind_some h
    obtain ⟨hok, h⟩ := chkD_ok h
    have hp := mpOf_ok hr
    obtain ⟨m1, m2, m3⟩ := (hT.get hd).mp _ hm
    rw [MD.beq_eq he] at m1 m2 m3
    cases two with
    | true =>
      refine ⟨_, h, perm1 hp, fun _ _ _ g hg => (by cases hg), fun J θ hf => ?_⟩
      have h1 := @opT_lookMap P J w0 o (evL (envL θ s)) r.md.k.den r.md.e.den r.md.k.dec r.md.k.lit r.md.k.val r.md.k.ok r.md.e.val r.md.e.lit r.md.e.ok r.md.e.z T r.md.K r.md.E m x (hv θ hh) q r.m m2 m3 hok m1 ho (opd_ev hx) ((opd_ev hk).trans (avKey_ok hq θ))
      refine OpT.weak h1 (fun u hu => ⟨fun y hy z hz => ?_, ?_, fun g hg => by cases hg⟩) (fun u hu => rfl)
      · rcases List.mem_cons.1 hy with rfl | hy
        · obtain rfl := List.mem_singleton.1 hz; exact ME.val_one _ _
        · obtain rfl := List.mem_singleton.1 hy
          obtain rfl := List.mem_singleton.1 hz; exact Eq.refl true
      · rw [hu]; rfl
    | false =>
      refine ⟨_, h, perm1 hp, fun _ _ _ g hg => (by cases hg), fun J θ hf => ?_⟩
      have h1 := @opT_lookMap1 P J w0 o (evL (envL θ s)) r.md.k.den r.md.e.den r.md.k.dec r.md.k.lit r.md.k.val r.md.k.ok r.md.e.val r.md.e.lit r.md.e.ok r.md.e.z T r.md.K r.md.E m x (hv θ hh) q r.m m2 m3 hok m1 ho (opd_ev hx) ((opd_ev hk).trans (avKey_ok hq θ))
      refine OpT.weak h1 (fun u hu => ⟨ME.val_one _ _, ?_, fun g hg => by cases hg⟩) (fun u hu => rfl)
      rw [hu]; rfl
  · cases h
end
end Go.Proofs.YtimjccbdngajoaaGreat.R
/- A region in the order of the text, run on states. No program text is named here. -/
set_option linter.unusedVariables false
set_option linter.unusedSimpArgs false
set_option linter.unnecessarySimpa false
set_option linter.unusedSectionVars false
namespace Go.Proofs.YtimjccbdngajoaaGreat.R
open Go.RowKit
open Go.Proofs.YtimjccbdngajoaaGreat.D

structure Env where
  tt : TT
  ft : FT
  an : List (Nat × Ty)
  n : Nat
  tr : Trs
section
variable {Y : Type} (V : Env) (s : Sg) (k : Res → Option Y)
def hasAnL (d : Nat) : List (Nat × Ty) → Bool
  | [] => false
  | (u, _) :: l => Nat.beq u d || hasAnL d l
def rawL (d : Nat) : List (Nat × Ty) → Bool
  | [] => false
  | (u, .raw) :: l => Nat.beq u d || rawL d l
  | _ :: l => rawL d l
/-- is the slot to be looked at -/
def rawAn (d : Option Nat) (an : List (Nat × Ty)) : Bool := match d with
  | some d => rawL d an
  | none => false
/-- is there a note on the slot -/
def hasAn (d : Option Nat) (an : List (Nat × Ty)) : Bool := match d with
  | some d => hasAnL d an
  | none => false
def sCall (dst : Option Nat) (c : Call) : Option Y := match c.callee, c.args.toList, c.argTypes.toList with
  | .builtin .len, [x], [T] => match opd s x with
    | some (.one (.own _)) => sLenO V.tt s k T x
    | some (.vw _ _ _ _ _ _) => sLenV V.tt s k T x
    | _ => sLen V.tt s k T x
  | .builtin .append, [x, y], [T, U] => chkT (Nat.beq T U) (match opd s x with
    | some (.vw _ _ _ _ _ _) => sAppV V.tt s k T x y
    | _ => sApp V.tt V.an s k dst T x y)
  | .builtin .clear, [x], [T] => sClearV V.tt s k T x
  | .builtin .copy, [x, y], [T, _] => sCopy V.tt s k T x y
  | .builtin .min, [x, y], [_, _] => sMin s k x y
  | .builtin .max, [x, y], [_, _] => sMax s k x y
  | .value (.func g), xs, _ => match (fs V.ft g).bind (·.cl) with
    | some q => match xs with
      | [x] => sClone s k q.1 q.2 x
      | _ => none
    | none => sCallF V.ft s k g xs
  | .value (.tmp t), xs, _ => sCallV V.ft s k t xs
  | _, _, _ => none
def step (o : Oper) : Option Y := match o.op with
  | .move x => sMove s k x
  | .assign x => sMove s k x
  | .pick c x y => sPick s k c x y
  | .unOp .not _ x => sNot s k x
  | .unOp .neg _ x => sNeg s k x
  | .binOp b t x y _ => match opd s x with
    | some (.one (.rd _ (.tree _ _ _) _)) => sEqP V.tt s k b t x y
    | some (.one (.ptr _ _)) => sEqP V.tt s k b t x y
    | some (.one (.rdn _ _ _ _)) => sEqN V.tt s k b t x y
    | _ => sBin V.tt s k b t x y
  | .extract x i => sExtract s k x i
  | .indexAddr T x i => match opd s x with
    | some (.one (.own _)) => sIndexO V.tt s k T x i
    | some (.vw _ _ _ _ _ _) => sIndexV V.tt s k T x i
    | _ => sIndexR V.tt s k T x i
  | .fieldAddr T x f => match opd s x with
    | some (.one (.fz _ _ _ _ _)) => sFieldZ V.tt s k T x f
    | some (.one (.rd _ (.tree _ _ _) _)) => sFieldT V.tt s k T x f
    | _ => sField V.tt s k T x f
  | .load T x => match opd s x with
    | some (.elr _ _ _ _ _ _ _) => sLoadR V.tt s k T x
    | some (.elo _ _ _ _ _ _ _ _) => sLoadO V.tt s k T x
    | some (.one (.fz _ _ _ _ _)) => sLoadZ V.tt s k T x
    | some (.one (.fzf _ _ _ _ _)) => sLoadZ V.tt s k T x
    | _ => sLoadB V.tt s k T x
  | .store T x y => match opd s x with
    | some (.elo h _ _ _ _ _ _ _) => match holOf h s.chs with
      | some _ => sStoreG V.tt s k T x y
      | none => sStoreO V.tt s k T x y
    | _ => sStoreB V.tt s k T x y
  | .nilCheck x => sNilC s k x
  | .slice T x (some lo) (some hi) (some mx) => sSlice3 V.tt s k T x lo hi mx
  | .slice T x lo hi none => match opd s x with
    | some (.vw _ _ _ _ _ _) => sSliceA V.tt s k T x lo hi
    | some (.one (.own _)) => match rawAn o.dst V.an with
     | true => sSliceA V.tt s k T x lo hi
     | false => match lo with
      | some _ => match hasAn o.dst V.an with
        | true => sSliceD V.tt s k T x lo hi
        | false => sSliceV V.tt s k T x lo hi
      | none => match hasAn o.dst V.an with
        | true => sSliceW V.tt s k T x lo hi
        | false => sSliceO V.tt s k T x lo hi
    | _ => sSliceR V.tt s k T x lo hi
  | .box T x => sBox s k T x
  | .alloc T => sAlloc V.tt s k T
  | .build T parts => sBuild V.tt s k T parts
  | .buildSlice T m parts => sLit V.tt V.an s k o.dst T m parts
  | .makeSlice T x y => sMake V.tt V.an s k o.dst T x y
  | .call c => sCall V s k o.dst c
  | .makeFunc f x y => sMakeF s k f x y
  | .makeMap T none => sMkM V.tt s k T
  | .convert S D x => sConv V.tt s k S D x
  | .mapUpdate T m x y => sPutM V.tt s k T m x y
  | .insert T m x y => sPutM V.tt s k T m x y
  | .lookup T m x two => sLookM V.tt s k T m x two
  | _ => none
end
section
variable {Y : Type} {V : Env} {s : Sg} {k : Res → Option Y} {P : Program} {w0 : World} {o : Oper} {res : Y}
theorem arr1 {α : Type} {a : Array α} {x : α} (h : a.toList = [x]) : a = #[x] := Array.ext' h
theorem arr2 {α : Type} {a : Array α} {x y : α} (h : a.toList = [x, y]) : a = #[x, y] := Array.ext' h
theorem sCall_ok (hT : TTok P V.tt) (hF : FTok P V.ft) {c : Call} (ho : o.op = .call c) (h : sCall V s k o.dst c = some res) : Oks P w0 s o k res := by
  obtain ⟨cal, args, tys⟩ := c
  unfold sCall at h
  split at h
  · rename_i x T h1 h2 h3
    obtain rfl : cal = .builtin .len := h1
    obtain rfl : args = #[x] := arr1 h2
    obtain rfl : tys = #[T] := arr1 h3
    split at h
    · exact sLenO_ok hT ho h
    · exact sLenV_ok hT ho h
    · exact sLen_ok hT ho h
  · rename_i x y T U h1 h2 h3
    obtain ⟨hu, h9⟩ := chkT_ok h
    obtain rfl : T = U := Nat.eq_of_beq_eq_true hu
    obtain rfl : cal = .builtin .append := h1
    obtain rfl : args = #[x, y] := arr2 h2
    obtain rfl : tys = #[T, T] := arr2 h3
    split at h9
    · exact sAppV_ok hT ho h9
    · exact sApp_ok hT ho h9
  · rename_i x T h1 h2 h3
    obtain rfl : cal = .builtin .clear := h1
    obtain rfl : args = #[x] := arr1 h2
    obtain rfl : tys = #[T] := arr1 h3
    exact sClearV_ok hT ho h
  · rename_i x y T U h1 h2 h3
    obtain rfl : cal = .builtin .copy := h1
    obtain rfl : args = #[x, y] := arr2 h2
    obtain rfl : tys = #[T, U] := arr2 h3
    exact sCopy_ok hT ho h
  · rename_i x y T U h1 h2 h3
    obtain rfl : cal = .builtin .min := h1
    obtain rfl : args = #[x, y] := arr2 h2
    obtain rfl : tys = #[T, U] := arr2 h3
    exact sMin_ok ho h
  · rename_i x y T U h1 h2 h3
    obtain rfl : cal = .builtin .max := h1
    obtain rfl : args = #[x, y] := arr2 h2
    obtain rfl : tys = #[T, U] := arr2 h3
    exact sMax_ok ho h
  · rename_i g h1
    obtain rfl : cal = .value (.func g) := h1
    split at h
    · rename_i q hq
      obtain ⟨f, hf, hq⟩ := bind_some hq
      split at h
      · rename_i x hx
        obtain rfl : args = #[x] := arr1 hx
        exact sClone_ok ((hF.get hf).cl q hq) ho h
      · cases h
    · exact sCallF_ok hF ho h
  · rename_i t h1
    obtain rfl : cal = .value (.tmp t) := h1
    exact sCallV_ok hF ho h
  · cases h
theorem step_ok (hT : TTok P V.tt) (hF : FTok P V.ft) (h : step V s k o = some res) : Oks P w0 s o k res := by
  unfold step at h
  split at h
  · exact sMove_ok (.inl ‹_›) h
  · exact sMove_ok (.inr ‹_›) h
  · exact sPick_ok ‹_› h
  · exact sNot_ok ‹_› h
  · exact sNeg_ok ‹_› h
  · have ho := ‹o.op = _›
    split at h
    · exact sEqP_ok hT ho h
    · exact sEqP_ok hT ho h
    · exact sEqN_ok hT ho h
    · exact sBin_ok hT ho h
  · exact sExtract_ok ‹_› h
  · have ho := ‹o.op = _›
    split at h
    · exact sIndexO_ok hT ho h
    · exact sIndexV_ok hT ho h
    · exact sIndexR_ok hT ho h
  · have ho := ‹o.op = _›
    split at h
    · exact sFieldZ_ok hT ho h
    · exact sFieldT_ok hT ho h
    · exact sField_ok hT ho h
  · have ho := ‹o.op = _›
    split at h
    · exact sLoadR_ok hT ho h
    · exact sLoadO_ok hT ho h
    · exact sLoadZ_ok hT ho h
    · exact sLoadZ_ok hT ho h
    · exact sLoadB_ok hT ho h
  · have ho := ‹o.op = _›
    split at h
    · split at h
      · exact sStoreG_ok hT ho h
      · exact sStoreO_ok hT ho h
    · exact sStoreB_ok hT ho h
  · exact sNilC_ok ‹_› h
  · exact sSlice3_ok hT ‹_› h
  · have ho := ‹o.op = _›
    split at h
    · exact sSliceA_ok hT ho h
    · split at h
      · exact sSliceA_ok hT ho h
      · split at h
        · split at h
          · exact sSliceD_ok hT ho h
          · exact sSliceV_ok hT ho h
        · split at h
          · exact sSliceW_ok hT ho h
          · exact sSliceO_ok hT ho h
    · exact sSliceR_ok hT ho h
  · exact sBox_ok ‹_› h
  · exact sAlloc_ok hT ‹_› h
  · exact sBuild_ok hT ‹_› h
  · exact sLit_ok hT ‹_› h
  · exact sMake_ok hT ‹_› h
  · exact sCall_ok hT hF ‹_› h
  · exact sMakeF_ok ‹_› h
  · exact sMkM_ok hT ‹_› h
  · exact sConv_ok hT ‹_› h
  · exact sPutM_ok hT (.inl ‹_›) h
  · exact sPutM_ok hT (.inr ‹_›) h
  · exact sLookM_ok hT ‹_› h
  · cases h
end

/-! ### Guards -/
inductive Gd
  | no | skip | bad
  | yes (t : Nat) (b neg want : Bool)
def guardOf (ops : List Oper) (s : Sg) (o : Oper) : Gd := match o.guard with
  | none => .no
  | some (g, want) => match ops[g]? with
    | some p => match p.dst with
      | some t => match look s.env t with
        | some (.one (.val (.bool b))) => .yes t b false want
        | some (.one (.nb b)) => .yes t b true want
        | some .und => .skip
        | _ => .bad
      | none => .bad
    | none => .bad
def setB (s : Sg) (t : Nat) (b : Bool) : Sg := ⟨(t, s.nxt, .one (.val (.bool b))) :: s.env, s.chs, s.nxt + 1⟩
/-- the heads of what an operand leads to -/
def avHdrs : AV → List Hdr
  | .one (.own h) => [h]
  | .agg xs => xs.flatMap fun x => match x with | .own h => [h] | _ => []
  | .elo h _ _ _ _ _ _ _ => [h]
  | _ => []
def prepL : List Hdr → Sg → Sg
  | [], s => s
  | h :: hs, s => prepL hs (settle 4 h s)
def hdrsOf (s : Sg) : List Operand → List Hdr
  | [] => []
  | x :: xs => (match opd s x with | some v => avHdrs v | none => []) ++ hdrsOf s xs
/-- values that are kept -/
def keptO (o : Oper) : List Operand := match o.op with
  | .store _ _ y => [y]
  | .build _ parts => parts.toList.map (·.2)
  | .buildSlice _ _ parts => parts.toList.map (·.2)
  | .call c => c.args.toList
  | .box _ x => [x]
  | .binOp _ _ x _ _ => [x]
  | .nilCheck x => [x]
  | _ => []
def frzA (o : Bool) : AV → List (Bool × Hdr)
  | .one (.own h) => [(false, h)]
  | .one (.ptr h off) => if o && Nat.beq off 0 then [(true, h)] else []
  | .agg xs => xs.flatMap fun x => match x with | .own h => [(false, h)] | .ptr h off => if o && Nat.beq off 0 then [(true, h)] else [] | _ => []
  | _ => []
def frzH (s : Sg) (o : Bool) : List Operand → List (Bool × Hdr)
  | [] => []
  | x :: xs => (match opd s x with | some v => frzA o v | none => []) ++ frzH s o xs
def keeps (o : Oper) : Bool := match o.op with
  | .binOp _ _ _ _ _ => false
  | .nilCheck _ => false
  | _ => true
def prepF (tr : Trs) (o : Oper) (s : Sg) : Sg := match tr with
  | [] => s
  | _ => frzL tr (frzH s (keeps o) (keptO o)) s
def prep (tr : Trs) (o : Oper) (s0 : Sg) : Sg := match openA s0 with
  | s => prepF tr o (prepL (hdrsOf s o.op.operands.toList) s)
section
variable {Y : Type} (V : Env) (all : List Oper) (k : Sg → Option Y)
def runOp (kont : Sg → Option Y) (o : Oper) (s : Sg) : Option Y := match guardOf all s o with
  | .bad => none
  | .no => chkT (okO V.n s o) (step V s (fun r => kont (after s o.dst r)) o)
  | .skip => chkT (dstOk V.n o.dst) (kont (skip s o.dst))
  | .yes t b neg want => if b then (match (!neg) == want with
      | true => chkT (okO V.n (setB s t (!neg)) o) (step V (setB s t (!neg)) (fun r => kont (after (setB s t (!neg)) o.dst r)) o)
      | false => chkT (dstOk V.n o.dst) (kont (skip (setB s t (!neg)) o.dst)))
    else (match neg == want with
      | true => chkT (okO V.n (setB s t neg) o) (step V (setB s t neg) (fun r => kont (after (setB s t neg) o.dst r)) o)
      | false => chkT (dstOk V.n o.dst) (kont (skip (setB s t neg) o.dst)))
def runSeq : List Oper → Sg → Option Y
  | [], s => k s
  | o :: os, s => runOp V all (runSeq os) o (prep V.tr o s)
end
section
variable {Y : Type} {V : Env} {P : Program} {I : Hp} {w0 w : World} {F : Ch} {J : Hp} {θ : Th} {s : Sg} {a : Act} {res : Y} {Q : Exit → Act → World → Prop}
theorem settle1_fr {h : Hdr} {s' : Sg} (hs : settle1 h s = some s') (hS : Sim P I w0 F V.n J θ s a w) : Fr s θ s' θ := by
  obtain ⟨r, hr, hs⟩ := bind_some hs
  obtain ⟨q, hq, hs⟩ := bind_some hs
  have hp := holOf_ok hr
  obtain ⟨l, ver, hl, hp2, hu⟩ := partOf_ok hq
  have hmem : ∀ e, e ∈ q.2.2 → e ∈ s.chs := fun e he => (hp.trans (hp2.cons _)).mem_iff.2 (by simp [he])
  cases hb : q.1 with
  | true =>
    rw [hb] at hs
    obtain rfl := Option.some.inj (show some _ = some s' from hs)
    refine ⟨Nat.le_succ _, Same.rfl, fun e he _ => he, fun e he h' ver' c hs' => ?_⟩
    rcases List.mem_cons.1 he with rfl | he
    · obtain ⟨rfl, hs'⟩ := hs'
      rcases hs' with ⟨rfl, rfl⟩ | hs'
      · exact .inr ⟨r.ent h, hp.mem_iff.2 (by simp), rfl, .inr ⟨rfl, rfl⟩⟩
      · exact hs'.elim
    · exact .inr ⟨e, hmem e he, hs'⟩
  | false =>
    rw [hb] at hs
    obtain rfl := Option.some.inj (show some _ = some s' from hs)
    refine ⟨Nat.le_succ _, Same.rfl, fun e he _ => he, fun e he h' ver' c hs' => ?_⟩
    rcases List.mem_cons.1 he with rfl | he
    · obtain ⟨rfl, hs'⟩ := hs'
      rcases hs' with ⟨rfl, rfl⟩ | hs'
      · exact .inl (Nat.le_refl _)
      · exact hs'.elim
    · exact .inr ⟨e, hmem e he, hs'⟩
theorem settle_fr : ∀ {m : Nat} {h : Hdr} {s : Sg}, Sim P I w0 F V.n J θ s a w → Fr s θ (settle m h s) θ
  | 0, _, _, hS => Fr.rfl
  | m + 1, h, s, hS => by
    unfold settle
    split
    · split
      · split
        · rename_i hs
          exact (settle_fr hS).trans (settle1_fr hs (settle_ok hS))
        · exact Fr.rfl
      · exact Fr.rfl
    · exact Fr.rfl
theorem prepL_ok : ∀ {hs : List Hdr} {s : Sg}, Sim P I w0 F V.n J θ s a w → Sim P I w0 F V.n J θ (prepL hs s) a w ∧ Fr s θ (prepL hs s) θ
  | [], s, hS => ⟨hS, Fr.rfl⟩
  | h :: hs, s, hS => by
    obtain ⟨k1, k2⟩ := prepL_ok (hs := hs) (settle_ok (m := 4) (h := h) hS)
    exact ⟨k1, (settle_fr hS).trans k2⟩
theorem setB_ok {t : Nat} {b : Bool} (hS : Sim P I w0 F V.n J θ s a w) (hv' : (envL θ s).lookup t = some (.bool b)) : Sim P I w0 F V.n J θ (setB s t b) a w ∧ Fr s θ (setB s t b) θ := by
  refine ⟨⟨hS.le, hS.agr.sub fun u v h => ?_, hS.st, fun e he => ?_, fun e he => ?_, nd_put (d := some t) (av := .one (.val (.bool b))) hS.fine.nd hS.fine.ver, fun e he => okE_same Same.rfl (Nat.le_succ _) Newer.rfl (hS.fine.chs e he) Hp.le.rfl⟩, Nat.le_succ _, Same.rfl, fun e he h => ?_, Newer.rfl⟩
  · have h : List.lookup u ((t, Value.bool b) :: envL θ s) = some v := h
    rw [List.lookup_cons] at h
    by_cases e : u = t
    · subst e
      simp at h
      rw [hv', h]
    · rw [show (u == t) = false from by simpa using e] at h
      exact h
  · rcases List.mem_cons.1 he with rfl | he
    · exact Eq.refl true
    · exact AV.ok_same Same.rfl (Nat.le_succ _) Newer.rfl (hS.fine.env e he) Hp.le.rfl
  · rcases List.mem_cons.1 he with rfl | he
    · exact Nat.lt_succ_self _
    · exact Nat.lt_succ_of_lt (hS.fine.ver e he)
  · rcases List.mem_cons.1 he with rfl | he
    · exact absurd h (Nat.lt_irrefl _)
    · exact he
theorem guard_ok {ops : Array Oper} {o : Oper} : match guardOf ops.toList s o with
    | .no => o.guard = none
    | .skip => ∃ g want d, o.guard = some (g, want) ∧ (ops[g]?).bind (·.dst) = some d ∧ (envL θ s).lookup d = some undef
    | .yes t b neg want => ∃ g, o.guard = some (g, want) ∧ (ops[g]?).bind (·.dst) = some t ∧ (envL θ s).lookup t = some (.bool (if neg then !b else b))
    | .bad => True := by
  unfold guardOf
  cases hg : o.guard with
  | none => exact rfl
  | some gw =>
    obtain ⟨g, want⟩ := gw
    simp only
    cases hp : ops.toList[g]? with
    | none => trivial
    | some p =>
      simp only
      cases hd : p.dst with
      | none => trivial
      | some t =>
        simp only
        have hd' : (ops[g]?).bind (·.dst) = some t := by
          rw [← Array.getElem?_toList, hp]; exact hd
        cases hl : look s.env t with
        | none => trivial
        | some v =>
          have hv' := look_envL (θ := θ) hl
          cases v with
          | one x =>
            cases x with
            | val u =>
              cases u with
              | bool b => exact ⟨g, rfl, hd', hv'⟩
              | _ => trivial
            | nb b => exact ⟨g, rfl, hd', hv'⟩
            | _ => trivial
          | und => exact ⟨g, want, t, rfl, hd', hv'⟩
          | _ => trivial
/-- the state behind an operation -/
theorem after_fr {o : Oper} {r : Res} (hG : Good P w0 s o r) (hS : Sim P I w0 F V.n J θ s a w) {θ' : Th} (hs : Same s.nxt θ θ') : Fr s θ (after s o.dst r) θ' :=
  Fr.put hs (Res.newer hG.perm (hG.says J θ hS.fine))
theorem runOp_ok (hT : TTok P V.tt) (hF : FTok P V.ft) {ops : Array Oper} {rest : List Oper} {o : Oper} {kont : Sg → Option Y} (h : runOp V ops.toList kont o s = some res) (hS : Sim P I w0 F V.n J θ s a w)
    (K : ∀ s' θ' a' w', kont s' = some res → Sim P I w0 F V.n J θ' s' a' w' → Fr s θ s' θ' → wpList P ops Q rest a' w') : wpList P ops Q (o :: rest) a w := by
  have hg := guard_ok (θ := θ) (s := s) (ops := ops) (o := o)
  have run : ∀ s1, Sim P I w0 F V.n J θ s1 a w → Fr s θ s1 θ → (∀ g want, o.guard = some (g, want) → ∃ d, (ops[g]?).bind (·.dst) = some d ∧ (envL θ s1).lookup d = some (.bool want)) → chkT (okO V.n s1 o) (step V s1 (fun r => kont (after s1 o.dst r)) o) = some res → wpList P ops Q (o :: rest) a w := by
    intro s1 hS1 hF1 hgd h
    obtain ⟨hk, h⟩ := chkT_ok h
    obtain ⟨r, hr, hG⟩ := step_ok hT hF h
    cases hgo : o.guard with
    | none => exact sim_op hG hS1 hgo hk fun θ' a' w' hs hS' => K _ θ' a' w' hr hS' (hF1.trans (after_fr hG hS1 hs))
    | some gw =>
      obtain ⟨g, want⟩ := gw
      obtain ⟨d, hd, hv'⟩ := hgd g want hgo
      exact sim_opg hG hS1 hgo hd hv' rfl hk fun θ' a' w' hs hS' => K _ θ' a' w' hr hS' (hF1.trans (after_fr hG hS1 hs))
  have skp : ∀ s1, Sim P I w0 F V.n J θ s1 a w → Fr s θ s1 θ → ∀ g want d b, o.guard = some (g, want) → (ops[g]?).bind (·.dst) = some d → (envL θ s1).lookup d = some (.bool b) → b = (!want) → chkT (dstOk V.n o.dst) (kont (skip s1 o.dst)) = some res → wpList P ops Q (o :: rest) a w := by
    intro s1 hS1 hF1 g want d b hgo hd hv' hb h
    obtain ⟨hk, h⟩ := chkT_ok h
    exact sim_skip hS1 hgo hd hv' hb hk fun a' hS' => K _ θ a' w h hS' (hF1.trans (Fr.put Same.rfl Newer.rfl))
  unfold runOp at h
  split at h
  · cases h
  · rename_i hgo
    rw [hgo] at hg
    exact run s hS Fr.rfl (fun g want e => by rw [show o.guard = none from hg] at e; cases e) h
  · rename_i hgo
    rw [hgo] at hg
    obtain ⟨g, want, d, h1, h2, h3⟩ := hg
    obtain ⟨hk, h⟩ := chkT_ok h
    exact sim_skip_u hS h1 h2 h3 hk fun a' hS' => K _ θ a' w h hS' (Fr.put Same.rfl Newer.rfl)
  · rename_i t b neg want hgo
    rw [hgo] at hg
    obtain ⟨g, h1, h2, h3⟩ := hg
    have both : ∀ c : Bool, (envL θ s).lookup t = some (.bool c) → (match c == want with
        | true => chkT (okO V.n (setB s t c) o) (step V (setB s t c) (fun r => kont (after (setB s t c) o.dst r)) o)
        | false => chkT (dstOk V.n o.dst) (kont (skip (setB s t c) o.dst))) = some res → wpList P ops Q (o :: rest) a w := by
      intro c hc h
      obtain ⟨q1, q2⟩ := setB_ok hS hc
      have hlk : (envL θ (setB s t c)).lookup t = some (.bool c) := by
        show List.lookup t ((t, Value.bool c) :: envL θ s) = _
        rw [List.lookup_cons_self]
      split at h
      · rename_i hcw
        have hcw : c = want := by simpa using hcw
        exact run _ q1 q2 (fun g' want' e => by
          rw [h1] at e
          obtain ⟨rfl, rfl⟩ : g = g' ∧ want = want' := by simpa using e
          exact ⟨t, h2, by rw [hlk, hcw]⟩) h
      · rename_i hcw
        have hcw : c ≠ want := by simpa using hcw
        exact skp _ q1 q2 g want t c h1 h2 hlk (by cases c <;> cases want <;> simp_all) h
    cases b with
    | true =>
      refine both (!neg) ?_ (show _ = some res from h)
      rw [h3]; cases neg <;> rfl
    | false =>
      refine both neg ?_ (show _ = some res from h)
      rw [h3]; cases neg <;> rfl
theorem prep_ok {tr : Trs} {o : Oper} (hS : Sim P I w0 F V.n J θ s a w) : ∃ J' θ', J.le J' ∧ Sim P I w0 F V.n J' θ' (prep tr o s) a w ∧ Fr s θ (prep tr o s) θ' := by
  obtain ⟨θ1, S1, F1⟩ := openA_ok hS
  obtain ⟨S2, F2⟩ := prepL_ok (hs := hdrsOf (openA s) o.op.operands.toList) S1
  show ∃ J' θ', J.le J' ∧ Sim P I w0 F V.n J' θ' (prepF tr o (prepL (hdrsOf (openA s) o.op.operands.toList) (openA s))) a w ∧ Fr s θ (prepF tr o (prepL (hdrsOf (openA s) o.op.operands.toList) (openA s))) θ'
  unfold prepF
  split
  · exact ⟨J, θ1, Hp.le.rfl, S2, F1.trans F2⟩
  · obtain ⟨J', θ', h1, h2, h3⟩ := frzL_ok S2
    exact ⟨J', θ', h1, h2, (F1.trans F2).trans h3⟩
theorem runSeq_ok (hT : TTok P V.tt) (hF : FTok P V.ft) {ops : Array Oper} {k : Sg → Option Y} : ∀ {l : List Oper} {s : Sg} {J : Hp} {θ : Th} {a : Act} {w : World}, runSeq V ops.toList k l s = some res → Sim P I w0 F V.n J θ s a w →
    (∀ s' J' θ' a' w', k s' = some res → Sim P I w0 F V.n J' θ' s' a' w' → J.le J' → Fr s θ s' θ' → Q .normal a' w') → wpList P ops Q l a w
  | [], s, J, θ, a, w, h, hS, K => wpList_nil (K s J θ a w h hS Hp.le.rfl Fr.rfl)
  | o :: os, s, J, θ, a, w, h, hS, K => by
    obtain ⟨J1, θ1, q0, q1, q2⟩ := prep_ok (tr := V.tr) (o := o) hS
    exact runOp_ok hT hF (show runOp V ops.toList (runSeq V ops.toList k os) o (prep V.tr o s) = some res from h) q1 fun s' θ' a' w' hk hS' hFr =>
      runSeq_ok hT hF hk hS' fun s2 J2 θ2 a2 w2 hk2 hS2 hJ2 hFr2 => K s2 J2 θ2 a2 w2 hk2 hS2 (q0.trans hJ2) ((q2.trans hFr).trans hFr2)
end
end Go.Proofs.YtimjccbdngajoaaGreat.R
/- Cuts: what a loop or a join carries along. No program text is named here. -/
set_option linter.unusedVariables false
set_option linter.unusedSimpArgs false
set_option linter.unnecessarySimpa false
set_option linter.unusedSectionVars false
namespace Go.Proofs.YtimjccbdngajoaaGreat.R
open Go.RowKit
open Go.Proofs.YtimjccbdngajoaaGreat.D

/-! ### Kinds of places -/
inductive Knd
  | num (k : IntKind) | boo | str
  | rd (E : TypeId) (t : Ty)
  | own (E : TypeId) (t : Ty)
  | map (d : MD)
  | tre (T E : TypeId) (t : Ty)
def Knd.den : Knd → Type
  | .num _ => Int
  | .boo => Bool
  | .str => ByteArray
  | .rd _ t => List t.den
  | .own _ t => List t.den
  | .map d => List (d.k.den × d.e.den)
  | .tre _ _ t => Tr t.den
def mpCast {a b : MD} (h : a = b) (m : List (a.k.den × a.e.den)) : List (b.k.den × b.e.den) := h ▸ m
def takeMp (d : MD) (x : LV) (chs : List Ent) : Option (List (d.k.den × d.e.den) × List Ent) := match x with
  | .own h => (mpOf h chs).bind fun r => if h : MD.beq r.md d = true then some (mpCast (MD.beq_eq h) r.m, r.rest) else none
  | _ => none
theorem takeMp_ok {d : MD} {x : LV} {chs : List Ent} {q : List (d.k.den × d.e.den) × List Ent} (h : takeMp d x chs = some q) : ∃ hh ver, x = .own hh ∧ chs.Perm ((hh, ver, d.ck q.1) :: q.2) := by
  unfold takeMp at h
  split at h
  · rename_i hh
    obtain ⟨r, hr, h⟩ := bind_some h
    have hp := mpOf_ok hr
    obtain ⟨ver, md, m, rest⟩ := r
    split at h
    · rename_i he
      obtain rfl := MD.beq_eq he
      obtain rfl := Option.some.inj h
      exact ⟨hh, ver, rfl, hp⟩
    · cases h
  · cases h
def denK : List Knd → Type
  | [] => Unit
  | [k] => k.den
  | k :: l :: ks => k.den × denK (l :: ks)
def denN : List Knd → Type
  | [] => Unit
  | k :: ks => k.den × denN ks
def toN : (ks : List Knd) → denK ks → denN ks
  | [], _ => ()
  | [_], d => (d, ())
  | _ :: l :: ks, d => (d.1, toN (l :: ks) d.2)
def ofN : (ks : List Knd) → denN ks → denK ks
  | [], _ => ()
  | [_], d => d.1
  | _ :: l :: ks, d => (d.1, ofN (l :: ks) d.2)
theorem toN_ofN : ∀ (ks : List Knd) (d : denN ks), toN ks (ofN ks d) = d
  | [], _ => rfl
  | [_], _ => rfl
  | _ :: l :: ks, d => congrArg (Prod.mk d.1) (toN_ofN (l :: ks) d.2)
/-- a place's datum; what is left of the entries -/
def getK (k : Knd) (x : LV) (chs : List Ent) : Option (k.den × List Ent) := match k with
  | .num k => (lvInt k x).bind fun d => some (d, chs)
  | .boo => (lvBool x).bind fun d => some (d, chs)
  | .str => (lvStr x).bind fun d => some (d, chs)
  | .rd E t => (lvSl E t x).bind fun d => some (d, chs)
  | .own E t => (takeSl E t x chs).bind fun q => some (q.1, q.2.2)
  | .map d => takeMp d x chs
  | .tre T E t => (lvTr T E t x).bind fun d => some (d, chs)
/-- the place anew -/
def putK (id : Nat) : (k : Knd) → k.den → LV
  | .num k, d => .val (.int k d)
  | .boo, d => .val (.bool d)
  | .str, d => .val (.string d)
  | .rd E t, d => .rd ⟨id, []⟩ (.sl E t) d
  | .own _ _, _ => .own ⟨id, []⟩
  | .map _, _ => .own ⟨id, []⟩
  | .tre T E t, d => .rd ⟨id, []⟩ (.tree T E t) d
def newK (id ver : Nat) : (k : Knd) → k.den → List Ent
  | .own E t, d => [(⟨id, []⟩, ver, .own (.sl E t) d)]
  | .map md, d => [(⟨id, []⟩, ver, md.ck d)]
  | _, _ => []
def getKs : (ks : List Knd) → List LV → List Ent → Option (denN ks × List Ent)
  | [], [], chs => some ((), chs)
  | k :: ks, x :: xs, chs => (getK k x chs).bind fun q => (getKs ks xs q.2).bind fun r => some ((q.1, r.1), r.2)
  | _, _, _ => none
def putKs (id : Nat) : (ks : List Knd) → denN ks → List LV
  | [], _ => []
  | k :: ks, d => putK id k d.1 :: putKs (id + 1) ks d.2
def newKs (id ver : Nat) : (ks : List Knd) → denN ks → List Ent
  | [], _ => []
  | k :: ks, d => newK id ver k d.1 ++ newKs (id + 1) ver ks d.2
section
variable {P : Program} {w0 w : World} {J : Hp} {θ : Th} {n : Nat} {C : List Ch}
/-- a bundle becomes a chunk -/
theorem St.bun {ls : List Ch} {α : Type} {R : Rep α} {cs : List Value} {x : α} (h : St J w0 w (ls ++ C)) (hb : Bun J ls R cs x) : St J w0 w (Ch.own R cs x :: C) := by
  obtain ⟨h1, h2, F, h3, h4, h5⟩ := h
  obtain ⟨G, K, rfl, e1, e2⟩ := h3.split
  exact ⟨h1, h2, G ++ K, ⟨G, K, rfl, hb w G e1, e2⟩, h4, h5⟩
theorem own_one' {α : Type} {R : Rep α} {u : Value} {x : α} (h : St J w0 w (Ch.own R [u] x :: C)) : u.oneCell' = true := by
  obtain ⟨h1, h2, F, ⟨G, K, rfl, k, e⟩, h4, h5⟩ := h
  exact R.own_one k u (by simp)
/-- one place: at θ' the value of 'id' is what stands there -/
theorem getK_ok {k : Knd} {x : LV} {chs : List Ent} {q : k.den × List Ent} (h : getK k x chs = some q) (hx : x.ok P w0 J θ n) (hS : St J w0 w (chs.map (toCh P θ) ++ C)) {θ' : Th} {id ver m : Nat} (hid : θ' id = x.v θ) (hm : id < m) :
    (putK id k q.1).ok P w0 J θ' m ∧ (putK id k q.1).v θ' = x.v θ ∧ St J w0 w ((newK id ver k q.1).map (toCh P θ') ++ (q.2.map (toCh P θ) ++ C)) ∧ ∀ e ∈ q.2, e ∈ chs := by
  have hh : hv θ' ⟨id, []⟩ = x.v θ := hid
  cases k with
  | num k =>
    obtain ⟨d, hd, h⟩ := bind_some (show (lvInt k x).bind _ = some q from h)
    obtain rfl := Option.some.inj h
    exact ⟨Eq.refl true, (lvInt_ok hd θ).symm, hS, fun e he => he⟩
  | boo =>
    obtain ⟨d, hd, h⟩ := bind_some (show (lvBool x).bind _ = some q from h)
    obtain rfl := Option.some.inj h
    exact ⟨Eq.refl true, (lvBool_ok hd θ).symm, hS, fun e he => he⟩
  | str =>
    obtain ⟨d, hd, h⟩ := bind_some (show (lvStr x).bind _ = some q from h)
    obtain rfl := Option.some.inj h
    exact ⟨Eq.refl true, (lvStr_ok hd θ).symm, hS, fun e he => he⟩
  | rd E t =>
    obtain ⟨d, hd, h⟩ := bind_some (show (lvSl E t x).bind _ = some q from h)
    obtain rfl := Option.some.inj h
    refine ⟨⟨hm, ?_⟩, hh, hS, fun e he => he⟩
    rw [hh]; exact lvSl_ok hd hx
  | tre T E t =>
    obtain ⟨d, hd, h⟩ := bind_some (show (lvTr T E t x).bind _ = some q from h)
    obtain rfl := Option.some.inj h
    refine ⟨⟨hm, ?_⟩, hh, hS, fun e he => he⟩
    rw [hh]; exact lvTr_ok hd hx
  | own E t =>
    obtain ⟨r, hr, h⟩ := bind_some (show (takeSl E t x chs).bind _ = some q from h)
    obtain rfl := Option.some.inj h
    obtain ⟨p, hb⟩ := takeSl_ok hr P J θ
    have h1 : St J w0 w (Ch.own (Ty.sl E t).rep [x.v θ] r.1 :: (r.2.2.map (toCh P θ) ++ C)) := by
      refine St.bun ?_ hb
      have := hS.perm ((p.map (toCh P θ)).append_right C)
      rwa [List.map_append, List.append_assoc] at this
    refine ⟨⟨hm, by rw [hh]; exact own_one' h1⟩, hh, ?_, fun e he => p.mem_iff.2 (by simp [he])⟩
    show St J w0 w (Ch.own _ [hv θ' ⟨id, []⟩] _ :: _)
    rw [hh]; exact h1
  | map d =>
    obtain ⟨h0, ver0, rfl, p⟩ := takeMp_ok (show takeMp d x chs = some q from h)
    have h1 : St J w0 w (toCh P θ (h0, ver0, d.ck q.1) :: (q.2.map (toCh P θ) ++ C)) := by
      have := hS.perm ((p.map (toCh P θ)).append_right C)
      exact this
    have e0 : hv θ h0 = LV.v θ (.own h0) := rfl
    have h2 : St J w0 w (@Ch.mp P d.K d.E d.k.den d.e.den d.k.dec d.k.lit d.k.ok d.e.lit d.e.z (hv θ h0) (show List (d.k.den × d.e.den) from q.1) :: (q.2.map (toCh P θ) ++ C)) := h1
    refine ⟨⟨hm, by rw [hh]; exact hx.2⟩, hh, ?_, fun e he => p.mem_iff.2 (by simp [he])⟩
    show St J w0 w (@Ch.mp P d.K d.E d.k.den d.e.den d.k.dec d.k.lit d.k.ok d.e.lit d.e.z (hv θ' ⟨id, []⟩) (show List (d.k.den × d.e.den) from q.1) :: _)
    rw [hh]; exact h2
theorem getKs_ok : ∀ {ks : List Knd} {xs : List LV} {chs : List Ent} {q : denN ks × List Ent} {id ver : Nat} {C : List Ch}, getKs ks xs chs = some q → (∀ x ∈ xs, x.ok P w0 J θ n) → St J w0 w (chs.map (toCh P θ) ++ C) → ∀ {θ' : Th} {m : Nat}, (∀ i x, xs[i]? = some x → θ' (id + i) = x.v θ) → id + ks.length ≤ m →
    (∀ x ∈ putKs id ks q.1, x.ok P w0 J θ' m) ∧ (putKs id ks q.1).map (·.v θ') = xs.map (·.v θ) ∧ St J w0 w ((newKs id ver ks q.1).map (toCh P θ') ++ (q.2.map (toCh P θ) ++ C)) ∧ ∀ e ∈ q.2, e ∈ chs
  | [], [], chs, q, id, ver, C, h, _, hS, θ', m, _, _ => by
    obtain rfl := Option.some.inj (show some _ = some q from h)
    exact ⟨fun x hx => (by cases hx), rfl, hS, fun e he => he⟩
  | k :: ks, x :: xs, chs, q, id, ver, C, h, hx, hS, θ', m, hid, hm => by
    obtain ⟨a, ha, h⟩ := bind_some (show (getK k x chs).bind _ = some q from h)
    obtain ⟨b, hb, h⟩ := bind_some h
    obtain rfl := Option.some.inj h
    have hm' : id < m := by rw [List.length_cons] at hm; omega
    obtain ⟨a1, a2, a3, a4⟩ := getK_ok (ver := ver) ha (hx x (by simp)) hS (θ' := θ') (id := id) (m := m) (hid 0 x rfl) hm'
    obtain ⟨b1, b2, b3, b4⟩ := getKs_ok (id := id + 1) (ver := ver) (C := (newK id ver k a.1).map (toCh P θ') ++ C) hb (fun y hy => hx y (by simp [hy])) (a3.perm (List.perm_append_comm_assoc _ _ _)) (θ' := θ') (m := m) (fun i y hy => by
      have := hid (i + 1) y hy
      rwa [show id + (i + 1) = id + 1 + i from by omega] at this) (by rw [List.length_cons] at hm; omega)
    refine ⟨fun y hy => ?_, ?_, ?_, fun e he => a4 e (b4 e he)⟩
    · rcases List.mem_cons.1 hy with rfl | hy
      · exact a1
      · exact b1 y hy
    · show LV.v θ' _ :: (putKs (id + 1) ks b.1).map _ = _
      rw [a2, b2]; rfl
    · show St J w0 w ((newK id ver k a.1 ++ newKs (id + 1) ver ks b.1).map _ ++ _)
      rw [List.map_append]
      refine b3.perm ?_
      have := List.perm_append_comm_assoc ((newKs (id + 1) ver ks b.1).map (toCh P θ') ++ b.2.map (toCh P θ)) ((newK id ver k a.1).map (toCh P θ')) C
      rw [List.append_assoc, List.append_assoc] at this
      rw [List.append_assoc]
      exact this
  | [], _ :: _, chs, q, id, ver, C, h, _, _, _, _, _, _ => by cases h
  | _ :: _, [], chs, q, id, ver, C, h, _, _, _, _, _, _ => by cases h
end

/-! ### Places of a state -/
inductive It
  | slot (t : Nat) (k : Knd)
  | box (t : Nat) (ks : List Knd)
  | row (t : Nat) (E : TypeId) (u : Ty)
  | agg (t : Nat) (ks : List Knd)
  | par (i : Nat) (p : List Nat) (E : TypeId) (u : Ty)
  | gone (t : Nat)
/-- the same, with what does not turn: the heads -/
inductive RIt
  | slot (t : Nat) (k : Knd)
  | box (h : Hdr) (T : TypeId) (ks : List Knd)
  | row (h : Hdr) (E : TypeId) (u : Ty)
  | agg (t : Nat) (k : Knd) (ks : List Knd)
def RIt.ks : RIt → List Knd
  | .slot _ k => [k]
  | .box _ _ ks => ks
  | .row _ E u => [.own E u]
  | .agg _ k ks => k :: ks
def ksOf : List RIt → List Knd
  | [] => []
  | r :: rs => r.ks ++ ksOf rs
def ptr0 : Option AV → Option Hdr
  | some (.one (.ptr h off)) => if Nat.beq off 0 then some h else none
  | _ => none
def own0 : Option AV → Option Hdr
  | some (.one (.own h)) => some h
  | _ => none
theorem own0_ok {v : Option AV} {h : Hdr} (k : own0 v = some h) : v = some (.one (.own h)) := by
  unfold own0 at k
  split at k
  · rw [Option.some.inj k]
  · cases k
def resolve (s : Sg) : It → Option RIt
  | .slot t k => some (.slot t k)
  | .box t ks => (ptr0 (look s.env t)).bind fun h => (blkOf h s.chs).bind fun b => some (.box h b.T ks)
  | .row t E u => (own0 (look s.env t)).bind fun h => some (.row h E u)
  | .agg t ks => match ks with
    | k :: ks => some (.agg t k ks)
    | [] => none
  | .par i p E u => chkT (Nat.blt i s.nxt) (some (.row ⟨i, p⟩ E u))
  | .gone _ => none
def resolveL (s : Sg) : List It → Option (List RIt)
  | [] => some []
  | i :: is => (resolve s i).bind fun r => (resolveL s is).bind fun rs => some (r :: rs)
def oneOf : Option AV → Option LV
  | some (.one x) => some x
  | _ => none
theorem oneOf_ok {v : Option AV} {x : LV} (h : oneOf v = some x) : v = some (.one x) := by
  unfold oneOf at h
  split at h
  · rw [Option.some.inj h]
  · cases h
def aggOf : Option AV → Option (List LV)
  | some (.agg xs) => some xs
  | _ => none
theorem aggOf_ok {v : Option AV} {x : List LV} (h : aggOf v = some x) : v = some (.agg x) := by
  unfold aggOf at h
  split at h
  · rw [Option.some.inj h]
  · cases h
/-- the data of a place -/
def getI1 (env : List (Nat × Nat × AV)) (chs : List Ent) : (r : RIt) → Option (denN r.ks × List Ent)
  | .slot t k => (oneOf (look env t)).bind fun x => getKs [k] [x] chs
  | .box h T ks => (blkOf h chs).bind fun b => chkT (Nat.beq b.T T) (getKs ks b.cells b.rest)
  | .row h E u => getKs [.own E u] [.own h] chs
  | .agg t k ks => (aggOf (look env t)).bind fun xs => getKs (k :: ks) xs chs
def appN : (ks ls : List Knd) → denN ks → denN ls → denN (ks ++ ls)
  | [], _, _, e => e
  | _ :: ks, ls, d, e => (d.1, appN ks ls d.2 e)
def fstN : (ks ls : List Knd) → denN (ks ++ ls) → denN ks
  | [], _, _ => ()
  | _ :: ks, ls, d => (d.1, fstN ks ls d.2)
def sndN : (ks ls : List Knd) → denN (ks ++ ls) → denN ls
  | [], _, d => d
  | _ :: ks, ls, d => sndN ks ls d.2
theorem fst_app : ∀ (ks ls : List Knd) (d : denN ks) (e : denN ls), fstN ks ls (appN ks ls d e) = d
  | [], _, _, _ => rfl
  | _ :: ks, ls, d, e => congrArg (Prod.mk d.1) (fst_app ks ls d.2 e)
theorem snd_app : ∀ (ks ls : List Knd) (d : denN ks) (e : denN ls), sndN ks ls (appN ks ls d e) = e
  | [], _, _, _ => rfl
  | _ :: ks, ls, d, e => snd_app ks ls d.2 e
def getIs (env : List (Nat × Nat × AV)) : (rs : List RIt) → List Ent → Option (denN (ksOf rs) × List Ent)
  | [], chs => some ((), chs)
  | r :: rs, chs => (getI1 env chs r).bind fun q => (getIs env rs q.2).bind fun p => some (appN r.ks (ksOf rs) q.1 p.1, p.2)
/-- the places anew: slots and entries -/
def newE (id : Nat) : (r : RIt) → denN r.ks → List (Nat × Nat × AV)
  | .slot t k, d => [(t, id, .one (putK id k d.1))]
  | .agg t k ks, d => [(t, id, .agg (putKs id (k :: ks) d))]
  | _, _ => []
def newC (id ver : Nat) : (r : RIt) → denN r.ks → List Ent
  | .slot _ k, d => newKs id ver [k] d
  | .agg _ k ks, d => newKs id ver (k :: ks) d
  | .box h T ks, d => (h, ver, .blk T (putKs id ks d)) :: newKs id ver ks d
  | .row h E u, d => [(h, ver, .own (.sl E u) d.1)]
def newEs : (id : Nat) → (rs : List RIt) → denN (ksOf rs) → List (Nat × Nat × AV)
  | _, [], _ => []
  | id, r :: rs, d => newE id r (fstN r.ks (ksOf rs) d) ++ newEs (id + r.ks.length) rs (sndN r.ks (ksOf rs) d)
def newCs (ver : Nat) : (id : Nat) → (rs : List RIt) → denN (ksOf rs) → List Ent
  | _, [], _ => []
  | id, r :: rs, d => newC id ver r (fstN r.ks (ksOf rs) d) ++ newCs ver (id + r.ks.length) rs (sndN r.ks (ksOf rs) d)
structure Cut where
  nxt : Nat
  its : List RIt
  env : List (Nat × Nat × AV)
  chs : List Ent
def Cut.top (c : Cut) : Nat := c.nxt + (ksOf c.its).length
/-- the state behind the cut -/
def Cut.at (c : Cut) (d : denN (ksOf c.its)) : Sg := ⟨newEs c.nxt c.its d ++ c.env, newCs c.top c.nxt c.its d ++ c.chs, c.top + 1⟩
def hasN (t : Nat) : List Nat → Bool
  | [] => false
  | u :: l => Nat.beq u t || hasN t l
def lookV (l : List (Nat × Nat × AV)) (t : Nat) : Option Nat := match l with
  | [] => none
  | (u, k, _) :: l => if Nat.beq u t then some k else lookV l t
/-- what stays is there as it was -/
def envStays (env : List (Nat × Nat × AV)) : List (Nat × Nat × AV) → Bool
  | [] => true
  | e :: l => (match lookV env e.1 with | some v => Nat.beq v e.2.1 | none => false) && envStays env l
def chsStay : List Ent → List Ent → Option (List Ent)
  | [], chs => some chs
  | e :: l, chs => (pull e.1 chs).bind fun r => chkT (Nat.beq r.1.2.1 e.2.1) (chsStay l r.2)
def distinctH : List Ent → Bool
  | [] => true
  | e :: l => noHdr e.1 l && distinctH l
def ritHdrs (s : Sg) : List RIt → List Hdr
  | [] => []
  | .slot t _ :: rs => (match look s.env t with | some v => avHdrs v | none => []) ++ ritHdrs s rs
  | .box h _ _ :: rs => (match blkOf h s.chs with | some b => avHdrs (.agg b.cells) | none => []) ++ ritHdrs s rs
  | .row h _ _ :: rs => h :: ritHdrs s rs
  | .agg t _ _ :: rs => (match look s.env t with | some v => avHdrs v | none => []) ++ ritHdrs s rs
def rowHdrs : List Ent → List Hdr
  | [] => []
  | (h, _, .own _ _) :: l => h :: rowHdrs l
  | _ :: l => rowHdrs l
/-- a state is cut: its data -/
def Cut.of (c : Cut) (s0 : Sg) : Option (denN (ksOf c.its)) := match prepL (rowHdrs c.chs) (prepL (ritHdrs s0 c.its) s0) with
  | s => (getIs s.env c.its s.chs).bind fun q => (chsStay c.chs q.2).bind fun _ => chkT (envStays s.env c.env) (some q.1)
def RIt.hdrs : RIt → List Hdr
  | .slot _ _ => []
  | .box h _ _ => [h]
  | .row h _ _ => [h]
  | .agg _ _ _ => []
def hdrsR : List RIt → List Hdr
  | [] => []
  | r :: rs => r.hdrs ++ hdrsR rs
/-- of each slot what it holds -/
def firstE : List (Nat × Nat × AV) → List Nat → List (Nat × Nat × AV)
  | [], _ => []
  | e :: l, seen => match hasN e.1 seen with
    | true => firstE l seen
    | false => e :: firstE l (e.1 :: seen)
theorem firstE_sub : ∀ {l : List (Nat × Nat × AV)} {seen : List Nat}, (firstE l seen).Sublist l
  | [], _ => List.Sublist.refl _
  | e :: l, seen => by
    unfold firstE
    split
    · exact firstE_sub.cons _
    · exact firstE_sub.cons_cons _
/-- the cut at a state: 'ks' are the slots that are written behind it -/
def realI : List It → List It
  | [] => []
  | .gone _ :: is => realI is
  | i :: is => i :: realI is
/-- rows that are not wanted behind -/
def goneH (s : Sg) : List It → List Hdr
  | [] => []
  | .gone t :: is => (match look s.env t with
    | some (.one (.ptr h _)) => match blkOf h s.chs with | some b => avHdrs (.agg b.cells) | none => []
    | some v => avHdrs v
    | none => []) ++ goneH s is
  | _ :: is => goneH s is
def mkCut (ks : List Nat) (is : List It) (s : Sg) : Option Cut := (resolveL s (realI is)).bind fun rs => chkT (distinctH s.chs) (some ⟨s.nxt, rs, firstE (s.env.filter fun e => !hasN e.1 ks) [], s.chs.filter fun e => !hasH e.1 (goneH s is ++ (ritHdrs s rs ++ hdrsR rs))⟩)

/-! ### Cuts are so -/
theorem newK_ok {P : Program} {w0 : World} {J : Hp} {θ : Th} {m id ver : Nat} {chs : List Ent} {k : Knd} {d : k.den} (h1 : id < m) (h2 : ver < m) : ∀ e ∈ newK id ver k d, okE P w0 J θ m chs e := by
  cases k with
  | own E t => intro e he; obtain rfl := List.mem_singleton.1 he; exact ⟨h1, h2, trivial⟩
  | map md => intro e he; obtain rfl := List.mem_singleton.1 he; exact ⟨h1, h2, trivial⟩
  | _ => intro e he; cases he
theorem newKs_ok {P : Program} {w0 : World} {J : Hp} {θ : Th} {m ver : Nat} {chs : List Ent} (h2 : ver < m) : ∀ {ks : List Knd} {id : Nat} {d : denN ks}, id + ks.length ≤ m → ∀ e ∈ newKs id ver ks d, okE P w0 J θ m chs e
  | [], _, _, _ => fun e he => by cases he
  | k :: ks, id, d, h1 => fun e he => by
    rw [List.length_cons] at h1
    rcases List.mem_append.1 he with he | he
    · exact newK_ok (by omega) h2 e he
    · exact newKs_ok h2 (by omega) e he
section
variable {P : Program} {w0 w : World} {J : Hp} {θ : Th} {n : Nat} {C : List Ch}
/-- what is said of a place that is cut -/
def CutI (P : Program) (w0 w : World) (J : Hp) (θ : Th) (env : List (Nat × Nat × AV)) (chs : List Ent) (hs : List Hdr) (len : Nat) (rest : List Ent) (E : Nat → List (Nat × Nat × AV)) (N : Nat → Nat → List Ent) : Prop :=
  ∃ vals : List Value, vals.length = len ∧ ∀ (θ' : Th) (id ver m : Nat), (∀ i v, vals[i]? = some v → θ' (id + i) = v) → id + len ≤ m → ver < m → (∀ h ∈ hs, hv θ' h = hv θ h ∧ h.id < m) → ∀ C, St J w0 w (chs.map (toCh P θ) ++ C) →
    (∀ e ∈ E id, (∀ chs', e.2.2.ok P w0 J θ' m chs') ∧ ∃ x, look env e.1 = some x ∧ e.2.2.v θ' = x.v θ) ∧ (∀ chs', ∀ e ∈ N id ver, okE P w0 J θ' m chs' e) ∧ St J w0 w ((N id ver).map (toCh P θ') ++ (rest.map (toCh P θ) ++ C))
theorem getI1_ok {env : List (Nat × Nat × AV)} {chs chs0 : List Ent} {r : RIt} {q : denN r.ks × List Ent} (h : getI1 env chs r = some q) (henv : ∀ e ∈ env, e.2.2.ok P w0 J θ n chs0) (hchs : ∀ e ∈ chs, okE P w0 J θ n chs0 e) :
    CutI P w0 w J θ env chs r.hdrs r.ks.length q.2 (fun id => newE id r q.1) (fun id ver => newC id ver r q.1) := by
  cases r with
  | slot t k =>
    obtain ⟨x, hx, h⟩ := bind_some (show (oneOf (look env t)).bind _ = some q from h)
    have hx := oneOf_ok hx
    · have hxo : x.ok P w0 J θ n := by
        obtain ⟨e, he, h1⟩ := look_mem hx
        have := henv e he
        rw [h1] at this
        exact this
      refine ⟨[x.v θ], rfl, fun θ' id ver m hid hm hv' hh C hS => ?_⟩
      obtain ⟨k1, k2, k3, k4⟩ := getKs_ok (ver := ver) (C := C) (id := id) (θ' := θ') (m := m) h (fun y hy => by obtain rfl := List.mem_singleton.1 hy; exact hxo) hS (fun i y hy => by
        cases i with
        | zero => simp at hy; rw [← hy]; exact hid 0 _ rfl
        | succ i => simp at hy) hm
      refine ⟨fun e he => ?_, fun chs' => newKs_ok hv' hm, k3⟩
      obtain rfl := List.mem_singleton.1 he
      exact ⟨fun chs' => k1 _ (by simp [putKs]), _, hx, (List.cons.inj (show _ :: _ = _ :: _ from k2)).1⟩
  | box hh T ks =>
    obtain ⟨b, hb, h⟩ := bind_some (show (blkOf hh chs).bind _ = some q from h)
    obtain ⟨hT, h⟩ := chkT_ok h
    have hT := Nat.eq_of_beq_eq_true hT
    have hp := blkOf_ok hb
    have hbk := hchs (b.ent hh) (hp.mem_iff.2 (by simp))
    have hlen : ∀ {ks : List Knd} {xs : List LV} {chs : List Ent} {q : denN ks × List Ent}, getKs ks xs chs = some q → xs.length = ks.length := by
      intro ks
      induction ks with
      | nil => intro xs chs q h; cases xs with
        | nil => rfl
        | cons _ _ => cases h
      | cons k ks ih => intro xs chs q h; cases xs with
        | nil => cases h
        | cons x xs =>
          obtain ⟨a, ha, h⟩ := bind_some (show (getK k x chs).bind _ = some q from h)
          obtain ⟨c, hc, h⟩ := bind_some h
          rw [List.length_cons, List.length_cons, ih hc]
    have hl := hlen h
    have hvl : (b.cells.map (·.v θ)).length = ks.length := by rw [List.length_map]; exact hl
    have hget : ∀ {θ' : Th} {id : Nat}, (∀ i v, (b.cells.map (·.v θ))[i]? = some v → θ' (id + i) = v) → ∀ i x, b.cells[i]? = some x → θ' (id + i) = x.v θ := fun hid i x hx => hid i _ (by rw [List.getElem?_map, hx]; rfl)
    refine ⟨b.cells.map (·.v θ), hvl, fun θ' id ver m hid hm hv' hh' C hS => ?_⟩
    · have hS' : St J w0 w (b.rest.map (toCh P θ) ++ (Ch.blk (bk (hv θ hh)) (b.cells.map (·.v θ)) b.T :: C)) := by
        refine (hS.perm ((hp.map (toCh P θ)).append_right C)).perm ?_
        exact (List.perm_middle (l₁ := b.rest.map (toCh P θ)) (l₂ := C)).symm
      obtain ⟨k1, k2, k3, k4⟩ := getKs_ok (ver := ver) (id := id) (θ' := θ') (m := m) h hbk.2.2 hS' (hget hid) hm
      obtain ⟨g1, g2⟩ := hh' hh (by simp [RIt.hdrs])
      refine ⟨fun e he => (by cases he), fun chs' e he => ?_, ?_⟩
      · rcases List.mem_cons.1 he with rfl | he
        · exact ⟨g2, hv', k1⟩
        · exact newKs_ok hv' hm e he
      · show St J w0 w (Ch.blk (bk (hv θ' hh)) ((putKs id ks q.1).map (·.v θ')) T :: ((newKs id ver ks q.1).map (toCh P θ') ++ (q.2.map (toCh P θ) ++ C)))
        rw [g1, k2, ← hT]
        refine k3.perm ?_
        rw [← List.append_assoc, ← List.append_assoc]
        exact List.perm_middle
  | agg t k ks =>
    obtain ⟨xs, hx, h⟩ := bind_some (show (aggOf (look env t)).bind _ = some q from h)
    have hx := aggOf_ok hx
    have hxo : ∀ x ∈ xs, x.ok P w0 J θ n := by
      obtain ⟨e, he, h1⟩ := look_mem hx
      have := henv e he
      rw [h1] at this
      exact this
    have hlen : ∀ {ks : List Knd} {xs : List LV} {chs : List Ent} {q : denN ks × List Ent}, getKs ks xs chs = some q → xs.length = ks.length := by
      intro ks
      induction ks with
      | nil => intro xs chs q h; cases xs with
        | nil => rfl
        | cons _ _ => cases h
      | cons k ks ih => intro xs chs q h; cases xs with
        | nil => cases h
        | cons x xs =>
          obtain ⟨a, ha, h⟩ := bind_some (show (getK k x chs).bind _ = some q from h)
          obtain ⟨c, hc, h⟩ := bind_some h
          rw [List.length_cons, List.length_cons, ih hc]
    refine ⟨xs.map (·.v θ), by rw [List.length_map]; exact hlen h, fun θ' id ver m hid hm hv' hh C hS => ?_⟩
    obtain ⟨k1, k2, k3, k4⟩ := getKs_ok (ver := ver) (C := C) (id := id) (θ' := θ') (m := m) h hxo hS (fun i y hy => hid i _ (by rw [List.getElem?_map, hy]; rfl)) hm
    refine ⟨fun e he => ?_, fun chs' => newKs_ok hv' hm, k3⟩
    obtain rfl := List.mem_singleton.1 he
    refine ⟨fun chs' => k1, _, hx, ?_⟩
    show Value.agg ((putKs id (k :: ks) q.1).map (·.v θ')).toArray = Value.agg (xs.map (·.v θ)).toArray
    rw [k2]
  | row hh E u =>
    have h : getKs [.own E u] [.own hh] chs = some q := h
    obtain ⟨a, ha, h⟩ := bind_some (show (getK (.own E u) (.own hh) chs).bind _ = some q from h)
    obtain ⟨c, hc, h⟩ := bind_some h
    obtain rfl := Option.some.inj (show some ((), a.2) = some c from hc)
    obtain rfl := Option.some.inj h
    obtain ⟨r, hr, ha⟩ := bind_some (show (takeSl E u (.own hh) chs).bind _ = some a from ha)
    obtain rfl := Option.some.inj ha
    obtain ⟨p, hb⟩ := takeSl_ok hr P J θ
    refine ⟨[hv θ hh], rfl, fun θ' id ver m hid hm hv' hh' C hS => ?_⟩
    have h1 : St J w0 w (Ch.own (Ty.sl E u).rep [hv θ hh] r.1 :: (r.2.2.map (toCh P θ) ++ C)) := by
      refine St.bun ?_ hb
      have := hS.perm ((p.map (toCh P θ)).append_right C)
      rwa [List.map_append, List.append_assoc] at this
    refine ⟨fun e he => (by cases he), fun chs' e he => ?_, ?_⟩
    · obtain rfl := List.mem_singleton.1 he
      exact ⟨(hh' hh (by simp [RIt.hdrs])).2, hv', trivial⟩
    · show St J w0 w (Ch.own _ [hv θ' hh] _ :: _)
      rw [(hh' hh (by simp [RIt.hdrs])).1]; exact h1
theorem getK_sub {k : Knd} {x : LV} {chs : List Ent} {q : k.den × List Ent} (h : getK k x chs = some q) : ∀ e ∈ q.2, e ∈ chs := by
  cases k with
  | num k => obtain ⟨d, hd, h⟩ := bind_some (show (lvInt k x).bind _ = some q from h); obtain rfl := Option.some.inj h; exact fun e he => he
  | boo => obtain ⟨d, hd, h⟩ := bind_some (show (lvBool x).bind _ = some q from h); obtain rfl := Option.some.inj h; exact fun e he => he
  | str => obtain ⟨d, hd, h⟩ := bind_some (show (lvStr x).bind _ = some q from h); obtain rfl := Option.some.inj h; exact fun e he => he
  | rd E t => obtain ⟨d, hd, h⟩ := bind_some (show (lvSl E t x).bind _ = some q from h); obtain rfl := Option.some.inj h; exact fun e he => he
  | own E t =>
    obtain ⟨r, hr, h⟩ := bind_some (show (takeSl E t x chs).bind _ = some q from h)
    obtain rfl := Option.some.inj h
    exact fun e he => (takeSl_perm hr).mem_iff.2 (by simp [he])
  | tre T E t => obtain ⟨d, hd, h⟩ := bind_some (show (lvTr T E t x).bind _ = some q from h); obtain rfl := Option.some.inj h; exact fun e he => he
  | map d =>
    obtain ⟨h0, ver0, -, p⟩ := takeMp_ok (show takeMp d x chs = some q from h)
    exact fun e he => p.mem_iff.2 (by simp [he])
theorem getKs_sub : ∀ {ks : List Knd} {xs : List LV} {chs : List Ent} {q : denN ks × List Ent}, getKs ks xs chs = some q → ∀ e ∈ q.2, e ∈ chs
  | [], [], chs, q, h => by obtain rfl := Option.some.inj (show some _ = some q from h); exact fun e he => he
  | k :: ks, x :: xs, chs, q, h => by
    obtain ⟨a, ha, h⟩ := bind_some (show (getK k x chs).bind _ = some q from h)
    obtain ⟨b, hb, h⟩ := bind_some h
    obtain rfl := Option.some.inj h
    exact fun e he => getK_sub ha e (getKs_sub hb e he)
  | [], _ :: _, chs, q, h => by cases h
  | _ :: _, [], chs, q, h => by cases h
theorem getI1_sub {env : List (Nat × Nat × AV)} {chs : List Ent} {r : RIt} {q : denN r.ks × List Ent} (h : getI1 env chs r = some q) : ∀ e ∈ q.2, e ∈ chs := by
  cases r with
  | slot t k =>
    obtain ⟨x, hx, h⟩ := bind_some (show (oneOf (look env t)).bind _ = some q from h)
    exact getKs_sub h
  | box hh T ks =>
    obtain ⟨b, hb, h⟩ := bind_some (show (blkOf hh chs).bind _ = some q from h)
    obtain ⟨hT, h⟩ := chkT_ok h
    exact fun e he => (blkOf_ok hb).mem_iff.2 (List.mem_cons_of_mem _ (getKs_sub h e he))
  | row hh E u => exact getKs_sub (show getKs [.own E u] [.own hh] chs = some q from h)
  | agg t k ks =>
    obtain ⟨x, hx, h⟩ := bind_some (show (aggOf (look env t)).bind _ = some q from h)
    exact getKs_sub h
theorem getIs_ok {env : List (Nat × Nat × AV)} {chs0 : List Ent} (henv : ∀ e ∈ env, e.2.2.ok P w0 J θ n chs0) : ∀ {rs : List RIt} {chs : List Ent} {q : denN (ksOf rs) × List Ent}, getIs env rs chs = some q → (∀ e ∈ chs, okE P w0 J θ n chs0 e) →
    (∀ e ∈ q.2, e ∈ chs) ∧ CutI P w0 w J θ env chs (hdrsR rs) (ksOf rs).length q.2 (fun id => newEs id rs q.1) (fun id ver => newCs ver id rs q.1)
  | [], chs, q, h, _ => by
    obtain rfl := Option.some.inj (show some _ = some q from h)
    exact ⟨fun e he => he, [], rfl, fun θ' id ver m _ _ _ _ C hS => ⟨fun e he => (by cases he), fun chs' e he => (by cases he), hS⟩⟩
  | r :: rs, chs, q, h, hchs => by
    obtain ⟨a, ha, h⟩ := bind_some (show (getI1 env chs r).bind _ = some q from h)
    obtain ⟨b, hb, h⟩ := bind_some h
    obtain rfl := Option.some.inj h
    have hsub := getI1_sub ha
    obtain ⟨v1, l1, k1⟩ := getI1_ok (w := w) ha henv hchs
    obtain ⟨s2, v2, l2, k2⟩ := getIs_ok henv hb fun e he => hchs e (hsub e he)
    refine ⟨fun e he => hsub e (s2 e he), v1 ++ v2, by rw [List.length_append, l1, l2]; exact (List.length_append ..).symm, fun θ' id ver m hid hm hv' hh C hS => ?_⟩
    have hm : id + (r.ks.length + (ksOf rs).length) ≤ m := by
      have : (ksOf (r :: rs)).length = r.ks.length + (ksOf rs).length := List.length_append ..
      rw [this] at hm; exact hm
    obtain ⟨a1, a2, a3⟩ := k1 θ' id ver m (fun i v hi => hid i v (by rw [List.getElem?_append_left (List.getElem?_eq_some_iff.1 hi).1]; exact hi)) (by omega) hv' (fun x hx => hh x (List.mem_append_left _ hx)) C hS
    obtain ⟨b1, b2, b3⟩ := k2 θ' (id + r.ks.length) ver m (fun i v hi => by
      have := hid (r.ks.length + i) v (by rw [List.getElem?_append_right (by omega), l1, Nat.add_sub_cancel_left]; exact hi)
      rwa [← Nat.add_assoc] at this) (by omega) hv' (fun x hx => hh x (List.mem_append_right _ hx)) ((newC id ver r a.1).map (toCh P θ') ++ C) (a3.perm (List.perm_append_comm_assoc _ _ _))
    have e1 : newEs id (r :: rs) (appN r.ks (ksOf rs) a.1 b.1) = newE id r a.1 ++ newEs (id + r.ks.length) rs b.1 := by
      show newE id r (fstN _ _ _) ++ newEs _ rs (sndN _ _ _) = _
      rw [fst_app, snd_app]
    have e2 : newCs ver id (r :: rs) (appN r.ks (ksOf rs) a.1 b.1) = newC id ver r a.1 ++ newCs ver (id + r.ks.length) rs b.1 := by
      show newC id ver r (fstN _ _ _) ++ newCs ver _ rs (sndN _ _ _) = _
      rw [fst_app, snd_app]
    show (∀ e ∈ newEs id (r :: rs) (appN r.ks (ksOf rs) a.1 b.1), _) ∧ (∀ chs', ∀ e ∈ newCs ver id (r :: rs) (appN r.ks (ksOf rs) a.1 b.1), _) ∧ St J w0 w ((newCs ver id (r :: rs) (appN r.ks (ksOf rs) a.1 b.1)).map _ ++ _)
    rw [e1, e2]
    refine ⟨fun e he => ?_, fun chs' e he => ?_, ?_⟩
    · rcases List.mem_append.1 he with he | he
      · exact a1 e he
      · exact b1 e he
    · rcases List.mem_append.1 he with he | he
      · exact a2 chs' e he
      · exact b2 chs' e he
    · rw [List.map_append]
      refine b3.perm ?_
      have := List.perm_append_comm_assoc ((newCs ver (id + r.ks.length) rs b.1).map (toCh P θ') ++ b.2.map (toCh P θ)) ((newC id ver r a.1).map (toCh P θ')) C
      rw [List.append_assoc, List.append_assoc] at this
      rw [List.append_assoc]
      exact this
end
end Go.Proofs.YtimjccbdngajoaaGreat.R
