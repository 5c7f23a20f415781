/- Operations that only reckon or read. No program text is named here. -/
import Derived.Test.YtfkocnnphjkmfaaRB
set_option linter.unusedVariables false
set_option linter.unusedSimpArgs false
set_option linter.unnecessarySimpa false
set_option linter.unusedSectionVars false
namespace Go.Proofs.Ytfkocnnphjkmfaa.R
open Go.RowKit
open Go.Proofs.Ytfkocnnphjkmfaa.D

/-- a value known, and how it is printed -/
def one (v : Value) : AV := .one (.val v)
def asB : AV → Option (Bool × Bool)
  | .one (.val (.bool b)) => some (b, true)
  | .one (.nb b) => some (b, false)
  | _ => none
/-- the two ways of a boolean -/
def onB {Y : Type} (v : AV) (x y : Option Y) : Option Y := match v with
  | .one (.val (.bool b)) => if b then x else y
  | .one (.nb b) => if b then y else x
  | _ => none
theorem onB_ok {Y : Type} {v : AV} {x y : Option Y} {r : Y} (h : onB v x y = some r) : ∃ b : Bool, (∀ θ, v.v θ = .bool b) ∧ (if b then x else y) = some r := by
  unfold onB at h
  split at h
  · exact ⟨_, fun θ => rfl, h⟩
  · rename_i b
    refine ⟨!b, fun θ => rfl, ?_⟩
    cases b <;> exact h
  · cases h
/-- arithmetic -/
def chkT {Y : Type} (b : Bool) (x : Option Y) : Option Y := match b with
  | true => x
  | false => none
theorem chkT_ok {Y : Type} {b : Bool} {x : Option Y} {r : Y} (h : chkT b x = some r) : b = true ∧ x = some r := by
  cases b
  · cases h
  · exact ⟨rfl, h⟩
/-- a condition on numbers: at once where they are known, else asked of the model -/
def isLit : Value → Bool
  | .int _ (.ofNat _) => true
  | .int _ (.negSucc _) => true
  | _ => false
def arith (b : BinOp) (k : IntKind) (m n : Int) : Option Value := match k, b with
  | .i64, .add => some (.int .i64 (IntKind.i64.wrap (m + n)))
  | .i64, .sub => some (.int .i64 (IntKind.i64.wrap (m - n)))
  | .i64, .mul => some (.int .i64 (IntKind.i64.wrap (m * n)))
  | .i64, .and => some (.int .i64 (andI m n))
  | .i64, .or => some (.int .i64 (orI m n))
  | .i64, .xor => some (.int .i64 (xorI m n))
  | .u64, .add => some (.int .u64 (IntKind.u64.wrap (m + n)))
  | .u64, .sub => some (.int .u64 (IntKind.u64.wrap (m - n)))
  | .u64, .mul => some (.int .u64 (IntKind.u64.wrap (m * n)))
  | .u64, .and => some (.int .u64 (andU m n))
  | _, .eql => some (.bool (m == n))
  | _, .neq => some (.bool (m != n))
  | _, .lss => some (.bool (decide (m < n)))
  | _, .leq => some (.bool (decide (m ≤ n)))
  | _, .gtr => some (.bool (decide (m > n)))
  | _, .geq => some (.bool (decide (m ≥ n)))
  | _, _ => none
/-- those that ask for something -/
def arithC (b : BinOp) (k : IntKind) (m n : Int) : Option (Value × ((p : Prop) × Decidable p)) := match k, b with
  | .i64, .quo => some (.int .i64 (quoI m n), ⟨n ≠ 0, inferInstance⟩)
  | .i64, .rem => some (.int .i64 (Int.tmod m n), ⟨n ≠ 0, inferInstance⟩)
  | .i64, .shl => some (.int .i64 (shlI m n), ⟨0 ≤ n, inferInstance⟩)
  | .i64, .shr => some (.int .i64 (shrI m n), ⟨0 ≤ n, inferInstance⟩)
  | .u64, .shr => some (.int .u64 (shrI m n), ⟨0 ≤ n, inferInstance⟩)
  | _, _ => none
def chkD {Y : Type} (c : Bool) (p : Prop) (d : Decidable p) (x : Option Y) : Option Y := match c with
  | true => @ite _ p d x none
  | false => (@chk p d).bind fun _ => x
theorem chkD_ok {Y : Type} {c : Bool} {p : Prop} {d : Decidable p} {x : Option Y} {r : Y} (h : chkD c p d x = some r) : p ∧ x = some r := by
  cases c with
  | true =>
    have h : @ite _ p d x none = some r := h
    split at h
    · exact ⟨by assumption, h⟩
    · cases h
  | false =>
    obtain ⟨u, e, h⟩ := bind_some (show (@chk p d).bind _ = some r from h)
    exact ⟨@chk_some p d u e, h⟩
def isConst : Operand → Bool
  | .const _ => true
  | _ => false
def eqB (b : BinOp) (m n : Bool) : Option Value := match b with
  | .eql => some (.bool (m == n))
  | .neq => some (.bool (m != n))
  | _ => none
def eqS (b : BinOp) (m n : ByteArray) : Option Value := match b with
  | .eql => some (.bool (m == n))
  | .neq => some (.bool (m != n))
  | _ => none
section
variable {P : Program} {I : Hp} {w0 : World} {o : Oper} {ev : Operand → Value} {x y : Operand} {t u : TypeId}
theorem arith_ok {b : BinOp} {k : IntKind} {m n : Int} {r : Value} (h : arith b k m n = some r) (ho : o.op = .binOp b t x y u) (hx : ev x = .int k m) (hy : ev y = .int k n) : OpT P I w0 o ev [] (· = r) (fun _ => []) := by
  unfold arith at h
  split at h <;> first | cases h | (obtain rfl := Option.some.inj h)
  · exact opT_add ho hx hy
  · exact opT_sub ho hx hy
  · exact opT_mul ho hx hy
  · exact opT_and ho hx hy
  · exact opT_or ho hx hy
  · exact opT_xor ho hx hy
  · exact opU_add ho hx hy
  · exact opU_sub ho hx hy
  · exact opU_mul ho hx hy
  · exact opU_and ho hx hy
  · exact opT_cmp ho hx hy rfl rfl
  · exact opT_cmp ho hx hy rfl rfl
  · exact opT_cmp ho hx hy rfl rfl
  · exact opT_cmp ho hx hy rfl rfl
  · exact opT_cmp ho hx hy rfl rfl
  · exact opT_cmp ho hx hy rfl rfl
theorem arithC_ok {b : BinOp} {k : IntKind} {m n : Int} {r : Value × ((p : Prop) × Decidable p)} (h : arithC b k m n = some r) (hp : r.2.1) (ho : o.op = .binOp b t x y u) (hx : ev x = .int k m) (hy : ev y = .int k n) : OpT P I w0 o ev [] (· = r.1) (fun _ => []) := by
  unfold arithC at h
  split at h <;> first | cases h | (obtain rfl := Option.some.inj h)
  · exact opT_quo ho hx hy hp
  · exact opT_rem ho hx hy hp
  · exact opT_shl ho hx hy hp
  · exact opT_shr ho hx hy hp
  · exact opU_shr ho hx hy hp
theorem arith_one {b : BinOp} {k : IntKind} {m n : Int} {r : Value} (h : arith b k m n = some r) : r.oneCell' = true := by
  unfold arith at h
  split at h <;> cases h <;> rfl
theorem arithC_one {b : BinOp} {k : IntKind} {m n : Int} {r : Value × ((p : Prop) × Decidable p)} (h : arithC b k m n = some r) : r.1.oneCell' = true := by
  unfold arithC at h
  split at h <;> cases h <;> rfl
theorem eqB_one {b : BinOp} {m n : Bool} {r : Value} (h : eqB b m n = some r) : r.oneCell' = true := by
  unfold eqB at h
  split at h <;> cases h <;> rfl
theorem eqS_one {b : BinOp} {m n : ByteArray} {r : Value} (h : eqS b m n = some r) : r.oneCell' = true := by
  unfold eqS at h
  split at h <;> cases h <;> rfl
theorem eqB_ok {b : BinOp} {m n : Bool} {r : Value} (h : eqB b m n = some r) (hT : P.underlying t = some .bool) (ho : o.op = .binOp b t x y u) (hx : ev x = .bool m) (hy : ev y = .bool n) : OpT P I w0 o ev [] (· = r) (fun _ => []) := by
  unfold eqB at h
  split at h <;> first | cases h | (obtain rfl := Option.some.inj h)
  · exact opT_eqb hT ho hx hy
  · exact opT_neb hT ho hx hy
theorem eqS_ok {b : BinOp} {m n : ByteArray} {r : Value} (h : eqS b m n = some r) (ho : o.op = .binOp b t x y u) (hx : ev x = .string m) (hy : ev y = .string n) : OpT P I w0 o ev [] (· = r) (fun _ => []) := by
  unfold eqS at h
  split at h <;> first | cases h | (obtain rfl := Option.some.inj h)
  · exact opT_eqs ho hx hy
  · exact opT_nes ho hx hy
end

/-! ### Operations that only reckon -/
section
variable {Y : Type} (tt : TT) (s : Sg) (k : Res → Option Y)
def kv (v : Value) : Option Y := k (.pure s (.one (.val v)))
def sMove (x : Operand) : Option Y := (opd s x).bind fun v => k (.pure s v)
def sPick (c x y : Operand) : Option Y := (opd s c).bind fun c => onB c ((opd s x).bind fun v => k (.pure s v)) ((opd s y).bind fun v => k (.pure s v))
def sNot (x : Operand) : Option Y := match opd s x with
  | some (.one (.val (.bool b))) => k (.pure s (.one (.nb b)))
  | some (.one (.nb b)) => kv s k (.bool b)
  | _ => none
def sNeg (x : Operand) : Option Y := match opd s x with
  | some (.one (.val (.int .i64 n))) => kv s k (.int .i64 (IntKind.i64.wrap (-n)))
  | _ => none
def sBin (b : BinOp) (t : TypeId) (x y : Operand) : Option Y := match opd s x, opd s y with
  | some (.one (.val (.int j m))), some (.one (.val (.int j' n))) => if j = j' then match arith b j m n with
      | some r => kv s k r
      | none => (arithC b j m n).bind fun r => chkD (isConst y) r.2.1 r.2.2 (kv s k r.1)
    else none
  | some (.one (.val (.bool m))), some (.one (.val (.bool n))) => (td tt t).bind fun d => chkT d.boo ((eqB b m n).bind fun r => kv s k r)
  | some (.one (.nb m)), some (.one (.val (.bool n))) => (td tt t).bind fun d => chkT d.boo ((eqB b (!m) n).bind fun r => kv s k r)
  | some (.one (.val (.bool m))), some (.one (.nb n)) => (td tt t).bind fun d => chkT d.boo ((eqB b m (!n)).bind fun r => kv s k r)
  | some (.one (.nb m)), some (.one (.nb n)) => (td tt t).bind fun d => chkT d.boo ((eqB b (!m) (!n)).bind fun r => kv s k r)
  | some (.one (.val (.string m))), some (.one (.val (.string n))) => (eqS b m n).bind fun r => kv s k r
  | some (.agg xs), some (.agg ys) => (td tt t).bind fun d => d.eq.bind fun ks => (eqVs ks xs ys).bind fun r => match b with
    | .eql => kv s k (.bool r)
    | .neq => k (.pure s (.one (.nb r)))
    | _ => none
  | _, _ => none
def sExtract (x : Operand) (i : Nat) : Option Y := match opd s x with
  | some (.tup ys) => (ys[i]?).bind fun y => if y.1 then k (.pure s (.agg y.2)) else match y.2 with
    | [x] => k (.pure s (.one x))
    | _ => none
  | _ => none
def sLen (T : TypeId) (x : Operand) : Option Y := (td tt T).bind fun d => match d.el, opd s x with
  | some _, some (.one (.rd _ (.sl _ _) xs)) => kv s k (.int .i64 (xs.length : Int))
  | some _, some (.one (.val (.slice none 0 0))) => kv s k (.int .i64 ((0 : Nat) : Int))
  | _, _ => none
def sIndexR (T : TypeId) (x i : Operand) : Option Y := (td tt T).bind fun d => match d.el, opd s x, opd s i with
  | some E, some (.one (.rd h (.sl E' t) xs)), some (.one (.val (.int .i64 i))) => (td tt E).bind fun e => chkT (Nat.beq e.n t.size) ((getI xs i).bind fun a => k (.pure s (.elr h E' t xs a i 0)))
  | _, _, _ => none
def sField (T : TypeId) (x : Operand) (f : Nat) : Option Y := (td tt T).bind fun d => (d.fields[f]?).bind fun q => match opd s x with
  | some (.elr h E t xs a i off) => k (.pure s (.elr h E t xs a i (off + q.1)))
  | some (.elo h ver E t xs a i off) => k (.pure s (.elo h ver E t xs a i (off + q.1)))
  | some (.one (.ptr h off)) => k (.pure s (.one (.ptr h (off + q.1))))
  | _ => none
def sLoadR (T : TypeId) (x : Operand) : Option Y := (td tt T).bind fun d => match opd s x with
  | some (.elr h E t xs a i off) => (fldAt d.agg t off d.n).bind fun p => chkT (p.ty.isProd == d.agg) (k (.pure s (avRd s.nxt p.ty (p.get a))))
  | _ => none
end
section
variable {Y : Type} {tt : TT} {s : Sg} {k : Res → Option Y} {P : Program} {w0 : World} {o : Oper} {res : Y} {x y : Operand}
def Oks (P : Program) (w0 : World) (s : Sg) (o : Oper) (k : Res → Option Y) (res : Y) : Prop := ∃ r, k r = some res ∧ Good P w0 s o r
theorem kv_ok {v : Value} (h : kv s k v = some res) (h1 : v.oneCell' = true) (hop : ∀ J θ, Fine P w0 J θ s → OpT P J w0 o (evL (envL θ s)) [] (· = v) (fun _ => [])) : Oks P w0 s o k res :=
  ⟨_, h, good_val hop fun _ _ _ => h1⟩
theorem sMove_ok (ho : o.op = .move x ∨ o.op = .assign x) (h : sMove s k x = some res) : Oks P w0 s o k res := by
  obtain ⟨v, hv, h⟩ := bind_some h
  refine ⟨_, h, good_val (fun J θ hf => ?_) fun J θ hf => opd_ok hf hv⟩
  rcases ho with ho | ho
  · exact opT_move ho (opd_ev hv)
  · exact opT_assign ho (opd_ev hv)
theorem sPick_ok {c : Operand} (ho : o.op = .pick c x y) (h : sPick s k c x y = some res) : Oks P w0 s o k res := by
  obtain ⟨v, hv, h⟩ := bind_some h
  obtain ⟨b, hb, h⟩ := onB_ok h
  cases b with
  | true =>
    obtain ⟨u, hu, h⟩ := bind_some (show (opd s x).bind _ = some res from h)
    exact ⟨_, h, good_val (fun J θ hf => opT_pick ho ((opd_ev hv).trans (hb θ)) (opd_ev hu)) fun J θ hf => opd_ok hf hu⟩
  | false =>
    obtain ⟨u, hu, h⟩ := bind_some (show (opd s y).bind _ = some res from h)
    exact ⟨_, h, good_val (fun J θ hf => opT_pick ho ((opd_ev hv).trans (hb θ)) (opd_ev hu)) fun J θ hf => opd_ok hf hu⟩
theorem sNot_ok {t : TypeId} (ho : o.op = .unOp .not t x) (h : sNot s k x = some res) : Oks P w0 s o k res := by
  unfold sNot at h
  split at h
  · rename_i b hx
    exact ⟨_, h, good_val (fun J θ hf => opT_not ho (opd_ev hx)) fun _ _ _ => trivial⟩
  · rename_i b hx
    exact kv_ok h rfl fun J θ hf => by
      have := opT_not (P := P) (I := J) (w0 := w0) (b := !b) ho (opd_ev (θ := θ) hx)
      rwa [Bool.not_not] at this
  · cases h
theorem sNeg_ok {t : TypeId} (ho : o.op = .unOp .neg t x) (h : sNeg s k x = some res) : Oks P w0 s o k res := by
  unfold sNeg at h
  split at h
  · rename_i b hx
    exact kv_ok h rfl fun J θ hf => opT_neg ho (opd_ev hx)
  · cases h
theorem sBin_ok (hT : TTok P tt) {b : BinOp} {t u : TypeId} (ho : o.op = .binOp b t x y u) (h : sBin tt s k b t x y = some res) : Oks P w0 s o k res := by
  unfold sBin at h
  split at h
  · rename_i j m j' n hx hy
    split at h
    · rename_i hj
      subst hj
      split at h
      · rename_i r hr
        exact kv_ok h (arith_one hr) fun J θ hf => arith_ok hr ho (opd_ev hx) (opd_ev hy)
      · obtain ⟨r, hr, h⟩ := bind_some h
        obtain ⟨hp, h⟩ := chkD_ok h
        exact kv_ok h (arithC_one hr) fun J θ hf => arithC_ok hr hp ho (opd_ev hx) (opd_ev hy)
    · cases h
  · rename_i m n hx hy
    obtain ⟨d, hd, h⟩ := bind_some h
    obtain ⟨hb, h⟩ := chkT_ok h
    obtain ⟨r, hr, h⟩ := bind_some h
    exact kv_ok h (eqB_one hr) fun J θ hf => eqB_ok hr ((hT.get hd).boo hb) ho (opd_ev hx) (opd_ev hy)
  · rename_i m n hx hy
    obtain ⟨d, hd, h⟩ := bind_some h
    obtain ⟨hb, h⟩ := chkT_ok h
    obtain ⟨r, hr, h⟩ := bind_some h
    exact kv_ok h (eqB_one hr) fun J θ hf => eqB_ok hr ((hT.get hd).boo hb) ho (opd_ev hx) (opd_ev hy)
  · rename_i m n hx hy
    obtain ⟨d, hd, h⟩ := bind_some h
    obtain ⟨hb, h⟩ := chkT_ok h
    obtain ⟨r, hr, h⟩ := bind_some h
    exact kv_ok h (eqB_one hr) fun J θ hf => eqB_ok hr ((hT.get hd).boo hb) ho (opd_ev hx) (opd_ev hy)
  · rename_i m n hx hy
    obtain ⟨d, hd, h⟩ := bind_some h
    obtain ⟨hb, h⟩ := chkT_ok h
    obtain ⟨r, hr, h⟩ := bind_some h
    exact kv_ok h (eqB_one hr) fun J θ hf => eqB_ok hr ((hT.get hd).boo hb) ho (opd_ev hx) (opd_ev hy)
  · rename_i m n hx hy
    obtain ⟨r, hr, h⟩ := bind_some h
    exact kv_ok h (eqS_one hr) fun J θ hf => eqS_ok hr ho (opd_ev hx) (opd_ev hy)
  · rename_i xs ys hx hy
    obtain ⟨d, hd, h⟩ := bind_some h
    obtain ⟨ks, hk, h⟩ := bind_some h
    obtain ⟨r, hr, h⟩ := bind_some h
    have he : ∀ (θ : Th) w, EqT P t (AV.v θ (.agg xs)) (AV.v θ (.agg ys)) r w := fun θ w => eqVs_ok ((hT.get hd).eq _ hk w) hr
    split at h
    · exact kv_ok h rfl fun J θ hf => opT_eqv (he θ) ho (opd_ev hx) (opd_ev hy) rfl
    · exact ⟨_, h, good_val (fun J θ hf => opT_nev (he θ) ho (opd_ev hx) (opd_ev hy) rfl) fun _ _ _ => trivial⟩
    · cases h
  · cases h
theorem sExtract_ok {i : Nat} (ho : o.op = .extract x i) (h : sExtract s k x i = some res) : Oks P w0 s o k res := by
  unfold sExtract at h
  split at h
  · rename_i ys hx
    obtain ⟨y, hy, h⟩ := bind_some h
    have hi : ∀ θ, ((ys.map (partV θ)).toArray)[i]? = some (partV θ y) := fun θ => by simp [hy]
    have hm : y ∈ ys := List.mem_of_getElem? hy
    split at h
    · rename_i h1
      exact ⟨_, h, good_val (fun J θ hf => opT_extract ho (opd_ev hx) ((hi θ).trans (by unfold partV; rw [if_pos h1]; rfl))) fun J θ hf => (opd_ok hf hx) y hm⟩
    · rename_i h1
      split at h
      · rename_i z hz
        exact ⟨_, h, good_val (fun J θ hf => opT_extract ho (opd_ev hx) ((hi θ).trans (by unfold partV; rw [if_neg h1, hz]; rfl))) fun J θ hf => (opd_ok hf hx) y hm z (by rw [hz]; simp)⟩
      · cases h
  · cases h
theorem sLen_ok (hT : TTok P tt) {T : TypeId} (ho : o.op = .call { callee := .builtin .len, args := #[x], argTypes := #[T] }) (h : sLen tt s k T x = some res) : Oks P w0 s o k res := by
  unfold sLen at h
  obtain ⟨d, hd, h⟩ := bind_some h
  split at h
  · rename_i E h' E' t xs he hx
    exact kv_ok h rfl fun J θ hf => opT_len_hd (Hd.of_rd (opd_ok hf hx).2) ((hT.get hd).el _ he) ho (opd_ev hx)
  · rename_i E he hx
    exact kv_ok h rfl fun J θ hf => opT_len_s ((hT.get hd).el _ he) ho (opd_ev hx)
  · cases h
theorem sIndexR_ok (hT : TTok P tt) {T : TypeId} {i : Operand} (ho : o.op = .indexAddr T x i) (h : sIndexR tt s k T x i = some res) : Oks P w0 s o k res := by
  unfold sIndexR at h
  obtain ⟨d, hd, h⟩ := bind_some h
  split at h
  · rename_i E h' E' t xs j he hx hi
    obtain ⟨e, hE, h⟩ := bind_some h
    obtain ⟨hn, h⟩ := chkT_ok h
    obtain ⟨a, ha, h⟩ := bind_some h
    have hn := Nat.eq_of_beq_eq_true hn
    refine ⟨_, h, good_val (fun J θ hf => ?_) fun J θ hf => ⟨(opd_ok hf hx).1, ha, (opd_ok hf hx).2⟩⟩
    have := opT_index_hd (I := J) (w0 := w0) (Hd.of_rd (opd_ok hf hx).2) ((hT.get hd).el _ he) (hT.get hE).ti ho (opd_ev hx) (opd_ev hi) (getI_in ha)
    rw [hn] at this
    exact this
  · cases h
theorem sField_ok (hT : TTok P tt) {T : TypeId} {f : Nat} (ho : o.op = .fieldAddr T x f) (h : sField tt s k T x f = some res) : Oks P w0 s o k res := by
  unfold sField at h
  obtain ⟨d, hd, h⟩ := bind_some h
  obtain ⟨q, hq, h⟩ := bind_some h
  have hf := (hT.get hd).fld f q hq
  split at h
  · rename_i hh E t xs a i off hx
    refine ⟨_, h, good_val (fun J θ hF => ?_) fun J θ hF => (by have := opd_ok hF hx; exact this)⟩
    have := opT_field_pt (I := J) (w0 := w0) hf ho (opd_ev (θ := θ) hx)
    rw [Nat.add_assoc] at this
    exact this
  · rename_i hh ver E t xs a i off hx
    refine ⟨_, h, good_val (fun J θ hF => ?_) fun J θ hF => (by have := opd_ok hF hx; exact this)⟩
    have := opT_field_pt (I := J) (w0 := w0) hf ho (opd_ev (θ := θ) hx)
    rw [Nat.add_assoc] at this
    exact this
  · rename_i hh off hx
    exact ⟨_, h, good_val (fun J θ hF => opT_field_addr hf ho (opd_ev (θ := θ) hx)) fun J θ hF => (by have := opd_ok hF hx; exact this)⟩
  · cases h
theorem sLoadR_ok (hT : TTok P tt) {T : TypeId} (ho : o.op = .load T x) (h : sLoadR tt s k T x = some res) : Oks P w0 s o k res := by
  unfold sLoadR at h
  obtain ⟨d, hd, h⟩ := bind_some h
  split at h
  · rename_i hh E t xs a i off hx
    obtain ⟨p, hp, h⟩ := bind_some h
    obtain ⟨hg, h⟩ := chkT_ok h
    have hp := fldAt_ok _ _ _ _ hp
    have hdk := hT.get hd
    refine ⟨_, h, List.Perm.refl _, says_plain rfl, fun J θ hf => ?_⟩
    have ho' := opd_ok hf hx
    have := opT_load_el (P := P) (w0 := w0) (o := o) (T := T) ho'.2.2 ho'.2.1 hp.fld hdk.ti (p.ty.rep_size.trans hp.size) hdk.one ho (opd_ev (θ := θ) hx) t.rep_size
    refine OpT.weak this (fun v hv => ?_) (fun v hv => rfl)
    obtain ⟨c, h1, h2⟩ := hv
    rw [← show (p.ty.isProd == d.agg) = true → p.ty.isProd = d.agg from fun e => by simpa using e, ] at h2
    all_goals first | exact hg | skip
    have := avRd_fine (P := P) (w0 := w0) (J := J) (θ := upd θ s.nxt v) (id := s.nxt) (n := s.nxt + 1) (chs := (Res.pure s (avRd s.nxt p.ty (p.get a))).chs s.nxt) (Nat.lt_succ_self _) upd_self p.ty (p.get a) c h1 h2
    exact ⟨this.1, this.2, fun g hg => by cases hg⟩
  · cases h
end
end Go.Proofs.Ytfkocnnphjkmfaa.R
