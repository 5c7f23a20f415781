/- What one operation does to a state; skipped operations; the program's types; cells of data. No program text is named here. -/
import Derived.Test.YtfkocnnphjkmfaaRA
set_option linter.unusedVariables false
set_option linter.unusedSimpArgs false
set_option linter.unnecessarySimpa false
set_option linter.unusedSectionVars false
namespace Go.Proofs.Ytfkocnnphjkmfaa.R
open Go.RowKit
open Go.Proofs.Ytfkocnnphjkmfaa.D

/-! ### What an operation does -/
structure Res where
  rs : List Ent
  ns : List Ent
  rest : List Ent
  gives : List (Hdr × Chk)
  av : AV
def Res.chs (r : Res) (ver : Nat) : List Ent := r.gives.map (fun g => (g.1, ver, g.2)) ++ (r.rs ++ r.rest)
def putE (d : Option Nat) (n : Nat) (v : AV) (l : List (Nat × Nat × AV)) : List (Nat × Nat × AV) := match d with
  | some d => (d, n, v) :: l
  | none => l
def after (s : Sg) (d : Option Nat) (r : Res) : Sg := ⟨putE d s.nxt r.av s.env, r.chs s.nxt, s.nxt + 1⟩
def Res.pure (s : Sg) (av : AV) : Res := ⟨[], [], s.chs, [], av⟩
structure Good (P : Program) (w0 : World) (s : Sg) (o : Oper) (r : Res) : Prop where
  perm : s.chs.Perm (r.rs ++ r.ns ++ r.rest)
  says : ∀ J θ, Fine P w0 J θ s → ∀ g, g ∈ r.gives → ∀ ver c, SaysH g.2 ver c → ∃ e0, e0 ∈ s.chs ∧ Says e0 g.1 ver c
  op : ∀ J θ, Fine P w0 J θ s → OpT P J w0 o (evL (envL θ s)) ((r.rs ++ r.ns).map (toCh P θ))
    (fun v => r.av.ok P w0 J (upd θ s.nxt v) (s.nxt + 1) (r.chs s.nxt) ∧ r.av.v (upd θ s.nxt v) = v ∧ ∀ g ∈ r.gives, okE P w0 J (upd θ s.nxt v) (s.nxt + 1) (r.chs s.nxt) (g.1, s.nxt, g.2))
    (fun v => r.rs.map (toCh P θ) ++ r.gives.map fun g => toCh P (upd θ s.nxt v) (g.1, s.nxt, g.2))
def plain (l : List (Hdr × Chk)) : Bool := l.all fun g => match g.2 with
  | .hole _ _ _ _ _ _ _ _ _ _ => false
  | _ => true
theorem says_plain {P : Program} {w0 : World} {s : Sg} {l : List (Hdr × Chk)} {chs : List Ent} (h : plain l = true) : ∀ J θ, Fine P w0 J θ s → ∀ g, g ∈ l → ∀ ver c, SaysH g.2 ver c → ∃ e0, e0 ∈ chs ∧ Says e0 g.1 ver c := fun _ _ _ g hg ver c hs => by
  have := (List.all_eq_true.1 h) g hg
  obtain ⟨h', x⟩ := g
  cases x with
  | hole _ _ _ _ _ _ _ _ _ _ => cases this
  | _ => exact hs.elim
theorem OpT.weak {P : Program} {w0 : World} {o : Oper} {I : Hp} {ev : Operand → Value} {rn : List Ch} {fact fact' : Value → Prop} {gv gv' : Value → List Ch} (h : OpT P I w0 o ev rn fact gv) (hf : ∀ v, fact v → fact' v) (hg : ∀ v, fact v → gv v = gv' v) : OpT P I w0 o ev rn fact' gv' :=
  fun w C hs => (h w C hs).imp fun v w hv => ⟨hf v hv.1, by rw [← hg v hv.1]; exact hv.2⟩
section
variable {P : Program} {I : Hp} {w0 w : World} {F : Ch} {n : Nat} {J : Hp} {θ : Th} {s : Sg} {a : Act} {o : Oper} {r : Res} {av : AV}
theorem Res.newer (hp : s.chs.Perm (r.rs ++ r.ns ++ r.rest)) (hs : ∀ g, g ∈ r.gives → ∀ ver c, SaysH g.2 ver c → ∃ e0, e0 ∈ s.chs ∧ Says e0 g.1 ver c) : Newer s.nxt s.chs (r.chs s.nxt) := fun e he h ver c k => by
  rcases List.mem_append.1 he with he | he
  · obtain ⟨g, hg, rfl⟩ := List.mem_map.1 he
    obtain ⟨rfl, k⟩ := k
    rcases k with ⟨k1, k2⟩ | k
    · exact .inl (Nat.le_of_eq k1)
    · exact .inr (hs g hg ver c k)
  · exact .inr ⟨e, hp.mem_iff.2 (by rcases List.mem_append.1 he with h | h <;> simp [h]), k⟩
theorem good_val (hop : ∀ J θ, Fine P w0 J θ s → OpT P J w0 o (evL (envL θ s)) [] (· = av.v θ) (fun _ => [])) (hok : ∀ J θ, Fine P w0 J θ s → av.ok P w0 J θ s.nxt s.chs) : Good P w0 s o (Res.pure s av) :=
  ⟨List.Perm.refl _, fun _ _ _ g hg => (by cases hg), fun J θ hf => OpT.weak (hop J θ hf) (fun v hv => by
    subst hv
    exact ⟨AV.ok_same Same.upd (Nat.le_succ _) Newer.rfl (hok J θ hf) Hp.le.rfl, AV.v_same Same.upd (hok J θ hf), fun g hg => by cases hg⟩) (fun v hv => rfl)⟩
theorem envL_put {θ' : Th} {d : Option Nat} {v : Value} (h : envL θ' s = envL θ s) (hv : av.v θ' = v) {chs : List Ent} {m : Nat} : envL θ' ⟨putE d s.nxt av s.env, chs, m⟩ = putL d v (envL θ s) := by
  cases d with
  | none => exact h
  | some d => show (d, av.v θ') :: envL θ' s = _; rw [h, hv]; rfl
theorem mem_putE {e : Nat × Nat × AV} {k : Nat} : ∀ {d : Option Nat} {l : List (Nat × Nat × AV)}, e ∈ putE d k av l → (e.2.2 = av ∧ e.2.1 = k) ∨ e ∈ l := by
  intro d l hd
  cases d with
  | none => exact .inr hd
  | some d =>
    rcases List.mem_cons.1 hd with rfl | h
    · exact .inl ⟨rfl, rfl⟩
    · exact .inr h
theorem nd_put {d : Option Nat} {k : Nat} {l : List (Nat × Nat × AV)} (h : l.Pairwise fun a b => a.2.1 ≠ b.2.1) (hv : ∀ e ∈ l, e.2.1 < k) : (putE d k av l).Pairwise fun a b => a.2.1 ≠ b.2.1 := by
  cases d with
  | none => exact h
  | some d => exact List.pairwise_cons.2 ⟨fun e he h' => by have := hv e he; rw [← h'] at this; exact Nat.lt_irrefl _ this, h⟩
theorem sim_op {ops : Array Oper} {rest : List Oper} {Q : Exit → Act → World → Prop} (hG : Good P w0 s o r) (hS : Sim P I w0 F n J θ s a w) (hg : o.guard = none) (hk : okO n s o = true)
    (k : ∀ θ' a w, Same s.nxt θ θ' → Sim P I w0 F n J θ' (after s o.dst r) a w → wpList P ops Q rest a w) : wpList P ops Q (o :: rest) a w := by
  have hp : (s.chs.map (toCh P θ) ++ [F]).Perm ((r.rs ++ r.ns).map (toCh P θ) ++ (r.rest.map (toCh P θ) ++ [F])) := by
    have := (hG.perm.map (toCh P θ)).append_right [F]
    rwa [List.map_append, List.append_assoc] at this
  have hallc : ∀ e, e ∈ r.rs ∨ e ∈ r.rest → okE P w0 J θ s.nxt s.chs e := fun e he => hS.fine.chs e (hG.perm.mem_iff.2 (by rcases he with h | h <;> simp [h]))
  have hnew := Res.newer hG.perm (hG.says J θ hS.fine)
  refine seq_op hS.agr hS.st hg (hG.op J θ hS.fine) hp (okO_ok hk) fun v a w hv A S => k (upd θ s.nxt v) a w Same.upd ⟨hS.le, ?_, ?_, ?_, ?_, nd_put hS.fine.nd hS.fine.ver, ?_⟩
  · rw [show envL (upd θ s.nxt v) (after s o.dst r) = putL o.dst v (envL θ s) from envL_put (envL_same Same.upd hS.fine.env) hv.2.1]; exact A
  · have e : (after s o.dst r).chs.map (toCh P (upd θ s.nxt v)) = (r.gives.map fun g => toCh P (upd θ s.nxt v) (g.1, s.nxt, g.2)) ++ (r.rs.map (toCh P θ) ++ r.rest.map (toCh P θ)) := by
      show (Res.chs r s.nxt).map _ = _
      unfold Res.chs
      rw [List.map_append, List.map_append, List.map_map, map_toCh_same Same.upd fun e he => hallc e (.inl he), map_toCh_same Same.upd fun e he => hallc e (.inr he)]
      rfl
    rw [e]
    refine S.perm ?_
    rw [List.append_assoc, List.append_assoc, List.append_assoc]
    exact List.perm_append_comm_assoc _ _ _
  · intro e he
    rcases mem_putE he with h | h
    · rw [h.1]; exact hv.1
    · exact AV.ok_same Same.upd (Nat.le_succ _) hnew (hS.fine.env e h) Hp.le.rfl
  · intro e he
    rcases mem_putE he with h | h
    · rw [h.2]; exact Nat.lt_succ_self _
    · exact Nat.lt_succ_of_lt (hS.fine.ver e h)
  · intro e he
    have he : e ∈ Res.chs r s.nxt := he
    unfold Res.chs at he
    rcases List.mem_append.1 he with he | he
    · obtain ⟨g, hg', rfl⟩ := List.mem_map.1 he
      exact hv.2.2 g hg'
    · exact okE_same Same.upd (Nat.le_succ _) hnew (hallc e (by rcases List.mem_append.1 he with h | h <;> simp [h])) Hp.le.rfl
/-- the same with a guard that lets it pass -/
theorem sim_opg {ops : Array Oper} {rest : List Oper} {Q : Exit → Act → World → Prop} {g d : Nat} {want b : Bool} (hG : Good P w0 s o r) (hS : Sim P I w0 F n J θ s a w) (hg : o.guard = some (g, want)) (hd : ((ops[g]?).bind (·.dst)) = some d) (hv : (envL θ s).lookup d = some (.bool b)) (hb : b = want) (hk : okO n s o = true)
    (k : ∀ θ' a w, Same s.nxt θ θ' → Sim P I w0 F n J θ' (after s o.dst r) a w → wpList P ops Q rest a w) : wpList P ops Q (o :: rest) a w := by
  have hp : (s.chs.map (toCh P θ) ++ [F]).Perm ((r.rs ++ r.ns).map (toCh P θ) ++ (r.rest.map (toCh P θ) ++ [F])) := by
    have := (hG.perm.map (toCh P θ)).append_right [F]
    rwa [List.map_append, List.append_assoc] at this
  have hallc : ∀ e, e ∈ r.rs ∨ e ∈ r.rest → okE P w0 J θ s.nxt s.chs e := fun e he => hS.fine.chs e (hG.perm.mem_iff.2 (by rcases he with h | h <;> simp [h]))
  have hnew := Res.newer hG.perm (hG.says J θ hS.fine)
  refine seq_op_g hS.agr hS.st hg hd hv hb (hG.op J θ hS.fine) hp (okO_ok hk) fun v a w hv A S => k (upd θ s.nxt v) a w Same.upd ⟨hS.le, ?_, ?_, ?_, ?_, nd_put hS.fine.nd hS.fine.ver, ?_⟩
  · rw [show envL (upd θ s.nxt v) (after s o.dst r) = putL o.dst v (envL θ s) from envL_put (envL_same Same.upd hS.fine.env) hv.2.1]; exact A
  · have e : (after s o.dst r).chs.map (toCh P (upd θ s.nxt v)) = (r.gives.map fun g => toCh P (upd θ s.nxt v) (g.1, s.nxt, g.2)) ++ (r.rs.map (toCh P θ) ++ r.rest.map (toCh P θ)) := by
      show (Res.chs r s.nxt).map _ = _
      unfold Res.chs
      rw [List.map_append, List.map_append, List.map_map, map_toCh_same Same.upd fun e he => hallc e (.inl he), map_toCh_same Same.upd fun e he => hallc e (.inr he)]
      rfl
    rw [e]
    refine S.perm ?_
    rw [List.append_assoc, List.append_assoc, List.append_assoc]
    exact List.perm_append_comm_assoc _ _ _
  · intro e he
    rcases mem_putE he with h | h
    · rw [h.1]; exact hv.1
    · exact AV.ok_same Same.upd (Nat.le_succ _) hnew (hS.fine.env e h) Hp.le.rfl
  · intro e he
    rcases mem_putE he with h | h
    · rw [h.2]; exact Nat.lt_succ_self _
    · exact Nat.lt_succ_of_lt (hS.fine.ver e h)
  · intro e he
    have he : e ∈ Res.chs r s.nxt := he
    unfold Res.chs at he
    rcases List.mem_append.1 he with he | he
    · obtain ⟨g, hg', rfl⟩ := List.mem_map.1 he
      exact hv.2.2 g hg'
    · exact okE_same Same.upd (Nat.le_succ _) hnew (hallc e (by rcases List.mem_append.1 he with h | h <;> simp [h])) Hp.le.rfl
/-- an operation that is passed over -/
def skip (s : Sg) (d : Option Nat) : Sg := ⟨putE d s.nxt .und s.env, s.chs, s.nxt + 1⟩
theorem sim_put {v : AV} {d : Option Nat} (hS : Sim P I w0 F n J θ s a w) {a' : Act} (hA : Agr n a' (putL d (v.v θ) (envL θ s))) (hv : v.ok P w0 J θ s.nxt s.chs) : Sim P I w0 F n J θ ⟨putE d s.nxt v s.env, s.chs, s.nxt + 1⟩ a' w :=
  ⟨hS.le, by rw [envL_put rfl rfl]; exact hA, hS.st, fun e he => by
    rcases mem_putE he with h | h
    · rw [h.1]; exact AV.ok_same Same.rfl (Nat.le_succ _) Newer.rfl hv Hp.le.rfl
    · exact AV.ok_same Same.rfl (Nat.le_succ _) Newer.rfl (hS.fine.env e h) Hp.le.rfl, fun e he => by
    rcases mem_putE he with h | h
    · rw [h.2]; exact Nat.lt_succ_self _
    · exact Nat.lt_succ_of_lt (hS.fine.ver e h), nd_put hS.fine.nd hS.fine.ver, fun e he => okE_same Same.rfl (Nat.le_succ _) Newer.rfl (hS.fine.chs e he) Hp.le.rfl⟩
theorem sim_skip {ops : Array Oper} {rest : List Oper} {Q : Exit → Act → World → Prop} {g d : Nat} {want b : Bool} (hS : Sim P I w0 F n J θ s a w) (hg : o.guard = some (g, want)) (hd : ((ops[g]?).bind (·.dst)) = some d) (hv : (envL θ s).lookup d = some (.bool b)) (hb : b = !want) (hn : dstOk n o.dst = true)
    (k : ∀ a, Sim P I w0 F n J θ (skip s o.dst) a w → wpList P ops Q rest a w) : wpList P ops Q (o :: rest) a w :=
  seq_skip hS.agr hS.st hg hd hv hb hn fun a A => k a (sim_put hS A trivial)
theorem sim_skip_u {ops : Array Oper} {rest : List Oper} {Q : Exit → Act → World → Prop} {g d : Nat} {want : Bool} (hS : Sim P I w0 F n J θ s a w) (hg : o.guard = some (g, want)) (hd : ((ops[g]?).bind (·.dst)) = some d) (hv : (envL θ s).lookup d = some undef) (hn : dstOk n o.dst = true)
    (k : ∀ a, Sim P I w0 F n J θ (skip s o.dst) a w → wpList P ops Q rest a w) : wpList P ops Q (o :: rest) a w :=
  seq_skip_u hS.agr hS.st hg hd hv hn fun a A => k a (sim_put hS A trivial)
end

/-! ### Types of the program -/
structure TD where
  agg : Bool
  n : Nat
  el : Option TypeId
  ty : Ty
  fields : List (Nat × Nat)
  bytes : Option Nat
  place : Option (List (Nat × Nat))
  boo : Bool
  eq : Option (List (Option IntKind))
/-- two values that are compared part by part -/
def Curq : List (Option IntKind) → (List Value → List Value → Bool → Prop) → Prop
  | [], p => p [] [] true
  | none :: ks, p => ∀ a b : Bool, Curq ks fun xs ys r => p (.bool a :: xs) (.bool b :: ys) ((a == b) && r)
  | some k :: ks, p => ∀ a b : Int, Curq ks fun xs ys r => p (.int k a :: xs) (.int k b :: ys) ((a == b) && r)
def lvB : LV → Option Bool
  | .val (.bool b) => some b
  | .nb b => some (!b)
  | _ => none
def lvI (k : IntKind) : LV → Option Int
  | .val (.int j m) => if j = k then some m else none
  | _ => none
theorem lvB_v {θ : Th} {x : LV} {b : Bool} (h : lvB x = some b) : x.v θ = .bool b := by
  unfold lvB at h
  split at h <;> first | (cases h; rfl) | cases h
theorem lvI_v {θ : Th} {k : IntKind} {x : LV} {m : Int} (h : lvI k x = some m) : x.v θ = .int k m := by
  unfold lvI at h
  split at h
  · split at h
    · rename_i e; subst e; cases h; rfl
    · cases h
  · cases h
def eqV1 : Option IntKind → LV → LV → Option Bool
  | none, x, y => (lvB x).bind fun a => (lvB y).bind fun b => some (a == b)
  | some k, x, y => (lvI k x).bind fun a => (lvI k y).bind fun b => some (a == b)
def eqVs : List (Option IntKind) → List LV → List LV → Option Bool
  | [], [], [] => some true
  | k :: ks, x :: xs, y :: ys => (eqV1 k x y).bind fun q => (eqVs ks xs ys).bind fun r => some (q && r)
  | _, _, _ => none
theorem eqVs_ok {θ : Th} : ∀ {ks : List (Option IntKind)} {p : List Value → List Value → Bool → Prop} {xs ys : List LV} {r : Bool}, Curq ks p → eqVs ks xs ys = some r → p (xs.map (·.v θ)) (ys.map (·.v θ)) r := by
  intro ks
  induction ks with
  | nil =>
    intro p xs ys r hp h
    match xs, ys, h with
    | [], [], h => cases h; exact hp
  | cons k ks ih =>
    intro p xs ys r hp h
    match xs, ys, h with
    | x :: xs, y :: ys, h =>
      obtain ⟨q, hq, h⟩ := Option.bind_eq_some_iff.1 h
      obtain ⟨r', hr, h⟩ := Option.bind_eq_some_iff.1 h
      cases h
      cases k with
      | none =>
        obtain ⟨a, ha, hq⟩ := Option.bind_eq_some_iff.1 hq
        obtain ⟨b, hb, hq⟩ := Option.bind_eq_some_iff.1 hq
        cases hq
        have := ih (hp a b) hr
        rwa [← lvB_v (θ := θ) ha, ← lvB_v (θ := θ) hb] at this
      | some k =>
        obtain ⟨a, ha, hq⟩ := Option.bind_eq_some_iff.1 hq
        obtain ⟨b, hb, hq⟩ := Option.bind_eq_some_iff.1 hq
        cases hq
        have := ih (hp a b) hr
        rwa [← lvI_v (θ := θ) ha, ← lvI_v (θ := θ) hb] at this
/-- the cells of a zero value -/
def zeroCells : Ty → List Value
  | .int k => [.int k 0]
  | .bool => [.bool false]
  | .str => [.string ⟨#[]⟩]
  | .prod a b => zeroCells a ++ zeroCells b
  | .sl _ _ => [.slice none 0 0]
  | .fro t => zeroCells t
  | .wr t => zeroCells t
def zeroD : (t : Ty) → t.den
  | .int _ => (0 : Int)
  | .bool => false
  | .str => (⟨#[]⟩ : ByteArray)
  | .prod a b => (zeroD a, zeroD b)
  | .sl _ t => ([] : List t.den)
  | .fro t => zeroD t
  | .wr t => zeroD t
theorem zero_rd : ∀ (t : Ty) (I : Hp), t.rep.rd I (zeroCells t) (zeroD t)
  | .int k, I => rfl
  | .bool, I => rfl
  | .str, I => rfl
  | .prod a b, I => ⟨_, _, rfl, zero_rd a I, zero_rd b I⟩
  | .sl _ _, I => rd_nil
  | .fro t, I => zero_rd t I
  | .wr t, I => zero_rd t I
theorem zero_zro : ∀ (t : Ty), Zro t.rep (zeroCells t) (zeroD t)
  | .int k => zro_flat
  | .bool => (zro_flat (h1 := fun _ => rfl))
  | .str => (zro_flat (h1 := fun _ => rfl))
  | .prod a b => zro_prod (zero_zro a) (zero_zro b)
  | .sl _ _ => zro_nil
  | .fro t => zro_fro (zero_rd t)
  | .wr t => zero_zro t
theorem zero_one : ∀ (t : Ty), ∀ v ∈ zeroCells t, v.oneCell' = true := fun t v hv => Rep.rd_one _ (zero_rd t fun _ => none) v hv
theorem zero_erase : ∀ t : Ty, zeroCells t.erase = zeroCells t
  | .int _ => rfl
  | .bool => rfl
  | .str => rfl
  | .prod a b => by show zeroCells a.erase ++ zeroCells b.erase = _; rw [zero_erase a, zero_erase b]; rfl
  | .sl _ _ => rfl
  | .fro t => zero_erase t
  | .wr t => zero_erase t
theorem zero_len (t : Ty) : (zeroCells t).length = t.size := (Rep.rd_len _ (zero_rd t fun _ => none)).trans t.rep_size
abbrev TT := List (TypeId × TD)
def td (tt : TT) (T : Nat) : Option TD := match tt with
  | [] => none
  | (U, d) :: l => if Nat.beq U T then some d else td l T
structure TDok (P : Program) (T : TypeId) (d : TD) : Prop where
  ti : TI P T d.agg d.n
  one : (d.agg || d.n == 1) = true
  sz : d.ty.size = d.n
  el : ∀ E, d.el = some E → P.underlying T = some (.slice E)
  fld : ∀ f q, d.fields[f]? = some q → TF P T f q.1 q.2
  zero : ∀ b, d.bytes = some b → ∃ z, TZ P T z d.n b ∧ z.cells = (zeroCells d.ty).toArray ∧ 1 ≤ b
  place : ∀ pl, d.place = some pl → TB P T pl
  boo : d.boo = true → P.underlying T = some .bool
  eq : ∀ ks, d.eq = some ks → ∀ w, Curq ks fun xs ys r => EqT P T (.agg xs.toArray) (.agg ys.toArray) r w
def TTok (P : Program) : TT → Prop
  | [] => True
  | (T, d) :: l => TDok P T d ∧ TTok P l
theorem TTok.get {P : Program} {T : Nat} {d : TD} : ∀ {tt : TT}, TTok P tt → td tt T = some d → TDok P T d
  | (U, x) :: l, ⟨h1, h2⟩, h => by
    unfold td at h
    split at h
    · rename_i hu
      have : U = T := Nat.eq_of_beq_eq_true hu
      subst this
      rw [← Option.some.inj h]; exact h1
    · exact TTok.get h2 h

/-! ### Data out of cells -/
def cellsRd (id : Nat) : (t : Ty) → t.den → Nat → List LV
  | .int k, d, _ => [.val (.int k d)]
  | .bool, d, _ => [.val (.bool d)]
  | .str, d, _ => [.val (.string d)]
  | .prod a b, d, j => cellsRd id a d.1 j ++ cellsRd id b d.2 (j + a.size)
  | .sl E t, d, j => [.rd ⟨id, [j]⟩ (.sl E t) d]
  | .fro t, d, j => cellsRd id t d j
  | .wr t, d, j => cellsRd id t d j
def avRd (id : Nat) : (t : Ty) → t.den → AV
  | .prod a b, d => .agg (cellsRd id (.prod a b) d 0)
  | .int k, d => .one (.val (.int k d))
  | .bool, d => .one (.val (.bool d))
  | .str, d => .one (.val (.string d))
  | .sl E t, d => .one (.rd ⟨id, []⟩ (.sl E t) d)
  | .fro t, d => avRd id t d
  | .wr t, d => .agg (cellsRd id t d 0)
theorem cellsRd_fine {P : Program} {w0 : World} {J : Hp} {θ : Th} {id n : Nat} (hid : id < n) {all : List Value} (hu : θ id = .agg all.toArray) : ∀ (t : Ty) (d : t.den) (j : Nat) (cs : List Value), t.rep.rd J cs d → (∀ i v, cs[i]? = some v → all[j + i]? = some v) →
    (∀ x ∈ cellsRd id t d j, x.ok P w0 J θ n) ∧ (cellsRd id t d j).map (·.v θ) = cs
  | .int k, d, j, cs, h, _ => ⟨fun x hx => by obtain rfl := List.mem_singleton.1 hx; exact Eq.refl true, h.symm⟩
  | .bool, d, j, cs, h, _ => ⟨fun x hx => by obtain rfl := List.mem_singleton.1 hx; exact Eq.refl true, h.symm⟩
  | .str, d, j, cs, h, _ => ⟨fun x hx => by obtain rfl := List.mem_singleton.1 hx; exact Eq.refl true, h.symm⟩
  | .prod a b, d, j, cs, h, hc => by
    obtain ⟨c1, c2, rfl, h1, h2⟩ := h
    have hl : c1.length = a.size := (Rep.rd_len _ h1).trans a.rep_size
    obtain ⟨e1, e2⟩ := cellsRd_fine hid hu a d.1 j c1 h1 fun i v hv => hc i v (by rw [List.getElem?_append_left (List.getElem?_eq_some_iff.1 hv).1]; exact hv)
    obtain ⟨e3, e4⟩ := cellsRd_fine hid hu b d.2 (j + a.size) c2 h2 fun i v hv => by
      have := hc (a.size + i) v (by rw [List.getElem?_append_right (by omega), hl, Nat.add_sub_cancel_left]; exact hv)
      rwa [show j + a.size + i = j + (a.size + i) from by omega]
    refine ⟨fun x hx => ?_, ?_⟩
    · rcases List.mem_append.1 hx with hx | hx
      · exact e1 x hx
      · exact e3 x hx
    · show (cellsRd id a d.1 j ++ cellsRd id b d.2 (j + a.size)).map _ = _
      rw [List.map_append, e2, e4]
  | .sl E t, d, j, cs, h, hc => by
    obtain ⟨u, rfl⟩ := List.length_eq_one_iff.1 (Rep.rd_len _ h)
    have hh : hv θ ⟨id, [j]⟩ = u := by
      show vg (θ id) [j] = u
      rw [hu]
      show (all.toArray.getD j undef) = u
      have := hc 0 u rfl
      rw [Nat.add_zero] at this
      simp [Array.getD_eq_getD_getElem?, this]
    refine ⟨fun x hx => ?_, ?_⟩
    · obtain rfl := List.mem_singleton.1 hx
      exact ⟨hid, by rw [hh]; exact h⟩
    · show [hv θ ⟨id, [j]⟩] = [u]
      rw [hh]
  | .fro t, d, j, cs, h, hc => cellsRd_fine hid hu t d j cs h hc
  | .wr t, d, j, cs, h, hc => cellsRd_fine hid hu t d j cs h hc
theorem avRd_fine {P : Program} {w0 : World} {J : Hp} {θ : Th} {id n : Nat} {chs : List Ent} (hid : id < n) {u : Value} (hu : θ id = u) : ∀ (t : Ty) (d : t.den) (cs : List Value), t.rep.rd J cs d → Lds t.isProd cs u → (avRd id t d).ok P w0 J θ n chs ∧ (avRd id t d).v θ = u
  | .int k, d, cs, h, hl => ⟨Eq.refl true, by
    have h : cs = [Value.int k d] := h
    have hl : cs = [u] := hl
    rw [h] at hl; exact (List.cons.inj hl).1⟩
  | .bool, d, cs, h, hl => ⟨Eq.refl true, by
    have h : cs = [Value.bool d] := h
    have hl : cs = [u] := hl
    rw [h] at hl; exact (List.cons.inj hl).1⟩
  | .str, d, cs, h, hl => ⟨Eq.refl true, by
    have h : cs = [Value.string d] := h
    have hl : cs = [u] := hl
    rw [h] at hl; exact (List.cons.inj hl).1⟩
  | .prod a b, d, cs, h, hl => by
    have hl : u = .agg cs.toArray := hl
    obtain ⟨e1, e2⟩ := cellsRd_fine (J := J) hid (hu.trans hl) (.prod a b) d 0 cs h (fun i v hv => by rwa [Nat.zero_add])
    exact ⟨e1, by show Value.agg _ = _; rw [e2, hl]⟩
  | .sl E t, d, cs, h, hl => by
    have hl : cs = [u] := hl
    subst hl
    have hh : hv θ ⟨id, []⟩ = u := hu
    exact ⟨⟨hid, by rw [hh]; exact h⟩, hh⟩
  | .fro t, d, cs, h, hl => avRd_fine hid hu t d cs h hl
  | .wr t, d, cs, h, hl => by
    have hl : u = .agg cs.toArray := hl
    obtain ⟨e1, e2⟩ := cellsRd_fine (J := J) hid (hu.trans hl) t d 0 cs h (fun i v hv => by rwa [Nat.zero_add])
    exact ⟨e1, by show Value.agg _ = _; rw [e2, hl]⟩
/-- a part of a type, by its place and size: how to read it, how to set it -/
structure Part (t : Ty) where
  ty : Ty
  get : t.den → ty.den
  set : t.den → ty.den → t.den
def fldAt (g : Bool) : (t : Ty) → Nat → Nat → Option (Part t)
  | t, off, n => if Nat.beq off 0 && (Nat.beq t.size n && (t.isProd == g)) then some ⟨t, fun x => x, fun _ y => y⟩ else match t with
    | .prod a b => if Nat.blt off a.size then (fldAt g a off n).bind fun r => some ⟨r.ty, fun x => r.get x.1, fun x y => (r.set x.1 y, x.2)⟩ else (fldAt g b (off - a.size) n).bind fun r => some ⟨r.ty, fun x => r.get x.2, fun x y => (x.1, r.set x.2 y)⟩
    | .fro a => (fldAt g a off n).bind fun r => some ⟨.fro r.ty, r.get, r.set⟩
    | .wr a => (fldAt g a off n).bind fun r => some ⟨r.ty, r.get, r.set⟩
    | _ => none
/-- owned data, and a part of it: taken out and put back -/
def Lens {α β : Type} (R : Rep α) (off : Nat) (S : Rep β) (f : α → β) (u : α → β → α) : Prop := ∀ I w c x G, R.own I w c x G → ∃ d G1 K, G.Perm (G1 ++ K) ∧ (c.drop off).take S.size = d ∧ S.own I w d (f x) G1 ∧
  ∀ J w' d' y G', I.le J → (∀ b, b ∈ K → w'.heap[b]? = w.heap[b]?) → S.own J w' d' y G' → ∃ F, F.Perm (G' ++ K) ∧ R.own J w' (spl c off d') (u x y) F
theorem Lens.self {α : Type} {R : Rep α} : Lens R 0 R (fun x => x) (fun _ y => y) := fun I w c x G h =>
  ⟨c, G, [], by simp, by rw [← R.own_len h]; simp, h, fun J w' d' y G' hJ hK h' => ⟨G', by simp, by rw [spl_eq _ _ _ (by rw [R.own_len h, R.own_len h']; omega), R.own_len h', ← R.own_len h]; simpa using h'⟩⟩
theorem Lens.fst {α β γ : Type} {A : Rep α} {B : Rep β} {S : Rep γ} {off : Nat} {f : α → γ} {u : α → γ → α} (hs : off + S.size ≤ A.size) (h : Lens A off S f u) : Lens (rProd A B) off S (fun x => f x.1) (fun x y => (u x.1 y, x.2)) := by
  rintro I w c x G ⟨c1, c2, Ga, Gb, rfl, rfl, h1, h2⟩
  obtain ⟨d, G1, K, p, e1, e2, e3⟩ := h I w c1 x.1 Ga h1
  refine ⟨d, G1, K ++ Gb, by rw [← List.append_assoc]; exact p.append_right _, ?_, e2, fun J w' d' y G' hJ hK h' => ?_⟩
  · have hl := A.own_len h1
    rw [List.drop_append_of_le_length (by omega), List.take_append_of_le_length (by rw [List.length_drop]; omega)]
    exact e1
  · obtain ⟨F, q, k⟩ := e3 J w' d' y G' hJ (fun b hb => hK b (List.mem_append_left _ hb)) h'
    refine ⟨F ++ Gb, by rw [← List.append_assoc]; exact q.append_right _, spl c1 off d', c2, F, Gb, ?_, rfl, k, B.own_stay (B.own_mono h2 hJ) fun b hb => hK b (List.mem_append_right _ hb)⟩
    rw [spl_left _ _ _ _ (by rw [A.own_len h1, S.own_len h']; exact hs)]
theorem Lens.snd {α β γ : Type} {A : Rep α} {B : Rep β} {S : Rep γ} {off : Nat} {f : β → γ} {u : β → γ → β} (h : Lens B off S f u) : Lens (rProd A B) (A.size + off) S (fun x => f x.2) (fun x y => (x.1, u x.2 y)) := by
  rintro I w c x G ⟨c1, c2, Ga, Gb, rfl, rfl, h1, h2⟩
  obtain ⟨d, G1, K, p, e1, e2, e3⟩ := h I w c2 x.2 Gb h2
  have hl := A.own_len h1
  refine ⟨d, G1, Ga ++ K, (p.append_left Ga).trans (List.perm_append_comm_assoc _ _ _), ?_, e2, fun J w' d' y G' hJ hK h' => ?_⟩
  · rw [← hl, List.drop_append, List.drop_of_length_le (by omega), Nat.add_sub_cancel_left, List.nil_append]; exact e1
  · obtain ⟨F, q, k⟩ := e3 J w' d' y G' hJ (fun b hb => hK b (List.mem_append_right _ hb)) h'
    refine ⟨Ga ++ F, (q.append_left Ga).trans (List.perm_append_comm_assoc _ _ _), c1, spl c2 off d', Ga, F, ?_, rfl, A.own_stay (A.own_mono h1 hJ) fun b hb => hK b (List.mem_append_left _ hb), k⟩
    rw [← hl, spl_right]
theorem Lens.fro {α β : Type} {R : Rep α} {S : Rep β} {off : Nat} {f : α → β} {u : α → β → α} (h : Fld R off S f) (k : Upd R off S u) : Lens (rFro R) off (rFro S) f u := by
  rintro I w c x G ⟨rfl, h1⟩
  obtain ⟨d, e1, e2⟩ := h I c x h1
  refine ⟨d, [], [], by simp, e1, ⟨rfl, e2⟩, fun J w' d' y G' hJ hK h' => ⟨[], by rw [h'.1]; simp, rfl, k J c x d' y (R.rd_mono h1 hJ) h'.2⟩⟩
structure PartOk {t : Ty} (off n : Nat) (r : Part t) : Prop where
  fld : Fld t.rep off r.ty.rep r.get
  upd : Upd t.rep off r.ty.rep r.set
  updO : UpdO t.rep off r.ty.rep r.set
  lens : Lens t.rep off r.ty.rep r.get r.set
  eta : ∀ x, r.set x (r.get x) = x
  size : r.ty.size = n
  fit : off + n ≤ t.size
theorem fldAt_ok {g : Bool} : ∀ (t : Ty) (off n : Nat) (r : Part t), fldAt g t off n = some r → PartOk off n r := by
  intro t
  induction t with
  | prod a b iha ihb =>
    intro off n r h
    unfold fldAt at h
    split at h
    · rename_i hc
      rw [Bool.and_eq_true, Bool.and_eq_true] at hc
      have h1 := Nat.eq_of_beq_eq_true hc.1
      have h2 := Nat.eq_of_beq_eq_true hc.2.1
      subst h1
      obtain rfl := Option.some.inj h
      exact ⟨Fld.self, Upd.self, UpdO.self, Lens.self, fun _ => rfl, h2, by rw [← h2]; exact Nat.le_of_eq (Nat.zero_add _)⟩
    · simp only at h
      split at h
      · obtain ⟨q, e, h⟩ := bind_some h
        obtain rfl := Option.some.inj h
        have k := iha off n q e
        have hfit : off + q.ty.rep.size ≤ a.rep.size := by rw [q.ty.rep_size, a.rep_size, k.size]; exact k.fit
        exact ⟨Fld.fst k.fld, Upd.fst hfit k.upd, UpdO.fst hfit k.updO, Lens.fst hfit k.lens, fun x => congrArg (fun z => (z, x.2)) (k.eta x.1), k.size, by have := k.fit; show off + n ≤ a.size + b.size; omega⟩
      · rename_i hlt
        obtain ⟨q, e, h⟩ := bind_some h
        obtain rfl := Option.some.inj h
        have k := ihb (off - a.size) n q e
        have hge : a.size ≤ off := by
          rw [Nat.blt_eq] at hlt; omega
        have e1 : a.rep.size + (off - a.size) = off := by rw [a.rep_size]; omega
        refine ⟨?_, ?_, ?_, ?_, fun x => congrArg (fun z => (x.1, z)) (k.eta x.2), k.size, by have := k.fit; show off + n ≤ a.size + b.size; omega⟩
        · have := Fld.snd (A := a.rep) k.fld
          rwa [e1] at this
        · have := Upd.snd (A := a.rep) k.upd
          rwa [e1] at this
        · have := UpdO.snd (A := a.rep) k.updO
          rwa [e1] at this
        · have := Lens.snd (A := a.rep) k.lens
          rwa [e1] at this
  | fro a ih =>
    intro off n r h
    unfold fldAt at h
    split at h
    · rename_i hc
      rw [Bool.and_eq_true, Bool.and_eq_true] at hc
      have h1 := Nat.eq_of_beq_eq_true hc.1
      have h2 := Nat.eq_of_beq_eq_true hc.2.1
      subst h1
      obtain rfl := Option.some.inj h
      exact ⟨Fld.self, Upd.self, UpdO.self, Lens.self, fun _ => rfl, h2, by rw [← h2]; exact Nat.le_of_eq (Nat.zero_add _)⟩
    · simp only at h
      obtain ⟨q, e, h⟩ := bind_some h
      obtain rfl := Option.some.inj h
      have k := ih off n q e
      exact ⟨k.fld, k.upd, fun I w c x G d y K h1 h2 => ⟨[], [], ⟨rfl, k.upd I c x d y h1.2 h2.2⟩, by rw [h1.1, h2.1]⟩, Lens.fro k.fld k.upd, k.eta, k.size, k.fit⟩
  | wr a ih =>
    intro off n r h
    unfold fldAt at h
    split at h
    · rename_i hc
      rw [Bool.and_eq_true, Bool.and_eq_true] at hc
      have h1 := Nat.eq_of_beq_eq_true hc.1
      have h2 := Nat.eq_of_beq_eq_true hc.2.1
      subst h1
      obtain rfl := Option.some.inj h
      exact ⟨Fld.self, Upd.self, UpdO.self, Lens.self, fun _ => rfl, h2, by rw [← h2]; exact Nat.le_of_eq (Nat.zero_add _)⟩
    · simp only at h
      obtain ⟨q, e, h⟩ := bind_some h
      obtain rfl := Option.some.inj h
      have k := ih off n q e
      exact ⟨k.fld, k.upd, k.updO, k.lens, k.eta, k.size, k.fit⟩
  | _ =>
    intro off n r h
    unfold fldAt at h
    split at h
    · rename_i hc
      rw [Bool.and_eq_true, Bool.and_eq_true] at hc
      have h1 := Nat.eq_of_beq_eq_true hc.1
      have h2 := Nat.eq_of_beq_eq_true hc.2.1
      subst h1
      obtain rfl := Option.some.inj h
      exact ⟨Fld.self, Upd.self, UpdO.self, Lens.self, fun _ => rfl, h2, by rw [← h2]; exact Nat.le_of_eq (Nat.zero_add _)⟩
    · cases h
end Go.Proofs.Ytfkocnnphjkmfaa.R
