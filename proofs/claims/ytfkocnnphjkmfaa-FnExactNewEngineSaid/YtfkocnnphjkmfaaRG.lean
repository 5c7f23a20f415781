/- Rows and structs that are made: literals, make, append, build. No program text is named here. -/
import Derived.Test.YtfkocnnphjkmfaaRF
set_option linter.unusedVariables false
set_option linter.unusedSimpArgs false
set_option linter.unnecessarySimpa false
set_option linter.unusedSectionVars false
namespace Go.Proofs.Ytfkocnnphjkmfaa.R
open Go.RowKit
open Go.Proofs.Ytfkocnnphjkmfaa.D

/-! ### Structs -/
def fillV (pl : List (Nat × Nat)) (cells : List LV) : List (Nat × List LV) → Option (List LV)
  | [] => some cells
  | (i, l) :: rest => (pl[i]?).bind fun q => chkT (Nat.beq l.length q.2 && Nat.ble (q.1 + q.2) cells.length) (fillV pl (cells.take q.1 ++ l ++ cells.drop (q.1 + q.2)) rest)
theorem fillV_ok {pl : List (Nat × Nat)} {θ : Th} : ∀ {ps : List (Nat × List LV)} {cells r : List LV}, fillV pl cells ps = some r → fillL (pl[·]?) (cells.map (·.v θ)) (ps.map fun p => (p.1, p.2.map (·.v θ))) = some (r.map (·.v θ))
  | [], cells, r, h => by obtain rfl := Option.some.inj (show some cells = some r from h); rfl
  | (i, l) :: ps, cells, r, h => by
    obtain ⟨q, hq, h⟩ := bind_some (show (pl[i]?).bind _ = some r from h)
    obtain ⟨hc, h⟩ := chkT_ok h
    rw [Bool.and_eq_true] at hc
    have h1 := Nat.eq_of_beq_eq_true hc.1
    have h2 := Nat.le_of_ble_eq_true hc.2
    have := fillV_ok (θ := θ) h
    simp only [List.map_cons, fillL, hq, List.length_map]
    rw [if_pos ⟨h1, h2⟩, ← this, List.map_append, List.map_append, List.map_take, List.map_drop]
theorem fillV_mem {pl : List (Nat × Nat)} {Q : LV → Prop} : ∀ {ps : List (Nat × List LV)} {cells r : List LV}, fillV pl cells ps = some r → (∀ x ∈ cells, Q x) → (∀ p ∈ ps, ∀ x ∈ p.2, Q x) → ∀ x ∈ r, Q x
  | [], cells, r, h, hc, hp => by obtain rfl := Option.some.inj (show some cells = some r from h); exact hc
  | (i, l) :: ps, cells, r, h, hc, hp => by
    obtain ⟨q, hq, h⟩ := bind_some (show (pl[i]?).bind _ = some r from h)
    obtain ⟨-, h⟩ := chkT_ok h
    refine fillV_mem h (fun x hx => ?_) fun p hp' => hp p (by simp [hp'])
    rcases List.mem_append.1 hx with hx | hx
    · rcases List.mem_append.1 hx with hx | hx
      · exact hc x (List.mem_of_mem_take hx)
      · exact hp (i, l) (by simp) x hx
    · exact hc x (List.mem_of_mem_drop hx)
/-- the operands' cells -/
def partsOf (s : Sg) : List (Nat × Operand) → Option (List (Nat × List LV))
  | [] => some []
  | (i, x) :: l => (opd s x).bind fun v => (avCells v).bind fun cs => (partsOf s l).bind fun r => some ((i, cs) :: r)
theorem partsOf_ok {P : Program} {w0 : World} {s : Sg} {J : Hp} {θ : Th} (hf : Fine P w0 J θ s) : ∀ {l : List (Nat × Operand)} {ps : List (Nat × List LV)}, partsOf s l = some ps →
    peq (l.map fun p => (p.1, evL (envL θ s) p.2)) (ps.map fun p => (p.1, p.2.map (·.v θ))) ∧ ∀ p ∈ ps, ∀ x ∈ p.2, x.ok P w0 J θ s.nxt
  | [], ps, h => by obtain rfl := Option.some.inj (show some [] = some ps from h); exact ⟨trivial, fun p hp => by cases hp⟩
  | (i, x) :: l, ps, h => by
    obtain ⟨v, hv', h⟩ := bind_some (show (opd s x).bind _ = some ps from h)
    obtain ⟨cs, hcs, h⟩ := bind_some h
    obtain ⟨r, hr, h⟩ := bind_some h
    obtain rfl := Option.some.inj h
    obtain ⟨h1, h2⟩ := partsOf_ok hf hr
    obtain ⟨c1, c2⟩ := avCells_ok hcs (opd_ok hf hv')
    refine ⟨⟨rfl, by rw [opd_ev (θ := θ) hv']; exact c2, h1⟩, fun p hp => ?_⟩
    rcases List.mem_cons.1 hp with rfl | hp
    · exact c1
    · exact h2 p hp
/-- the elements of a literal: data, what is used up -/
structure Lits (t : Ty) where
  xs : List t.den
  used : List Ent
  rest : List Ent
def litRd (t : Ty) : List (Nat × List LV) → Nat → Option (List t.den)
  | [], _ => some []
  | (i, cs) :: l, j => chkT (Nat.beq i j) ((rdData t cs).bind fun d => chkT d.2.isEmpty ((litRd t l (j + 1)).bind fun r => some (d.1 :: r)))
def litOwn (t : Ty) : List (Nat × List LV) → Nat → List Ent → Option (Lits t)
  | [], _, chs => some ⟨[], [], chs⟩
  | (i, cs) :: l, j, chs => chkT (Nat.beq i j && Nat.beq cs.length t.size) ((takeData t cs chs).bind fun d => chkT d.cells.isEmpty ((litOwn t l (j + 1) d.rest).bind fun r => some ⟨d.d :: r.xs, d.used ++ r.used, r.rest⟩))
section
variable {P : Program} {w0 : World} {J : Hp} {θ : Th} {n : Nat} {t : Ty}
theorem litRd_ok : ∀ {l : List (Nat × List LV)} {j : Nat} {xs : List t.den}, litRd t l j = some xs → (∀ p ∈ l, ∀ x ∈ p.2, x.ok P w0 J θ n) → l.map (·.1) = (List.range' j l.length) ∧ xs.length = l.length ∧ (∀ p ∈ l, p.2.length = t.size) ∧ ∀ p, p ∈ (l.map fun p => p.2.map (·.v θ)).zip xs → t.rep.rd J p.1 p.2
  | [], j, xs, h, hc => by obtain rfl := Option.some.inj (show some [] = some xs from h); exact ⟨rfl, rfl, fun p hp => (by cases hp), fun p hp => (by simp at hp)⟩
  | (i, cs) :: l, j, xs, h, hc => by
    obtain ⟨hi, h⟩ := chkT_ok (show chkT (Nat.beq i j) _ = some xs from h)
    obtain ⟨d, hd, h⟩ := bind_some h
    obtain ⟨he, h⟩ := chkT_ok h
    obtain ⟨r, hr, h⟩ := bind_some h
    obtain rfl := Option.some.inj h
    have hi := Nat.eq_of_beq_eq_true hi
    subst hi
    obtain ⟨c1, e1, e2⟩ := rdData_ok (J := J) hd (hc (i, cs) (by simp))
    rw [List.isEmpty_iff.1 he, List.append_nil] at e1
    subst e1
    obtain ⟨h1, h2, h3, h4⟩ := litRd_ok hr fun p hp => hc p (by simp [hp])
    refine ⟨by rw [List.map_cons, h1]; rfl, by rw [List.length_cons, h2]; rfl, fun p hp => ?_, fun p hp => ?_⟩
    · rcases List.mem_cons.1 hp with rfl | hp
      · have := Rep.rd_len _ e2
        rw [List.length_map, t.rep_size] at this; exact this
      · exact h3 p hp
    · rw [List.map_cons, List.zip_cons_cons] at hp
      rcases List.mem_cons.1 hp with rfl | hp
      · exact e2
      · exact h4 p hp
theorem litOwn_perm : ∀ {l : List (Nat × List LV)} {j : Nat} {chs : List Ent} {r : Lits t}, litOwn t l j chs = some r → chs.Perm (r.used ++ r.rest)
  | [], j, chs, r, h => by obtain rfl := Option.some.inj (show some _ = some r from h); exact List.Perm.refl _
  | (i, cs) :: l, j, chs, r, h => by
    obtain ⟨hi, h⟩ := chkT_ok (show chkT (Nat.beq i j && Nat.beq cs.length t.size) _ = some r from h)
    obtain ⟨d, hd, h⟩ := bind_some h
    obtain ⟨he, h⟩ := chkT_ok h
    obtain ⟨q, hq, h⟩ := bind_some h
    obtain rfl := Option.some.inj h
    rw [List.append_assoc]
    exact (takeData_perm hd).trans ((litOwn_perm hq).append_left _)
theorem litOwn_ok : ∀ {l : List (Nat × List LV)} {j : Nat} {chs : List Ent} {r : Lits t}, litOwn t l j chs = some r → (∀ p ∈ l, ∀ x ∈ p.2, x.ok P w0 J θ n) → l.map (·.1) = (List.range' j l.length) ∧ r.xs.length = l.length ∧ (∀ p ∈ l, p.2.length = t.size) ∧ SepTo J (r.used.map (toCh P θ)) (ownsOf t.rep (l.map fun p => p.2.map (·.v θ)) r.xs)
  | [], j, chs, r, h, hc => by obtain rfl := Option.some.inj (show some _ = some r from h); exact ⟨rfl, rfl, fun p hp => (by cases hp), sepTo_nil⟩
  | (i, cs) :: l, j, chs, r, h, hc => by
    obtain ⟨hi, h⟩ := chkT_ok (show chkT (Nat.beq i j && Nat.beq cs.length t.size) _ = some r from h)
    obtain ⟨d, hd, h⟩ := bind_some h
    obtain ⟨he, h⟩ := chkT_ok h
    obtain ⟨q, hq, h⟩ := bind_some h
    obtain rfl := Option.some.inj h
    rw [Bool.and_eq_true] at hi
    have hcl := Nat.eq_of_beq_eq_true hi.2
    have hi := Nat.eq_of_beq_eq_true hi.1
    subst hi
    obtain ⟨-, c1, e1, e2⟩ := takeData_ok (J := J) (θ := θ) hd (hc (i, cs) (by simp))
    rw [List.isEmpty_iff.1 he, List.append_nil] at e1
    subst e1
    obtain ⟨h1, h2, h3, h4⟩ := litOwn_ok hq fun p hp => hc p (by simp [hp])
    refine ⟨by rw [List.map_cons, h1]; rfl, by rw [List.length_cons, h2]; rfl, fun p hp => ?_, ?_⟩
    · rcases List.mem_cons.1 hp with rfl | hp
      · exact hcl
      · exact h3 p hp
    · rw [List.map_append]
      exact sepTo_bun e2 h4
end

/-! ### Steps -/
section
variable {P : Program} {w0 : World} {I : Hp} {o : Oper} {ev : Operand → Value} {s : Sg}
def usOf (ev : Operand → Value) (θ : Th) : List (Nat × Operand) → List (Nat × List LV) → List (Value × List Value)
  | p :: l, q :: m => (ev p.2, q.2.map (·.v θ)) :: usOf ev θ l m
  | _, _ => []
theorem usOf_ok {θ : Th} : ∀ {l : List (Nat × Operand)} {ps : List (Nat × List LV)} {j : Nat}, peq (l.map fun p => (p.1, ev p.2)) (ps.map fun p => (p.1, p.2.map (·.v θ))) → ps.map (·.1) = List.range' j ps.length →
    l.map (fun p => (p.1, ev p.2)) = ((usOf ev θ l ps).zipIdx j).map (fun p => (p.2, p.1.1)) ∧ (usOf ev θ l ps).length = ps.length ∧ (usOf ev θ l ps).map (·.2) = ps.map (fun p => p.2.map (·.v θ)) ∧ ∀ u ∈ usOf ev θ l ps, u.1.cells = u.2.toArray ∧ ∃ p ∈ ps, u.2.length = p.2.length
  | [], [], j, _, _ => ⟨rfl, rfl, rfl, fun u hu => by cases hu⟩
  | (i, x) :: l, (i', cs) :: ps, j, h, hj => by
    obtain ⟨e1, e2, h⟩ := (show i = i' ∧ (ev x).cells = (cs.map (·.v θ)).toArray ∧ peq _ _ from h)
    have hj1 : i' = j := by
      have := congrArg (fun l : List Nat => l.head?) hj
      simpa [List.range'] using this
    have hj2 : ps.map (·.1) = List.range' (j + 1) ps.length := by
      have := congrArg List.tail hj
      simpa [List.range'] using this
    obtain ⟨h1, h2, h3, h4⟩ := usOf_ok h hj2
    refine ⟨?_, by show (usOf ev θ l ps).length + 1 = ps.length + 1; rw [h2], by show _ :: _ = _ :: _; rw [h3], fun u hu => ?_⟩
    · show (i, ev x) :: _ = (j, ev x) :: _
      rw [e1, hj1, h1]
    · rcases List.mem_cons.1 hu with rfl | hu
      · exact ⟨e2, (i', cs), by simp, by rw [List.length_map]⟩
      · obtain ⟨k1, p, hp, k2⟩ := h4 u hu
        exact ⟨k1, p, by simp [hp], k2⟩
  | [], _ :: _, j, h, _ => h.elim
  | _ :: _, [], j, h, _ => h.elim
theorem opT_one {α : Type} {R : Rep α} {E : TypeId} {xs : List α} {rn : List Ch} {fact : Value → Prop} {gv : Value → List Ch} (h : OpT P I w0 o ev rn fact (fun v => Ch.own (rSlice E R) [v] xs :: gv v)) : OpT P I w0 o ev rn (fun v => fact v ∧ v.oneCell' = true) (fun v => Ch.own (rSlice E R) [v] xs :: gv v) :=
  OpT.weak (OpT.hdk (fun v => v) 0 (fun v => rfl) h) (fun v hv => ⟨hv.1, Hd.one hv.2⟩) fun v hv => rfl
/-- an operation that gives a row -/
theorem good_row {rs ns rest : List Ent} {E : TypeId} {t : Ty} {xs : List t.den} (hp : s.chs.Perm (rs ++ ns ++ rest)) (hop : ∀ J θ, Fine P w0 J θ s → OpT P J w0 o (evL (envL θ s)) ((rs ++ ns).map (toCh P θ)) (fun _ => True) (fun v => Ch.own (Ty.sl E t).rep [v] xs :: rs.map (toCh P θ))) : Good P w0 s o ⟨rs, ns, rest, [(⟨s.nxt, []⟩, .own (.sl E t) xs)], .one (.own ⟨s.nxt, []⟩)⟩ :=
  ⟨hp, says_plain rfl, fun J θ hf => by
    have h1 := opT_one (hop J θ hf)
    have h2 : OpT P J w0 o (evL (envL θ s)) ((rs ++ ns).map (toCh P θ)) (fun v => True ∧ v.oneCell' = true) (fun v => rs.map (toCh P θ) ++ [Ch.own (Ty.sl E t).rep [v] xs]) :=
      fun w C hs => (h1 w C hs).imp fun v w hv => ⟨hv.1, hv.2.perm (List.Perm.append_right C (List.perm_append_comm (l₁ := [_])))⟩
    refine OpT.weak h2 (fun v hv0 => ⟨⟨Nat.lt_succ_self _, by rw [hv_new]; exact hv0.2⟩, hv_new, fun g hg => ?_⟩) (fun v hv0 => ?_)
    · obtain rfl := List.mem_singleton.1 hg
      exact ⟨Nat.lt_succ_self _, Nat.lt_succ_self _, trivial⟩
    · show _ = _ ++ [Ch.own _ [hv (upd θ s.nxt v) ⟨s.nxt, []⟩] _]
      rw [hv_new]⟩
end
section
variable {Y : Type} (tt : TT) (an : List (Nat × Ty)) (s : Sg) (k : Res → Option Y)
def sBuild (T : TypeId) (parts : Array (Nat × Operand)) : Option Y := (td tt T).bind fun d => d.place.bind fun pl => d.bytes.bind fun _ => (partsOf s parts.toList).bind fun ps => (fillV pl ((zeroCells d.ty).map .val) ps).bind fun r => k (.pure s (.agg r))
/-- the type of a row's elements: as noted for the slot, else the type's own -/
def anGo : List (Nat × Ty) → Nat → Ty → Ty
  | [], _, t => t
  | (u, t') :: l, d, t => if Nat.beq u d then t' else anGo l d t
def anTy (d : Option Nat) (t : Ty) : Ty := match d with
  | none => t
  | some d => anGo an d t
def newRow (E : TypeId) (t : Ty) (ns rest : List Ent) (xs : List t.den) : Option Y := k ⟨[], ns, rest, [(⟨s.nxt, []⟩, .own (.sl E t) xs)], .one (.own ⟨s.nxt, []⟩)⟩
def sLitN (E : TypeId) (n : Nat) (t : Ty) (m : Nat) (l : List (Nat × Operand)) : Option Y := (partsOf s l).bind fun ps => chkT (Nat.beq ps.length (m + 1) && Nat.beq t.size n && Nat.ble ((m + 1) * n) 16777216) (match t.sh with
    | true => (litRd t ps 0).bind fun xs => newRow s k E t [] s.chs xs
    | false => (litOwn t ps 0 s.chs).bind fun r => newRow s k E t r.used r.rest r.xs)
def sLit (dst : Option Nat) (T : TypeId) (m : Nat) (parts : Array (Nat × Operand)) : Option Y := (td tt T).bind fun d => d.el.bind fun E => (td tt E).bind fun e => match m with
  | 0 => chkT parts.toList.isEmpty (newRow s k E (anTy an dst e.ty) [] s.chs [])
  | m + 1 => e.bytes.bind fun _ => sLitN s k E e.n (anTy an dst e.ty) m parts.toList
def sameInt : Operand → Operand → Bool
  | .tmp t, .tmp u => Nat.beq t u
  | .const (.int .i64 m), .const (.int .i64 n) => match m, n with
    | .ofNat a, .ofNat b => Nat.beq a b
    | _, _ => false
  | _, _ => false
def sMake (dst : Option Nat) (T : TypeId) (x y : Operand) : Option Y := (td tt T).bind fun d => d.el.bind fun E => (td tt E).bind fun e => e.bytes.bind fun b => match opd s x with
  | some (.one (.val (.int .i64 l))) => chkT (sameInt x y && Nat.beq e.ty.size e.n && decide ((anTy an dst e.ty).erase = e.ty.erase)) ((mkI b l (zeroD (anTy an dst e.ty))).bind fun xs => newRow s k E (anTy an dst e.ty) [] s.chs xs)
  | _ => none
end
section
variable {Y : Type} {tt : TT} {an : List (Nat × Ty)} {s : Sg} {k : Res → Option Y} {P : Program} {w0 : World} {o : Oper} {res : Y} {x y : Operand}
theorem sBuild_ok (hT : TTok P tt) {T : TypeId} {parts : Array (Nat × Operand)} (ho : o.op = .build T parts) (h : sBuild tt s k T parts = some res) : Oks P w0 s o k res := by
  obtain ⟨d, hd, h⟩ := bind_some h
  obtain ⟨pl, hpl, h⟩ := bind_some h
  obtain ⟨b, hb, h⟩ := bind_some h
  obtain ⟨ps, hps, h⟩ := bind_some h
  obtain ⟨r, hr, h⟩ := bind_some h
  have hdk := hT.get hd
  obtain ⟨z, hz1, hz2, -⟩ := hdk.zero b hb
  refine ⟨_, h, good_val (fun J θ hf => ?_) fun J θ hf => ?_⟩
  · obtain ⟨h1, h2⟩ := partsOf_ok hf hps
    have h3 := fillV_ok (θ := θ) hr
    rw [List.map_map, show (zeroCells d.ty).map ((fun x : LV => x.v θ) ∘ LV.val) = zeroCells d.ty from List.map_id' _] at h3
    exact opT_build _ (hdk.place pl hpl) hz1 hz2 ho h1 h3
  · obtain ⟨h1, h2⟩ := partsOf_ok hf hps
    exact fillV_mem hr (fun x hx => by
      obtain ⟨u, hu, rfl⟩ := List.mem_map.1 hx
      exact zero_one _ u hu) h2
theorem sLit_ok (hT : TTok P tt) {T : TypeId} {m : Nat} {parts : Array (Nat × Operand)} (ho : o.op = .buildSlice T m parts) (h : sLit tt an s k o.dst T m parts = some res) : Oks P w0 s o k res := by
  obtain ⟨d, hd, h⟩ := bind_some h
  obtain ⟨E, hE, h⟩ := bind_some h
  obtain ⟨e, he, h⟩ := bind_some h
  have hdk := hT.get hd
  have hek := hT.get he
  cases m with
  | zero =>
    obtain ⟨hp, h⟩ := chkT_ok (show chkT parts.toList.isEmpty _ = some res from h)
    have hp0 : parts = #[] := by apply Array.ext'; simpa using hp
    subst hp0
    exact ⟨_, h, good_row (rs := []) (by simp) fun J θ hf => opT_lit0 (hdk.el E hE) hek.ti ho⟩
  | succ m =>
    obtain ⟨b, hb, h⟩ := bind_some (show e.bytes.bind _ = some res from h)
    obtain ⟨ps, hps, h⟩ := bind_some h
    obtain ⟨hc, h⟩ := chkT_ok h
    rw [Bool.and_eq_true, Bool.and_eq_true] at hc
    have hc1 := Nat.eq_of_beq_eq_true hc.1.1
    have hc2 := Nat.eq_of_beq_eq_true hc.1.2
    have hc3 := Nat.le_of_ble_eq_true hc.2
    obtain ⟨z, hz1, hz2, -⟩ := hek.zero b hb
    have hn : 0 < e.n := by rw [← hc2]; exact Ty.size_pos _
    split at h
    · rename_i hsh
      obtain ⟨xs, hxs, h⟩ := bind_some h
      refine ⟨_, h, good_row (rs := []) (by simp) fun J θ hf => ?_⟩
      obtain ⟨h1, h2⟩ := partsOf_ok hf hps
      obtain ⟨l1, l2, l3, l4⟩ := litRd_ok (J := J) hxs h2
      obtain ⟨u1, u2, u3, u4⟩ := usOf_ok h1 l1
      exact opT_lit_cpy (usOf (evL (envL θ s)) θ parts.toList ps) xs (Ty.cpy hsh) (by rw [u3]; exact l4) (hdk.el E hE) hz1 hn ((Ty.rep_size _).trans hc2) (Nat.succ_pos _) hc3 ho u1 (u2.trans hc1) (l2.trans hc1) fun u hu => ⟨(u4 u hu).1, by
        obtain ⟨-, p, hp, e⟩ := u4 u hu
        rw [e, l3 p hp, hc2]⟩
    · obtain ⟨r, hr, h⟩ := bind_some h
      refine ⟨_, h, good_row (rs := []) (litOwn_perm hr) fun J θ hf => ?_⟩
      obtain ⟨h1, h2⟩ := partsOf_ok hf hps
      obtain ⟨l1, l2, l3, l4⟩ := litOwn_ok (J := J) hr h2
      obtain ⟨u1, u2, u3, u4⟩ := usOf_ok h1 l1
      rw [← u3] at l4
      exact OpT.pre l4 rfl (opT_lit (usOf (evL (envL θ s)) θ parts.toList ps) r.xs (hdk.el E hE) hz1 hn ((Ty.rep_size _).trans hc2) (Nat.succ_pos _) hc3 ho u1 (u2.trans hc1) (l2.trans hc1) fun u hu => ⟨(u4 u hu).1, by
        obtain ⟨-, p, hp, e⟩ := u4 u hu
        rw [e, l3 p hp, hc2]⟩)
theorem sameInt_ok {x y : Operand} (h : sameInt x y = true) : x = y := by
  unfold sameInt at h
  split at h
  · rw [Nat.eq_of_beq_eq_true h]
  · split at h
    · rw [Nat.eq_of_beq_eq_true h]
    · cases h
  · cases h
theorem sMake_ok (hT : TTok P tt) {T : TypeId} (ho : o.op = .makeSlice T x y) (h : sMake tt an s k o.dst T x y = some res) : Oks P w0 s o k res := by
  obtain ⟨d, hd, h⟩ := bind_some h
  obtain ⟨E, hE, h⟩ := bind_some h
  obtain ⟨e, he, h⟩ := bind_some h
  obtain ⟨b, hb, h⟩ := bind_some h
  have hdk := hT.get hd
  have hek := hT.get he
  split at h
  · rename_i l hx
    obtain ⟨hc, h⟩ := chkT_ok h
    rw [Bool.and_eq_true, Bool.and_eq_true] at hc
    obtain ⟨⟨hc1, hc2⟩, hc3⟩ := hc
    obtain ⟨xs, hxs, h⟩ := bind_some h
    have hc1 := sameInt_ok hc1
    have hc2 := Nat.eq_of_beq_eq_true hc2
    have hc3 := of_decide_eq_true hc3
    obtain ⟨z, hz1, hz2, hz3⟩ := hek.zero b hb
    have hz : z.cells.toList = zeroCells (anTy an o.dst e.ty) := by rw [hz2, ← zero_erase (anTy an o.dst e.ty), hc3, zero_erase]
    have hn : (anTy an o.dst e.ty).size = e.n := by rw [← hc2, ← zero_len, ← zero_len, ← zero_erase, hc3, zero_erase]
    refine ⟨_, h, good_row (rs := []) (by simp) fun J θ hf => ?_⟩
    exact opT_mk (by rw [hz]; exact zero_zro _) (hdk.el E hE) hz1 ho ((Ty.rep_size _).trans hn) (by rw [← hn]; exact Ty.size_pos _) hz3 (opd_ev hx) (by rw [← hc1]; exact opd_ev hx) hxs
  · cases h
end
end Go.Proofs.Ytfkocnnphjkmfaa.R
