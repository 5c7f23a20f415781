/- Append; parts put back; parts of slices. No program text is named here. -/
import Derived.Test.YtfkocnnphjkmfaaRG
set_option linter.unusedVariables false
set_option linter.unusedSimpArgs false
set_option linter.unnecessarySimpa false
set_option linter.unusedSectionVars false
namespace Go.Proofs.Ytfkocnnphjkmfaa.R
open Go.RowKit
open Go.Proofs.Ytfkocnnphjkmfaa.D

/-! ### Append -/
section
variable {Y : Type} (tt : TT) (an : List (Nat × Ty)) (s : Sg) (k : Res → Option Y)
def appY (E : TypeId) (b : Nat) (t : Ty) (xs : List t.den) (nsx rest : List Ent) (y : AV) : Option Y := match y with
  | .one (.own h) => (rowOf h rest).bind fun r => (castEq (.sl r.E r.t) (.sl E t) r.xs).bind fun ys => (appI b xs ys).bind fun zs => match t.sh with
    | true => k ⟨[r.ent h], nsx, r.rest, [(⟨s.nxt, []⟩, .own (.sl E t) zs)], .one (.own ⟨s.nxt, []⟩)⟩
    | false => k ⟨[], nsx ++ [r.ent h], r.rest, [(⟨s.nxt, []⟩, .own (.sl E t) zs)], .one (.own ⟨s.nxt, []⟩)⟩
  | .one (.rd h t' d) => chkT t.sh ((castTy t' (.sl E t) d).bind fun ys => (appI b xs ys).bind fun zs => k ⟨[], nsx, rest, [(⟨s.nxt, []⟩, .own (.sl E t) zs)], .one (.own ⟨s.nxt, []⟩)⟩)
  | _ => none
/-- the type of the elements that are appended to nil -/
def nilTy (y : AV) (t : Ty) : Ty := match y with
  | .one (.own h) => match rowOf h s.chs with
    | some r => r.t
    | none => t
  | _ => t
def sApp (dst : Option Nat) (T : TypeId) (x y : Operand) : Option Y := (td tt T).bind fun d => d.el.bind fun E => (td tt E).bind fun e => e.bytes.bind fun b => (opd s y).bind fun yv => match opd s x with
  | some (.one (.own h)) => (rowOf h s.chs).bind fun r => chkT (Nat.beq r.E E && Nat.beq r.t.size e.n) (appY s k r.E b r.t r.xs [r.ent h] r.rest yv)
  | some (.one (.val v)) => chkT (isNil v && Nat.beq (nilTy s yv (anTy an dst e.ty)).size e.n) (appY s k E b (nilTy s yv (anTy an dst e.ty)) [] [] s.chs yv)
  | _ => none
end
section
variable {Y : Type} {tt : TT} {an : List (Nat × Ty)} {s : Sg} {k : Res → Option Y} {P : Program} {w0 : World} {o : Oper} {res : Y} {x y : Operand}
theorem OpT.nilrow {I : Hp} {ev : Operand → Value} {α : Type} {E : TypeId} {R : Rep α} {rn : List Ch} {fact : Value → Prop} {gv : Value → List Ch} (h : OpT P I w0 o ev (Ch.own (rSlice E R) [.slice none 0 0] ([] : List α) :: rn) fact gv) : OpT P I w0 o ev rn fact gv := fun w C hs => h w C hs.nil
theorem OpT.permN {I : Hp} {ev : Operand → Value} {rn rn' : List Ch} {fact : Value → Prop} {gv : Value → List Ch} (hp : rn'.Perm rn) (h : OpT P I w0 o ev rn fact gv) : OpT P I w0 o ev rn' fact gv := fun w C hs => h w C (hs.perm (hp.append_right C))
theorem castEq_ent {r : Row} {E : TypeId} {t : Ty} {ys : List t.den} {h : Hdr} (hc : castEq (.sl r.E r.t) (.sl E t) r.xs = some ys) : r.ent h = (h, r.ver, .own (.sl E t) ys) := by
  obtain ⟨e, e2⟩ := castEq_ok hc
  obtain ⟨ver, E', t', xs, rest⟩ := r
  simp only at e
  obtain ⟨rfl, rfl⟩ := Ty.sl.inj e
  rw [e2]; rfl
/-- what is appended to: the chunks 'nsx' are the row xs, with the value v -/
theorem appY_ok {T E : TypeId} {z : Value} {n b : Nat} {t : Ty} {xs : List t.den} {nsx rest : List Ent} {yv : AV} (hp : s.chs.Perm (nsx ++ rest)) (hT : P.underlying T = some (.slice E)) (hE : TZ P E z n b) (hzs : z.cells.size = n) (hn : 0 < n) (ht : t.size = n) (hb1 : 1 ≤ b) (ho : o.op = .call { callee := .builtin .append, args := #[x, y], argTypes := #[T, T] }) (hy : opd s y = some yv)
    (hx : ∀ J θ, Fine P w0 J θ s → ∃ v, evL (envL θ s) x = v ∧ ∀ (rn : List Ch) (fact : Value → Prop) (gv : Value → List Ch), OpT P J w0 o (evL (envL θ s)) (Ch.own (rSlice E t.rep) [v] xs :: rn) fact gv → OpT P J w0 o (evL (envL θ s)) (nsx.map (toCh P θ) ++ rn) fact gv)
    (h : appY s k E b t xs nsx rest yv = some res) : Oks P w0 s o k res := by
  unfold appY at h
  split at h
  · rename_i hh
    obtain ⟨r, hr, h⟩ := bind_some h
    obtain ⟨ys, hys, h⟩ := bind_some h
    obtain ⟨zs, hzs', h⟩ := bind_some h
    obtain ⟨hpr, -⟩ := rowOf_ok hr
    have he := castEq_ent (h := hh) hys
    split at h
    · rename_i hsh
      refine ⟨_, h, good_row (hp.trans ((hpr.append_left nsx).trans List.perm_middle)) fun J θ hf => ?_⟩
      obtain ⟨v, hv', hx⟩ := hx J θ hf
      rw [he]
      have := opT_app_keep (P := P) (I := J) (w0 := w0) (R := t.rep) hzs' (Ty.sh_ok hsh) (Ty.cpy hsh) hT hE hzs hn (t.rep_size.trans ht) hb1 ho hv' (opd_ev (θ := θ) hy)
      exact OpT.permN (List.perm_append_comm (l₁ := [_])) (hx _ _ _ this)
    · refine ⟨_, h, good_row (rs := []) (by
        have : s.chs.Perm (nsx ++ (r.ent hh :: r.rest)) := hp.trans (hpr.append_left nsx)
        simpa using this) fun J θ hf => ?_⟩
      obtain ⟨v, hv', hx⟩ := hx J θ hf
      rw [he]
      have := opT_app (P := P) (I := J) (w0 := w0) (R := t.rep) hzs' hT hE hzs hn (t.rep_size.trans ht) hb1 ho hv' (opd_ev (θ := θ) hy)
      have := hx _ _ _ this
      rw [List.nil_append, List.map_append]
      exact this
  · rename_i hh t' d
    obtain ⟨hsh, h⟩ := chkT_ok h
    obtain ⟨ys, hys, h⟩ := bind_some h
    obtain ⟨zs, hzs', h⟩ := bind_some h
    refine ⟨_, h, good_row (rs := []) hp fun J θ hf => ?_⟩
    obtain ⟨v, hv', hx⟩ := hx J θ hf
    have hrd := castTy_rd hys (opd_ok hf hy).2
    have := opT_app_fro (P := P) (I := J) (w0 := w0) (R := t.rep) (S := t.rep) (E' := E) hzs' (Ty.cpy hsh) (t.rep_size.trans ht) hrd hT hE hzs hn (t.rep_size.trans ht) hb1 ho hv' (opd_ev (θ := θ) hy)
    have := hx _ _ _ this
    rw [List.append_nil] at this
    exact this
  · cases h
theorem sApp_ok (hT : TTok P tt) {T : TypeId} (ho : o.op = .call { callee := .builtin .append, args := #[x, y], argTypes := #[T, T] }) (h : sApp tt an s k o.dst T x y = some res) : Oks P w0 s o k res := by
  obtain ⟨d, hd, h⟩ := bind_some h
  obtain ⟨E, hE, h⟩ := bind_some h
  obtain ⟨e, he, h⟩ := bind_some h
  obtain ⟨b, hb, h⟩ := bind_some h
  obtain ⟨yv, hy, h⟩ := bind_some h
  have hdk := hT.get hd
  have hek := hT.get he
  obtain ⟨z, hz1, hz2, hz3⟩ := hek.zero b hb
  have hzs : z.cells.size = e.n := by rw [hz2, List.size_toArray, zero_len, hek.sz]
  split at h
  · rename_i hh hx
    obtain ⟨r, hr, h⟩ := bind_some h
    obtain ⟨hc, h⟩ := chkT_ok h
    rw [Bool.and_eq_true] at hc
    have hc1 := Nat.eq_of_beq_eq_true hc.1
    have hc2 := Nat.eq_of_beq_eq_true hc.2
    obtain ⟨hp, -⟩ := rowOf_ok hr
    exact appY_ok (nsx := [r.ent hh]) hp ((hdk.el E hE).trans (by rw [hc1])) (by rw [hc1]; exact hz1) hzs (by rw [← hc2]; exact Ty.size_pos _) hc2 hz3 ho hy (fun J θ hf => ⟨_, opd_ev hx, fun rn fact gv h => h⟩) h
  · rename_i v hx
    obtain ⟨hc, h⟩ := chkT_ok h
    rw [Bool.and_eq_true] at hc
    have hc1 := isNil_ok hc.1
    have hc2 := Nat.eq_of_beq_eq_true hc.2
    refine appY_ok (nsx := []) (List.Perm.refl _) (hdk.el E hE) hz1 hzs (by rw [← hc2]; exact Ty.size_pos _) hc2 hz3 ho hy (fun J θ hf => ⟨_, opd_ev hx, fun rn fact gv h => ?_⟩) h
    rw [show (AV.one (LV.val v)).v θ = .slice none 0 0 from hc1] at h
    exact OpT.nilrow h
  · cases h
end

/-! ### What was taken out, put back -/
structure Hol where
  ver : Nat
  over : Nat
  t : Ty
  d : t.den
  u : Ty
  y : u.den
  f : u.den → t.den
  i : Int
  k : Nat
  off : Nat
  lv : LV
  rest : List Ent
def holOf (h : Hdr) (chs : List Ent) : Option Hol := (pull h chs).bind fun r => match r.1.2.2 with
  | .hole over t d u y f i k off lv => some ⟨r.1.2.1, over, t, d, u, y, f, i, k, off, lv, r.2⟩
  | _ => none
def Hol.ent (r : Hol) (h : Hdr) : Ent := (h, r.ver, .hole r.over r.t r.d r.u r.y r.f r.i r.k r.off r.lv)
theorem holOf_ok {h : Hdr} {chs : List Ent} {r : Hol} (e : holOf h chs = some r) : chs.Perm (r.ent h :: r.rest) := by
  obtain ⟨q, hq, e⟩ := bind_some e
  obtain ⟨p, k⟩ := pull_ok hq
  obtain ⟨⟨h', ver, c⟩, rest⟩ := q
  obtain rfl : h' = h := k
  cases c with
  | hole over t d u y f i k off lv =>
    obtain rfl := Option.some.inj (show some _ = some r from e)
    exact p
  | _ => cases e
/-- what stands in the place, as owned data: is it as it was, what is it -/
def partOf (r : Hol) : Option (Bool × r.u.den × List Ent) := match r.lv with
  | .own l => (pull l r.rest).bind fun q => match q.1.2.2 with
    | .own u' d => (castEq u' r.u d).bind fun d => some (Nat.beq q.1.2.1 r.ver, d, q.2)
    | _ => none
  | _ => none
theorem partOf_ok {r : Hol} {q : Bool × r.u.den × List Ent} (h : partOf r = some q) : ∃ l ver, r.lv = .own l ∧ r.rest.Perm ((l, ver, .own r.u q.2.1) :: q.2.2) ∧ (q.1 = true → ver = r.ver) := by
  obtain ⟨ver, over, t, d, u, y, f, i, k, off, lv, rest⟩ := r
  cases lv with
  | own l =>
    obtain ⟨e, he, h⟩ := bind_some (show (pull l rest).bind _ = some q from h)
    obtain ⟨p, hk⟩ := pull_ok he
    obtain ⟨⟨l', v', c⟩, rest'⟩ := e
    obtain rfl : l' = l := hk
    cases c with
    | own u' d' =>
      obtain ⟨d'', hd, h⟩ := bind_some (show (castEq u' u d').bind _ = some q from h)
      obtain rfl := Option.some.inj h
      obtain ⟨e, rfl⟩ := castEq_ok hd
      subst e
      exact ⟨l', v', rfl, p, fun hb => Nat.eq_of_beq_eq_true hb⟩
    | _ => cases h
  | _ => cases h
def settle1 (h : Hdr) (s : Sg) : Option Sg := (holOf h s.chs).bind fun r => (partOf r).bind fun q => match q.1 with
  | true => some ⟨s.env, (h, r.over, .own r.t r.d) :: q.2.2, s.nxt + 1⟩
  | false => some ⟨s.env, (h, s.nxt, .own r.t (r.f q.2.1)) :: q.2.2, s.nxt + 1⟩
section
variable {P : Program} {I J : Hp} {w0 w : World} {F : Ch} {n : Nat} {θ : Th} {s s' : Sg} {a : Act} {o : Oper}
/-- the same slots; other entries that say nothing new -/
theorem Sim.chs (hS : Sim P I w0 F n J θ s a w) {chs' : List Ent} (hst : St J w0 w (chs'.map (toCh P θ) ++ [F])) (hn : Newer s.nxt s.chs chs') (hok : ∀ e ∈ chs', okE P w0 J θ (s.nxt + 1) chs' e) : Sim P I w0 F n J θ ⟨s.env, chs', s.nxt + 1⟩ a w :=
  ⟨hS.le, hS.agr, hst, fun e he => AV.ok_same Same.rfl (Nat.le_succ _) hn (hS.fine.env e he) Hp.le.rfl, fun e he => Nat.lt_succ_of_lt (hS.fine.ver e he), hS.fine.nd, hok⟩
theorem settle1_ok {h : Hdr} (hs : settle1 h s = some s') (hS : Sim P I w0 F n J θ s a w) : Sim P I w0 F n J θ s' a w := by
  obtain ⟨r, hr, hs⟩ := bind_some hs
  obtain ⟨q, hq, hs⟩ := bind_some hs
  have hp := holOf_ok hr
  obtain ⟨l, ver, hl, hp2, hu⟩ := partOf_ok hq
  have hp3 : s.chs.Perm (r.ent h :: (l, ver, .own r.u q.2.1) :: q.2.2) := hp.trans (hp2.cons _)
  have hok := hS.fine.chs (r.ent h) (hp.mem_iff.2 (by simp))
  have hst : St J w0 w (Ch.own r.t.rep [hv θ h] (r.f q.2.1) :: (q.2.2.map (toCh P θ) ++ [F])) := by
    have h0 := hS.st.perm ((hp3.map (toCh P θ)).append_right [F])
    have h1 : St J w0 w (Ch.own r.u.rep [hv θ l] q.2.1 :: Ch.gap r.t.rep [hv θ h] r.u.rep r.f (ptB (hv θ h)) (ptO (hv θ h) + (r.i.toNat * r.k + r.off)) (r.lv.v θ) :: (q.2.2.map (toCh P θ) ++ [F])) := h0.perm (List.Perm.swap _ _ _)
    rw [hl] at h1
    exact St.settle h1
  have hmem : ∀ e, e ∈ q.2.2 → e ∈ s.chs := fun e he => hp3.mem_iff.2 (by simp [he])
  cases hb : q.1 with
  | true =>
    rw [hb] at hs
    obtain rfl := Option.some.inj (show some _ = some s' from hs)
    have hver := hu hb
    have hd : q.2.1 = r.y := by
      have := (hok.2.2.2.2.2 l hl).2 (l, ver, .own r.u q.2.1) (hp3.mem_iff.2 (by simp)) _ ⟨rfl, .inl ⟨hver, rfl⟩⟩
      injection this with _ h2
    have hfd : r.f q.2.1 = r.d := by rw [hd]; exact hok.2.2.2.2.1
    rw [hfd] at hst
    have hnew : Newer s.nxt s.chs ((h, r.over, .own r.t r.d) :: q.2.2) := fun e he h' ver' c hs' => by
      rcases List.mem_cons.1 he with rfl | he
      · obtain ⟨rfl, hs'⟩ := hs'
        rcases hs' with ⟨rfl, rfl⟩ | hs'
        · exact .inr ⟨r.ent h, hp.mem_iff.2 (by simp), rfl, .inr ⟨rfl, rfl⟩⟩
        · exact hs'.elim
      · exact .inr ⟨e, hmem e he, hs'⟩
    refine hS.chs hst hnew fun e he => ?_
    rcases List.mem_cons.1 he with rfl | he
    · exact ⟨Nat.lt_succ_of_lt hok.1, Nat.lt_succ_of_lt (Nat.lt_trans hok.2.2.2.1 hok.2.1), trivial⟩
    · exact okE_same Same.rfl (Nat.le_succ _) hnew (hS.fine.chs e (hmem e he)) Hp.le.rfl
  | false =>
    rw [hb] at hs
    obtain rfl := Option.some.inj (show some _ = some s' from hs)
    have hnew : Newer s.nxt s.chs ((h, s.nxt, .own r.t (r.f q.2.1)) :: q.2.2) := fun e he h' ver' c hs' => by
      rcases List.mem_cons.1 he with rfl | he
      · obtain ⟨rfl, hs'⟩ := hs'
        rcases hs' with ⟨rfl, rfl⟩ | hs'
        · exact .inl (Nat.le_refl _)
        · exact hs'.elim
      · exact .inr ⟨e, hmem e he, hs'⟩
    refine hS.chs hst hnew fun e he => ?_
    rcases List.mem_cons.1 he with rfl | he
    · exact ⟨Nat.lt_succ_of_lt hok.1, Nat.lt_succ_self _, trivial⟩
    · exact okE_same Same.rfl (Nat.le_succ _) hnew (hS.fine.chs e (hmem e he)) Hp.le.rfl
/-- put back, what is out of the part first -/
def settle : Nat → Hdr → Sg → Sg
  | 0, _, s => s
  | m + 1, h, s => match holOf h s.chs with
    | some r => match r.lv with
      | .own l => match settle1 h (settle m l s) with
        | some s' => s'
        | none => s
      | _ => s
    | none => s
theorem settle_ok : ∀ {m : Nat} {h : Hdr} {s : Sg}, Sim P I w0 F n J θ s a w → Sim P I w0 F n J θ (settle m h s) a w
  | 0, _, _, hS => hS
  | m + 1, h, s, hS => by
    unfold settle
    split
    · split
      · split
        · rename_i hs
          exact settle1_ok hs (settle_ok hS)
        · exact hS
      · exact hS
    · exact hS
end

/-! ### A store into the place of what was taken out -/
section
variable {Y : Type} (tt : TT) (s : Sg) (k : Res → Option Y)
def sStoreG (T : TypeId) (x y : Operand) : Option Y := (td tt T).bind fun d => match opd s x, opd s y with
  | some (.elo h ver E t xs a i off), some (.one lv) => (holOf h s.chs).bind fun r => chkT (Nat.beq r.k t.size && Nat.beq r.off off && !d.agg && Nat.beq d.n 1 && (match lv with | .own l => !(Hdr.beq l h) | _ => true)) ((chk (i = r.i)).bind fun _ => k ⟨[], [r.ent h], r.rest, [(h, .hole r.over r.t r.d r.u r.y r.f r.i r.k r.off lv)], .any ⟨s.nxt, []⟩⟩)
  | _, _ => none
end
theorem hdr_refl (h : Hdr) : Hdr.beq h h = true := by unfold Hdr.beq; rw [Nat.beq_refl, beqL_refl]; rfl
section
variable {Y : Type} {tt : TT} {s : Sg} {k : Res → Option Y} {P : Program} {w0 : World} {o : Oper} {res : Y} {x y : Operand}
theorem sStoreG_ok (hT : TTok P tt) {T : TypeId} (ho : o.op = .store T x y) (h : sStoreG tt s k T x y = some res) : Oks P w0 s o k res := by
  obtain ⟨d, hd, h⟩ := bind_some h
  split at h
  · rename_i hh ver E t xs a i off lv hx hy
    obtain ⟨r, hr, h⟩ := bind_some h
    obtain ⟨hc, h⟩ := chkT_ok h
    rw [Bool.and_eq_true, Bool.and_eq_true, Bool.and_eq_true, Bool.and_eq_true] at hc
    obtain ⟨⟨⟨⟨hc1, hc2⟩, hc3⟩, hc4⟩, hc5⟩ := hc
    obtain ⟨u, hi, h⟩ := bind_some h
    have hi := chk_some hi
    have hc1 := Nat.eq_of_beq_eq_true hc1
    have hc2 := Nat.eq_of_beq_eq_true hc2
    have hc3 : d.agg = false := by simpa using hc3
    have hc4 := Nat.eq_of_beq_eq_true hc4
    have hp := holOf_ok hr
    have hti := (hT.get hd).ti
    rw [hc3, hc4] at hti
    refine ⟨_, h, perm2 hp, fun J θ hf g hg ver' c hs => ?_, fun J θ hf => ?_⟩
    · obtain rfl := List.mem_singleton.1 hg
      exact ⟨r.ent hh, hp.mem_iff.2 (by simp), rfl, .inr hs⟩
    · have hok := ent_ok hf hp
      have hlv : lv.ok P w0 J θ s.nxt := opd_ok hf hy
      have hxv : evL (envL θ s) x = .pointer (some ⟨ptB (hv θ hh), ptO (hv θ hh) + (r.i.toNat * r.k + r.off), none⟩) := by
        rw [opd_ev (θ := θ) hx, hc1, hc2, ← hi]; rfl
      have hu : ∀ u, hv (upd θ s.nxt u) hh = hv θ hh := fun u => hv_same Same.upd hok.1
      have := opT_store_gap (P := P) (I := J) (w0 := w0) (R := r.t.rep) (S := r.u.rep) (cs := [hv θ hh]) (f := r.f) (v := r.lv.v θ) hti ho hxv (opd_ev (θ := θ) hy) (LV.one hlv)
      refine OpT.weak this (fun v hv0 => ⟨Nat.lt_succ_self _, hv_new, fun g hg => ?_⟩) (fun v hv0 => ?_)
      · obtain rfl := List.mem_singleton.1 hg
        refine ⟨Nat.lt_succ_of_lt hok.1, Nat.lt_succ_self _, LV.ok_same Same.upd (Nat.le_succ _) hlv Hp.le.rfl, Nat.lt_trans hok.2.2.2.1 hok.2.1, hok.2.2.2.2.1, fun l hl => ?_⟩
        subst hl
        have hne : l ≠ hh := fun e => by
          subst e
          rw [show (match LV.own l with | .own l' => !(Hdr.beq l' l) | _ => true) = !(Hdr.beq l l) from rfl, hdr_refl] at hc5
          cases hc5
        refine ⟨Nat.lt_succ_self _, fun e he c hs => ?_⟩
        rcases List.mem_append.1 he with he | he
        · obtain ⟨g, hg, rfl⟩ := List.mem_map.1 he
          obtain rfl := List.mem_singleton.1 hg
          exact absurd hs.1.symm hne
        · have he : e ∈ s.chs := hp.mem_iff.2 (List.mem_cons_of_mem _ (by simpa using he))
          have hek := hf.chs e he
          obtain ⟨h', v', c'⟩ := e
          rcases hs.2 with ⟨h1, h2⟩ | h1
          · have := hek.2.1
            rw [h1] at this
            exact absurd this (Nat.lt_irrefl _)
          · cases c' with
            | hole over _ _ _ _ _ _ _ _ _ =>
              have := Nat.lt_trans hek.2.2.2.1 hek.2.1
              rw [h1.1] at this
              exact absurd this (Nat.lt_irrefl _)
            | _ => exact h1.elim
      · show [Ch.gap _ [hv θ hh] _ _ (ptB (hv θ hh)) (ptO (hv θ hh) + _) (lv.v θ)] = [Ch.gap _ [hv (upd θ s.nxt v) hh] _ _ (ptB (hv (upd θ s.nxt v) hh)) (ptO (hv (upd θ s.nxt v) hh) + _) (lv.v (upd θ s.nxt v))]
        rw [hu, LV.v_same Same.upd hlv]
  · cases h
end
end Go.Proofs.Ytfkocnnphjkmfaa.R
