/- FnExactReplayLog: for every input the law returns true and changes nothing that was there. Part 5 of 9. -/
import Derived.Test.YtfkjjnddefojjaaGreatDoorEC3
set_option linter.unusedVariables false
set_option linter.unusedSimpArgs false
set_option linter.unnecessarySimpa false
set_option linter.unusedSectionVars false
/- Boxes opened; trees frozen: what turns in a state between operations. No program text is named here. -/
set_option linter.unusedVariables false
set_option linter.unusedSimpArgs false
set_option linter.unnecessarySimpa false
set_option linter.unusedSectionVars false
namespace Go.Proofs.YtfkjjnddefojjaaGreatDoor.R
open Go.RowKit
open Go.Proofs.YtfkjjnddefojjaaGreatDoor.D

/-! ### What stays -/
structure Fr (s : Sg) (θ : Th) (s' : Sg) (θ' : Th) : Prop where
  le : s.nxt ≤ s'.nxt
  same : Same s.nxt θ θ'
  env : ∀ e ∈ s'.env, e.2.1 < s.nxt → e ∈ s.env
  chs : Newer s.nxt s.chs s'.chs
section
variable {s s1 s2 : Sg} {θ θ1 θ2 : Th}
theorem Fr.rfl : Fr s θ s θ := ⟨Nat.le_refl _, Same.rfl, fun e he _ => he, Newer.rfl⟩
theorem Fr.trans (h : Fr s θ s1 θ1) (k : Fr s1 θ1 s2 θ2) : Fr s θ s2 θ2 :=
  ⟨Nat.le_trans h.le k.le, h.same.trans k.same h.le, fun e he hv => h.env e (k.env e he (Nat.lt_of_lt_of_le hv h.le)) hv, fun e he h' ver c hs => by
    rcases k.chs e he h' ver c hs with h1 | ⟨e1, he1, hs1⟩
    · exact .inl (Nat.le_trans h.le h1)
    · exact h.chs e1 he1 h' ver c hs1⟩
theorem Fr.put {d : Option Nat} {v : AV} {chs : List Ent} (hs : Same s.nxt θ θ1) (hc : Newer s.nxt s.chs chs) : Fr s θ ⟨putE d s.nxt v s.env, chs, s.nxt + 1⟩ θ1 :=
  ⟨Nat.le_succ _, hs, fun e he hv => by
    rcases mem_putE he with h | h
    · rw [h.2] at hv; exact absurd hv (Nat.lt_irrefl _)
    · exact h, hc⟩
end

/-! ### Slots that lead elsewhere -/
def replE (p : AV → Option AV) : Nat → List (Nat × Nat × AV) → List (Nat × Nat × AV)
  | _, [] => []
  | k, e :: l => (match p e.2.2 with
    | some x => (e.1, k, x)
    | none => e) :: replE p (k + 1) l
section
variable {P : Program} {I J J' : Hp} {w0 w : World} {F : Ch} {n : Nat} {θ θ' : Th} {s : Sg} {a : Act}
theorem replE_mem {p : AV → Option AV} {e : Nat × Nat × AV} : ∀ {l : List (Nat × Nat × AV)} {k : Nat}, e ∈ replE p k l → (e ∈ l) ∨ (k ≤ e.2.1 ∧ e.2.1 < k + l.length ∧ ∃ e0 ∈ l, e0.1 = e.1 ∧ p e0.2.2 = some e.2.2)
  | [], k, h => by cases h
  | e0 :: l, k, h => by
    rcases List.mem_cons.1 h with h | h
    · cases hp : p e0.2.2 with
      | some x => rw [hp] at h; subst h; exact .inr ⟨Nat.le_refl _, by show k < k + (l.length + 1); omega, e0, by simp, rfl, hp⟩
      | none => rw [hp] at h; subst h; exact .inl (by simp)
    · rcases replE_mem h with h | ⟨h2, h3, e1, h4, h5⟩
      · exact .inl (by simp [h])
      · exact .inr ⟨by omega, by rw [List.length_cons]; omega, e1, by simp [h4], h5⟩
theorem replE_nd {p : AV → Option AV} : ∀ {l : List (Nat × Nat × AV)} {k : Nat}, l.Pairwise (fun a b => a.2.1 ≠ b.2.1) → (∀ e ∈ l, e.2.1 < k) → (replE p k l).Pairwise fun a b => a.2.1 ≠ b.2.1
  | [], _, _, _ => List.Pairwise.nil
  | e0 :: l, k, h, hk => by
    obtain ⟨h1, h2⟩ := List.pairwise_cons.1 h
    refine List.pairwise_cons.2 ⟨fun e he => ?_, replE_nd h2 fun e he => Nat.lt_succ_of_lt (hk e (by simp [he]))⟩
    have h0 := hk e0 (by simp)
    rcases replE_mem he with he | ⟨k2, -, -⟩
    · cases hp : p e0.2.2 with
      | some x =>
        have := hk e (by simp [he])
        show k ≠ e.2.1
        omega
      | none => exact h1 e he
    · cases hp : p e0.2.2 with
      | some x => show k ≠ e.2.1; omega
      | none => show e0.2.1 ≠ e.2.1; omega
theorem replE_envL {p : AV → Option AV} : ∀ {l : List (Nat × Nat × AV)} {k : Nat}, (∀ e ∈ l, e.2.2.v θ' = e.2.2.v θ) → (∀ e ∈ l, ∀ x, p e.2.2 = some x → x.v θ' = e.2.2.v θ) → (replE p k l).map (fun e => (e.1, e.2.2.v θ')) = l.map fun e => (e.1, e.2.2.v θ)
  | [], _, _, _ => rfl
  | e0 :: l, k, h, hp => by
    rw [replE, List.map_cons, List.map_cons, replE_envL (fun e he => h e (by simp [he])) fun e he => hp e (by simp [he])]
    congr 1
    cases hq : p e0.2.2 with
    | some x => show (e0.1, x.v θ') = _; rw [hp e0 (by simp) x hq]
    | none => show (e0.1, e0.2.2.v θ') = _; rw [h e0 (by simp)]
theorem Sim.repl {p : AV → Option AV} {chs' : List Ent} (hS : Sim P I w0 F n J θ s a w) (hs : Same s.nxt θ θ') (hJ : J.le J') (hst : St J' w0 w (chs'.map (toCh P θ') ++ [F])) (hn : Newer s.nxt s.chs chs') (hok : ∀ e ∈ chs', okE P w0 J' θ' (s.nxt + 1) chs' e)
    (hp : ∀ e ∈ s.env, ∀ x, p e.2.2 = some x → x.ok P w0 J' θ' (s.nxt + 1) chs' ∧ x.v θ' = e.2.2.v θ) : Sim P I w0 F n J' θ' ⟨replE p (s.nxt + 1) s.env, chs', s.nxt + 1 + s.env.length⟩ a w ∧ Fr s θ ⟨replE p (s.nxt + 1) s.env, chs', s.nxt + 1 + s.env.length⟩ θ' := by
  have hle : s.nxt + 1 ≤ s.nxt + 1 + s.env.length := Nat.le_add_right _ _
  refine ⟨⟨hS.le.trans hJ, ?_, hst, fun e he => ?_, fun e he => ?_, replE_nd hS.fine.nd fun e he => Nat.lt_succ_of_lt (hS.fine.ver e he), fun e he => okE_same Same.rfl hle Newer.rfl (hok e he) Hp.le.rfl, hS.fine.lay.mono hJ⟩, by show s.nxt ≤ s.nxt + 1 + s.env.length; omega, hs, fun e he hv => ?_, hn⟩
  · have : envL θ' ⟨replE p (s.nxt + 1) s.env, chs', s.nxt + 1 + s.env.length⟩ = envL θ s := replE_envL (fun e he => AV.v_same hs (hS.fine.env e he)) fun e he x hx => (hp e he x hx).2
    rw [this]; exact hS.agr
  · rcases replE_mem he with he | ⟨-, -, e0, h1, -, h2⟩
    · exact AV.ok_same hs (by show s.nxt ≤ s.nxt + 1 + s.env.length; omega) hn (hS.fine.env e he) hJ
    · exact AV.ok_same Same.rfl hle Newer.rfl (hp e0 h1 _ h2).1 Hp.le.rfl
  · rcases replE_mem he with he | ⟨h2, h3, -⟩
    · have := hS.fine.ver e he
      show e.2.1 < s.nxt + 1 + s.env.length
      omega
    · exact h3
  · rcases replE_mem he with he | ⟨h2, -⟩
    · exact he
    · exfalso; omega
end

/-! ### Boxes opened -/
def openH (h : Hdr) (s : Sg) : Option Sg := (pull h s.chs).bind fun r => match r.1.2.2 with
  | .box T t d => some ⟨s.env, (h, s.nxt, .blk T (cellsOwn s.nxt (fun j => [j]) t d 0)) :: ((chsOwn s.nxt (fun j => [j]) t d 0).map (fun g => (g.1, s.nxt, g.2)) ++ r.2), s.nxt + 1⟩
  | _ => none
section
variable {P : Program} {I J : Hp} {w0 w : World} {F : Ch} {n : Nat} {θ : Th} {s s' : Sg} {a : Act} {h : Hdr}
theorem openH_ok (hs : openH h s = some s') (hS : Sim P I w0 F n J θ s a w) : ∃ θ', Sim P I w0 F n J θ' s' a w ∧ Fr s θ s' θ' := by
  obtain ⟨r, hr, hs⟩ := bind_some hs
  obtain ⟨p, k⟩ := pull_ok hr
  obtain ⟨⟨h2, ver, c⟩, rest⟩ := r
  obtain rfl : h2 = h := k
  cases c with
  | box T t d =>
    obtain rfl := Option.some.inj (show some _ = some s' from hs)
    have hok := hS.fine.chs _ (p.mem_iff.2 (List.mem_cons_self ..))
    have h0 := hS.st.perm ((p.map (toCh P θ)).append_right [F])
    have h1 : St J w0 w (Ch.box (bk (hv θ h2)) T t.rep d :: (rest.map (toCh P θ) ++ [F])) := h0
    obtain ⟨cells, h1⟩ := St.box.1 h1
    let θ' := upd θ s.nxt (.agg cells.toArray)
    have hsame : Same s.nxt θ θ' := Same.upd
    have h3 := h1.perm (List.Perm.swap _ _ _)
    obtain ⟨k1, k2, k3, k4⟩ := cellsOwn_fine (P := P) (m := s.nxt) (θ := θ') (pth := fun j => [j]) (n := s.nxt + 1) (Nat.lt_succ_self _) t d 0 cells _ (fun i v hv' => by
      show vg (upd θ s.nxt (.agg cells.toArray) s.nxt) [0 + i] = v
      rw [upd_self, Nat.zero_add]
      exact vg_agg (by simpa using hv')) h3
    have hmem : ∀ e, e ∈ rest → e ∈ s.chs := fun e he => p.mem_iff.2 (List.mem_cons_of_mem _ he)
    have hnew : Newer s.nxt s.chs ((h2, s.nxt, .blk T (cellsOwn s.nxt (fun j => [j]) t d 0)) :: ((chsOwn s.nxt (fun j => [j]) t d 0).map (fun g => (g.1, s.nxt, g.2)) ++ rest)) := fun e he h' ver' c hs' => by
      rcases List.mem_cons.1 he with rfl | he
      · obtain ⟨rfl, hs'⟩ := hs'
        rcases hs' with ⟨h1, -⟩ | hs'
        · exact .inl (Nat.le_of_eq h1)
        · exact hs'.elim
      · rcases List.mem_append.1 he with he | he
        · obtain ⟨g, hg, rfl⟩ := List.mem_map.1 he
          rcases hs'.2 with ⟨h1, -⟩ | hs'
          · exact .inl (Nat.le_of_eq h1)
          · exact (easy_says (chsOwn_easy t d 0 g hg) hs').elim
        · exact .inr ⟨e, hmem e he, hs'⟩
    refine ⟨θ', ⟨hS.le, ?_, ?_, fun e he => AV.ok_same hsame (Nat.le_succ _) hnew (hS.fine.env e he) Hp.le.rfl, fun e he => Nat.lt_succ_of_lt (hS.fine.ver e he), hS.fine.nd, fun e he => ?_, hS.fine.lay⟩, Nat.le_succ _, hsame, fun e he _ => he, hnew⟩
    · show Agr n a (envL θ' s)
      rw [envL_same hsame hS.fine.env]; exact hS.agr
    · rw [List.map_cons, List.map_append, List.map_map]
      have e1 : toCh P θ' (h2, s.nxt, Chk.blk T (cellsOwn s.nxt (fun j => [j]) t d 0)) = Ch.blk (bk (hv θ h2)) cells T := by
        show Ch.blk (bk (hv θ' h2)) ((cellsOwn s.nxt (fun j => [j]) t d 0).map (·.v θ')) T = _
        rw [k2, hv_same hsame hok.1]
      rw [e1, map_toCh_same hsame fun e he => hS.fine.chs e (hmem e he)]
      have := k4.perm (List.perm_middle (l₁ := (chsOwn s.nxt (fun j => [j]) t d 0).map fun g => toCh P θ' (g.1, s.nxt, g.2)))
      rw [List.cons_append, List.append_assoc]
      exact this
    · rcases List.mem_cons.1 he with rfl | he
      · exact ⟨Nat.lt_succ_of_lt hok.1, Nat.lt_succ_self _, k1⟩
      · rcases List.mem_append.1 he with he | he
        · obtain ⟨g, hg, rfl⟩ := List.mem_map.1 he
          exact easy_ok (chsOwn_easy t d 0 g hg) (by rw [k3 g hg]; exact Nat.lt_succ_self _) (Nat.lt_succ_self _)
        · exact okE_same hsame (Nat.le_succ _) hnew (hS.fine.chs e (hmem e he)) Hp.le.rfl
  | _ => cases hs
end
def boxHdrs : List Ent → List Hdr
  | [] => []
  | (h, _, .box _ _ _) :: l => h :: boxHdrs l
  | _ :: l => boxHdrs l
def openL : List Hdr → Sg → Sg
  | [], s => s
  | h :: hs, s => openL hs (match openH h s with
    | some s' => s'
    | none => s)
def openA (s : Sg) : Sg := openL (boxHdrs s.chs) s

/-! ### Trees frozen -/
def hasOwn (h : Hdr) : LV → Bool
  | .own h' => Hdr.beq h' h
  | _ => false
def LV.frz (h : Hdr) (t : Ty) (d : t.den) (x : LV) : LV := match hasOwn h x with
  | true => .rd h t d
  | false => x
def AV.frz (h : Hdr) (t : Ty) (d : t.den) : AV → Option AV
  | .one x => match hasOwn h x with
    | true => some (.one (.rd h t d))
    | false => none
  | .agg xs => match xs.any (hasOwn h) with
    | true => some (.agg (xs.map (LV.frz h t d)))
    | false => none
  | .tup ys => match ys.any fun y => y.2.any (hasOwn h) with
    | true => some (.tup (ys.map fun y => (y.1, y.2.map (LV.frz h t d))))
    | false => none
  | _ => none
def frzE (h : Hdr) (t : Ty) (d : t.den) (k : Nat) (e : Ent) : Ent := match e.2.2 with
  | .blk T cells => match cells.any (hasOwn h) with
    | true => (e.1, k, .blk T (cells.map (LV.frz h t d)))
    | false => e
  | _ => e
def isPtrH (h : Hdr) (y : AV) (x : AV) : Option AV := match x with
  | .one (.ptr h' off) => match Hdr.beq h' h && Nat.beq off 0 with
    | true => some y
    | false => none
  | _ => none
section
variable {P : Program} {J J' : Hp} {w0 : World} {n m k : Nat} {θ : Th} {h : Hdr} {t : Ty} {d : t.den} {chs : List Ent}
theorem hasOwn_eq {x : LV} (hx : hasOwn h x = true) : x = .own h := by
  unfold hasOwn at hx
  split at hx
  · rw [Hdr.beq_eq hx]
  · cases hx
theorem LV.frz_v (x : LV) : (x.frz h t d).v θ = x.v θ := by
  unfold LV.frz
  split
  · rename_i hx; rw [hasOwn_eq hx]; rfl
  · rfl
theorem LV.frz_ok {x : LV} (hx : x.ok P w0 J θ n) (hn : n ≤ m) (hJ : J.le J') (hh : h.id < m) (hr : t.rep.rd J' [hv θ h] d) : (x.frz h t d).ok P w0 J' θ m := by
  unfold LV.frz
  split
  · exact ⟨hh, hr⟩
  · exact LV.ok_same Same.rfl hn hx hJ
theorem frz_map (xs : List LV) : (xs.map (LV.frz h t d)).map (·.v θ) = xs.map (·.v θ) := by
  rw [List.map_map]
  exact List.map_congr_left fun x _ => LV.frz_v x
theorem frz_part (y : Bool × List LV) : partV θ (y.1, y.2.map (LV.frz h t d)) = partV θ y := by
  obtain ⟨b, l⟩ := y
  unfold partV
  dsimp only
  rw [frz_map]
  cases b with
  | true => rfl
  | false =>
    cases l with
    | nil => rfl
    | cons x l => exact LV.frz_v x
theorem AV.frz_ok {x y : AV} (hy : x.frz h t d = some y) (hx : x.ok P w0 J θ n chs) {chs' : List Ent} (hn : n ≤ m) (hJ : J.le J') (hh : h.id < m) (hr : t.rep.rd J' [hv θ h] d) : y.ok P w0 J' θ m chs' ∧ y.v θ = x.v θ := by
  unfold AV.frz at hy
  split at hy
  · split at hy
    · rename_i hb
      obtain rfl := Option.some.inj hy
      rw [hasOwn_eq hb]
      exact ⟨⟨hh, hr⟩, rfl⟩
    · cases hy
  · split at hy
    · obtain rfl := Option.some.inj hy
      refine ⟨fun z hz => ?_, ?_⟩
      · obtain ⟨z0, hz0, rfl⟩ := List.mem_map.1 hz
        exact LV.frz_ok (hx z0 hz0) hn hJ hh hr
      · show Value.agg _ = Value.agg _
        rw [frz_map]
    · cases hy
  · split at hy
    · obtain rfl := Option.some.inj hy
      refine ⟨fun z hz => ?_, ?_⟩
      · obtain ⟨z0, hz0, rfl⟩ := List.mem_map.1 hz
        intro u hu
        obtain ⟨u0, hu0, rfl⟩ := List.mem_map.1 hu
        exact LV.frz_ok (hx z0 hz0 u0 hu0) hn hJ hh hr
      · show Value.tuple _ = Value.tuple _
        rw [List.map_map]
        congr 2
        exact List.map_congr_left fun z _ => frz_part z
    · cases hy
  · cases hy
theorem frzE_toCh (e : Ent) : toCh P θ (frzE h t d k e) = toCh P θ e := by
  obtain ⟨h1, v, c⟩ := e
  unfold frzE
  split
  · rename_i T cells heq
    split
    · show Ch.blk _ ((cells.map _).map _) _ = _
      rw [frz_map]
      obtain rfl : c = .blk T cells := heq
      rfl
    · rfl
  · rfl
theorem frzE_says {e : Ent} {h' : Hdr} {ver : Nat} {c : Chk} (hs : Says (frzE h t d k e) h' ver c) : ver = k ∨ Says e h' ver c := by
  unfold frzE at hs
  split at hs
  · split at hs
    · rcases hs.2 with ⟨h1, -⟩ | h1
      · exact .inl h1.symm
      · exact h1.elim
    · exact .inr hs
  · exact .inr hs
theorem frzE_newer {l : List Ent} : Newer k l (l.map (frzE h t d k)) := fun e he h' ver c hs => by
  obtain ⟨e0, he0, rfl⟩ := List.mem_map.1 he
  rcases frzE_says hs with h1 | h1
  · exact .inl (Nat.le_of_eq h1.symm)
  · exact .inr ⟨e0, he0, h1⟩
theorem frzE_ok {e : Ent} (he : okE P w0 J θ n chs e) {chs' : List Ent} (hc : Newer n chs chs') (hn : n < m) (hJ : J.le J') (hh : h.id < m) (hr : t.rep.rd J' [hv θ h] d) : okE P w0 J' θ m chs' (frzE h t d n e) := by
  have h0 := okE_same Same.rfl (Nat.le_of_lt hn) hc he hJ
  unfold frzE
  split
  · rename_i T cells heq
    split
    · obtain ⟨h1, v, c⟩ := e
      obtain rfl : c = .blk T cells := heq
      exact ⟨h0.1, hn, fun x hx => by
        obtain ⟨x0, hx0, rfl⟩ := List.mem_map.1 hx
        exact LV.frz_ok (he.2.2 x0 hx0) (Nat.le_of_lt hn) hJ hh hr⟩
    · exact h0
  · exact h0
end
abbrev Trs := List (TypeId × TypeId × Ty)
def trOf (l : Trs) (T : TypeId) : Option (TypeId × Ty) := match l with
  | [] => none
  | (U, x) :: l => if Nat.beq U T then some x else trOf l T
def frzTy (tr : Trs) : Ty → Bool
  | .tree _ _ _ => true
  | .sl E _ => match trOf tr E with
    | some q => Nat.beq q.1 0
    | none => false
  | _ => false
def frzOwn (tr : Trs) (h : Hdr) (s : Sg) : Option Sg := (pull h s.chs).bind fun r => match r.1.2.2 with
  | .own t d => match frzTy tr t with
    | true => some ⟨replE (AV.frz h t d) (s.nxt + 1) s.env, r.2.map (frzE h t d s.nxt), s.nxt + 1 + s.env.length⟩
    | false => none
  | _ => none
def kidsOf (T E : TypeId) (t : Ty) (x : LV) (chs : List Ent) : Option (List (Tr t.den) × List Ent × List Ent) := match x with
  | .own h => (rowOf h chs).bind fun r => (castTy (.sl r.E r.t) (.sl E (.tree T E t)) r.xs).bind fun ks => some (ks, [r.ent h], r.rest)
  | x => (lvSl E (.tree T E t) x).bind fun ks => some (ks, [], chs)
def frzPtr (tr : Trs) (h : Hdr) (s : Sg) : Option Sg := (blkOf h s.chs).bind fun b => (trOf tr b.T).bind fun q => (rdData q.2 b.cells).bind fun a => match a.2 with
  | [kid] => (kidsOf b.T q.1 q.2 kid b.rest).bind fun ks => some ⟨replE (isPtrH h (.one (.rd ⟨s.nxt, []⟩ (.tree b.T q.1 q.2) (.node a.1 ks.1)))) (s.nxt + 1) s.env, ks.2.2, s.nxt + 1 + s.env.length⟩
  | _ => none
section
variable {P : Program} {I J : Hp} {w0 w : World} {F : Ch} {n : Nat} {θ : Th} {s s' : Sg} {a : Act} {h : Hdr}
theorem newer_sub {m : Nat} {chs chs' : List Ent} (h : ∀ e, e ∈ chs' → e ∈ chs) : Newer m chs chs' := fun e he h' ver c hs => .inr ⟨e, h e he, hs⟩
theorem frzOwn_ok {tr : Trs} (hs : frzOwn tr h s = some s') (hS : Sim P I w0 F n J θ s a w) : ∃ J', J.le J' ∧ Sim P I w0 F n J' θ s' a w ∧ Fr s θ s' θ := by
  obtain ⟨r, hr, hs⟩ := bind_some hs
  obtain ⟨p, k⟩ := pull_ok hr
  obtain ⟨⟨h2, ver, c⟩, rest⟩ := r
  obtain rfl : h2 = h := k
  cases c with
  | own t d =>
    have hs : (match frzTy tr t with
      | true => some (⟨replE (AV.frz h2 t d) (s.nxt + 1) s.env, rest.map (frzE h2 t d s.nxt), s.nxt + 1 + s.env.length⟩ : Sg)
      | false => none) = some s' := hs
    split at hs
    · obtain rfl := Option.some.inj (show some _ = some s' from hs)
      have hok := hS.fine.chs _ (p.mem_iff.2 (List.mem_cons_self ..))
      have h1 : St J w0 w (Ch.own t.rep [hv θ h2] d :: (rest.map (toCh P θ) ++ [F])) := hS.st.perm ((p.map (toCh P θ)).append_right [F])
      obtain ⟨J', hJ, hrd, hst⟩ := h1.freeze
      have hmem : ∀ e, e ∈ rest → e ∈ s.chs := fun e he => p.mem_iff.2 (List.mem_cons_of_mem _ he)
      have hnew : Newer s.nxt s.chs (rest.map (frzE h2 t d s.nxt)) := fun e he h' ver c hs => by
        rcases frzE_newer e he h' ver c hs with h1 | ⟨e0, he0, h1⟩
        · exact .inl h1
        · exact .inr ⟨e0, hmem e0 he0, h1⟩
      refine ⟨J', hJ, hS.repl Same.rfl hJ ?_ hnew (fun e he => ?_) fun e he x hx => AV.frz_ok hx (hS.fine.env e he) (Nat.le_succ _) hJ (Nat.lt_succ_of_lt hok.1) hrd⟩
      · rw [List.map_map, List.map_congr_left fun e _ => (show (toCh P θ ∘ frzE h2 t d s.nxt) e = toCh P θ e from frzE_toCh e)]
        exact hst
      · obtain ⟨e0, he0, rfl⟩ := List.mem_map.1 he
        exact frzE_ok (hS.fine.chs e0 (hmem e0 he0)) hnew (Nat.lt_succ_self _) hJ (Nat.lt_succ_of_lt hok.1) hrd
    · cases hs
  | _ => cases hs
theorem frzPtr_ok {tr : Trs} (hs : frzPtr tr h s = some s') (hS : Sim P I w0 F n J θ s a w) : ∃ J' θ', J.le J' ∧ Sim P I w0 F n J' θ' s' a w ∧ Fr s θ s' θ' := by
  obtain ⟨b, hb, hs⟩ := bind_some hs
  obtain ⟨⟨E, t⟩, hq, hs⟩ := bind_some hs
  obtain ⟨c, hc, hs⟩ := bind_some hs
  have p := blkOf_ok hb
  have hok := hS.fine.chs _ (p.mem_iff.2 (List.mem_cons_self ..))
  have hcells : ∀ x ∈ b.cells, x.ok P w0 J θ s.nxt := hok.2.2
  obtain ⟨c1, e1, k1⟩ := rdData_ok (J := J) (θ := θ) hc hcells
  split at hs
  · rename_i kid hkid
    obtain ⟨ks, hks, hs⟩ := bind_some hs
    obtain rfl := Option.some.inj hs
    have h0 := hS.st.perm ((p.map (toCh P θ)).append_right [F])
    have h1 : St J w0 w (Ch.blk (bk (hv θ h)) (b.cells.map (·.v θ)) b.T :: (b.rest.map (toCh P θ) ++ [F])) := h0
    have hcv : b.cells.map (·.v θ) = c1.map (·.v θ) ++ [kid.v θ] := by rw [e1, hkid, List.map_append]; rfl
    let θ' := upd θ s.nxt (.pointer (some ⟨bk (hv θ h), 0, none⟩))
    have hsame : Same s.nxt θ θ' := Same.upd
    -- the kids
    have key : ∃ J1, J.le J1 ∧ (Ty.sl E (.tree b.T E t)).rep.rd J1 [kid.v θ] ks.1 ∧ St J1 w0 w (Ch.blk (bk (hv θ h)) (b.cells.map (·.v θ)) b.T :: (ks.2.2.map (toCh P θ) ++ [F])) ∧ ∀ e, e ∈ ks.2.2 → e ∈ b.rest := by
      unfold kidsOf at hks
      split at hks
      · rename_i hk
        obtain ⟨r, hr, hks⟩ := bind_some hks
        obtain ⟨xs, hxs, hks⟩ := bind_some hks
        obtain rfl := Option.some.inj hks
        obtain ⟨pr, -⟩ := rowOf_ok hr
        have h2 : St J w0 w (Ch.own (Ty.sl r.E r.t).rep [hv θ hk] r.xs :: Ch.blk (bk (hv θ h)) (b.cells.map (·.v θ)) b.T :: (r.rest.map (toCh P θ) ++ [F])) := by
          refine (h1.perm ?_ : St J w0 w _)
          have := ((pr.map (toCh P θ)).append_right [F]).cons (Ch.blk (bk (hv θ h)) (b.cells.map (·.v θ)) b.T)
          exact this.trans (List.Perm.swap _ _ _)
        obtain ⟨J1, hJ1, hrd, hst⟩ := h2.freeze
        exact ⟨J1, hJ1, castTy_rd hxs hrd, hst, fun e he => pr.mem_iff.2 (List.mem_cons_of_mem _ he)⟩
      · obtain ⟨xs, hxs, hks⟩ := bind_some hks
        obtain rfl := Option.some.inj hks
        exact ⟨J, Hp.le.rfl, lvSl_ok hxs (hcells kid (by rw [e1, hkid]; simp)), h1, fun e he => he⟩
    obtain ⟨J1, hJ1, hk1, hst1, hm1⟩ := key
    obtain ⟨J2, hJ2, hb2, hst2⟩ := hst1.freeze_blk
    have hJ : J.le J2 := hJ1.trans hJ2
    have hmem : ∀ e, e ∈ ks.2.2 → e ∈ s.chs := fun e he => p.mem_iff.2 (List.mem_cons_of_mem _ (hm1 e he))
    have hnew : Newer s.nxt s.chs ks.2.2 := newer_sub hmem
    have hpv : hv θ' ⟨s.nxt, []⟩ = .pointer (some ⟨bk (hv θ h), 0, none⟩) := upd_self
    refine ⟨J2, θ', hJ, hS.repl hsame hJ ?_ hnew (fun e he => okE_same hsame (Nat.le_succ _) hnew (hS.fine.chs e (hmem e he)) hJ) fun e he x hx => ?_⟩
    · rw [map_toCh_same hsame fun e he => hS.fine.chs e (hmem e he)]
      exact hst2
    · unfold isPtrH at hx
      split at hx
      · rename_i h' off heq
        split at hx
        · rename_i hp
          obtain rfl := Option.some.inj hx
          rw [Bool.and_eq_true] at hp
          refine ⟨⟨Nat.lt_succ_self _, ?_⟩, ?_⟩
          · rw [hpv]
            rw [hcv] at hb2
            exact tree_node hb2 (Rep.rd_mono _ k1 hJ) (Rep.rd_mono _ hk1 hJ2)
          · rw [heq, Hdr.beq_eq hp.1, Nat.eq_of_beq_eq_true hp.2]
            exact hpv
        · cases hx
      · cases hx
  · cases hs
end
def orS (x : Option Sg) (s : Sg) : Sg := match x with
  | some s' => s'
  | none => s
def frzL (tr : Trs) : List (Bool × Hdr) → Sg → Sg
  | [], s => s
  | (true, h) :: hs, s => frzL tr hs (orS (frzPtr tr h s) s)
  | (false, h) :: hs, s => frzL tr hs (orS (frzOwn tr h s) s)
section
variable {P : Program} {I J : Hp} {w0 w : World} {F : Ch} {n : Nat} {θ : Th} {s s' : Sg} {a : Act}
theorem openL_ok : ∀ {hs : List Hdr} {s : Sg} {θ : Th}, Sim P I w0 F n J θ s a w → ∃ θ', Sim P I w0 F n J θ' (openL hs s) a w ∧ Fr s θ (openL hs s) θ'
  | [], s, θ, hS => ⟨θ, hS, Fr.rfl⟩
  | h :: hs, s, θ, hS => by
    unfold openL
    split
    · rename_i s' he
      obtain ⟨θ1, S1, F1⟩ := openH_ok he hS
      obtain ⟨θ2, S2, F2⟩ := openL_ok (hs := hs) S1
      exact ⟨θ2, S2, F1.trans F2⟩
    · exact openL_ok hS
theorem openA_ok (hS : Sim P I w0 F n J θ s a w) : ∃ θ', Sim P I w0 F n J θ' (openA s) a w ∧ Fr s θ (openA s) θ' := openL_ok hS
theorem frzL_ok {tr : Trs} : ∀ {hs : List (Bool × Hdr)} {s : Sg} {J : Hp} {θ : Th}, Sim P I w0 F n J θ s a w → ∃ J' θ', J.le J' ∧ Sim P I w0 F n J' θ' (frzL tr hs s) a w ∧ Fr s θ (frzL tr hs s) θ'
  | [], s, J, θ, hS => ⟨J, θ, Hp.le.rfl, hS, Fr.rfl⟩
  | (true, h) :: hs, s, J, θ, hS => by
    unfold frzL
    cases he : frzPtr tr h s with
    | some s' =>
      obtain ⟨J1, θ1, L1, S1, F1⟩ := frzPtr_ok he hS
      obtain ⟨J2, θ2, L2, S2, F2⟩ := frzL_ok (hs := hs) S1
      exact ⟨J2, θ2, L1.trans L2, S2, F1.trans F2⟩
    | none => exact frzL_ok hS
  | (false, h) :: hs, s, J, θ, hS => by
    unfold frzL
    cases he : frzOwn tr h s with
    | some s' =>
      obtain ⟨J1, L1, S1, F1⟩ := frzOwn_ok he hS
      obtain ⟨J2, θ2, L2, S2, F2⟩ := frzL_ok (hs := hs) S1
      exact ⟨J2, θ2, L1.trans L2, S2, F1.trans F2⟩
    | none => exact frzL_ok hS
end
end Go.Proofs.YtfkjjnddefojjaaGreatDoor.R
/- The end of an own row pushed down over its middle, and cells made zero. No program text is named here. -/
set_option linter.unusedVariables false
set_option linter.unusedSimpArgs false
set_option linter.unnecessarySimpa false
namespace Go.Proofs.YtfkjjnddefojjaaGreatDoor.D
open Go.RowKit

section
variable {P : Program} {I J : Hp} {w0 w w' : World} {cs C : List Ch} {o : Oper} {ev : Operand → Value}
theorem els_of_rd {α : Type} {R : Rep α} (hC : Cpy R R) : ∀ {xs : List α} {cur : List Value}, (∀ i x, xs[i]? = some x → ∃ c : List Value, c.length = R.size ∧ (∀ j, j < R.size → cur[i * R.size + j]? = c[j]?) ∧ R.rd I c x) → OwnEls R I w cur xs []
  | [], cur, _ => rfl
  | x :: xs, cur, h => by
    obtain ⟨c, c1, c2, c3⟩ := h 0 x rfl
    refine ⟨c, cur.drop R.size, [], [], ?_, c1, rfl, hC c3, els_of_rd hC fun i y hy => ?_⟩
    · apply List.ext_getElem?
      intro j
      by_cases hj : j < R.size
      · have := c2 j hj
        rw [Nat.zero_mul, Nat.zero_add] at this
        rw [this, List.getElem?_append_left (by omega)]
      · rw [List.getElem?_append_right (by omega), List.getElem?_drop]; congr 1; omega
    · obtain ⟨d, d1, d2, d3⟩ := h (i + 1) y (by simpa using hy)
      refine ⟨d, d1, fun j hj => ?_, d3⟩
      rw [List.getElem?_drop, ← d2 j hj, Nat.add_mul]; congr 1; omega
end
end Go.Proofs.YtfkjjnddefojjaaGreatDoor.D
/- Own rows written in their place: parts pushed, made zero, filled. No program text is named here. -/
set_option linter.unusedVariables false
set_option linter.unusedSimpArgs false
set_option linter.unnecessarySimpa false
namespace Go.Proofs.YtfkjjnddefojjaaGreatDoor.D
open Go.RowKit

section
variable {P : Program} {I J : Hp} {w0 w w' : World} {cs C : List Ch} {o : Oper} {ev : Operand → Value}
theorem row_at {α : Type} {E : TypeId} {R : Rep α} (hSh : R.Sh) {k : Nat} (hR : R.size = k) {g ofs n cap : Nat} {xs : List α} (h : St I w0 w (Ch.own (rSlice E R) [.slice (some ⟨g, ofs, none⟩) n cap] xs :: C)) :
    n = xs.length ∧ xs.length ≤ cap ∧ cap ≤ maxLen ∧ ∃ cur, w.heap[g]? = some (.cells cur E (0, 0)) ∧ ofs + cap * k ≤ cur.size ∧ ∀ (i : Nat) x, xs[i]? = some x → ∃ c : List Value, c.length = k ∧ (∀ j, j < k → (cur.toList.drop ofs)[i * k + j]? = c[j]?) ∧ R.rd I c x := by
  obtain ⟨hb, hi, F, ⟨G, K, rfl, ⟨hl, e2⟩, e3⟩, h4, h5⟩ := h
  rcases e2 with ⟨hv, rfl, rfl⟩ | ⟨g', ofs', cap', cur, K1, hv, k1, k2, k3, k4, rfl, k5⟩
  · simp at hv
  · simp only [List.cons.injEq, Value.slice.injEq, Option.some.injEq, Addr.mk.injEq, and_true] at hv
    obtain ⟨⟨rfl, rfl⟩, rfl, rfl⟩ := hv
    obtain rfl := k5.sh hSh
    have hat := fun i x hx => k5.at Hp.le.rfl (by simp) i x hx
    rw [hR] at hat k4
    exact ⟨rfl, k2, k3, cur, k1, k4, hat⟩
theorem row_set {α : Type} {E : TypeId} {R : Rep α} (hSh : R.Sh) (hC : Cpy R R) {k : Nat} (hR : R.size = k) {g ofs n cap p cnt : Nat} {xs zs : List α} {news : List Value} (hn : news.length = cnt * k) (hfit : p + cnt ≤ cap) (hz : zs.length ≤ cap) (hlim : zs.length ≤ lim)
    (hnew : ∀ i z, zs[i]? = some z → (p ≤ i ∧ i < p + cnt ∧ ∃ c : List Value, c.length = k ∧ (∀ j, j < k → news[(i - p) * k + j]? = c[j]?) ∧ R.rd I c z) ∨ ((i < p ∨ p + cnt ≤ i) ∧ xs[i]? = some z))
    (h : St I w0 w (Ch.own (rSlice E R) [.slice (some ⟨g, ofs, none⟩) n cap] xs :: C)) : St I w0 (w.setCells g (ofs + p * k) news) (Ch.own (rSlice E R) [.slice (some ⟨g, ofs, none⟩) zs.length cap] zs :: C) := by
  obtain ⟨hb, hi, F, ⟨G, K, rfl, ⟨hl, e2⟩, e3⟩, h4, h5⟩ := h
  rcases e2 with ⟨hv, rfl, rfl⟩ | ⟨g', ofs', cap', cur, K1, hv, k1, k2, k3, k4, rfl, k5⟩
  · simp at hv
  · simp only [List.cons.injEq, Value.slice.injEq, Option.some.injEq, Addr.mk.injEq, and_true] at hv
    obtain ⟨⟨rfl, rfl⟩, rfl, rfl⟩ := hv
    obtain rfl := k5.sh hSh
    have hat := fun i x hx => k5.at Hp.le.rfl (by simp) i x hx
    rw [hR] at hat k4
    have hln : cur.toList.length = cur.size := Array.length_toList
    have m0 : (p + cnt) * k = p * k + cnt * k := Nat.add_mul _ _ _
    have m1 : (p + cnt) * k ≤ cap * k := Nat.mul_le_mul_right _ hfit
    have hroom : ofs + p * k + news.length ≤ cur.size := by omega
    obtain ⟨o1, o2, o3, o4, o5⟩ := setCells_other g news (ofs + p * k) w
    have hrow := setCells_row news (ofs + p * k) w cur hroom k1
    have hgK : g ∉ K := by rw [List.cons_append] at h4; simpa using (List.nodup_cons.1 h4).1
    have key : ∀ q, ((cur.toList.take (ofs + p * k) ++ news ++ cur.toList.drop (ofs + p * k + news.length)).toArray.toList.drop ofs)[q]? = if p * k ≤ q ∧ q < p * k + cnt * k then news[q - p * k]? else (cur.toList.drop ofs)[q]? := by
      intro q
      rw [List.getElem?_drop]
      show (cur.toList.take (ofs + p * k) ++ news ++ cur.toList.drop (ofs + p * k + news.length))[ofs + q]? = _
      have htl : (cur.toList.take (ofs + p * k)).length = ofs + p * k := by rw [List.length_take]; omega
      by_cases c1 : q < p * k
      · rw [if_neg (by omega), List.append_assoc, List.getElem?_append_left (by omega), List.getElem?_take, if_pos (by omega), List.getElem?_drop]
      · by_cases c2 : q < p * k + cnt * k
        · rw [if_pos (by omega), List.append_assoc, List.getElem?_append_right (by omega), htl, List.getElem?_append_left (by omega)]
          congr 1; omega
        · rw [if_neg (by omega), List.getElem?_append_right (by rw [List.length_append]; omega), List.length_append, htl, hn, List.getElem?_drop, List.getElem?_drop]
          congr 1; omega
    refine ⟨⟨o1.trans hb.1, o2.trans hb.2.1, o3.trans hb.2.2.1, by rw [o4]; exact hb.2.2.2⟩, fun q u hq => ?_, [g] ++ K, ⟨[g], K, rfl, ⟨hlim, .inr ⟨g, ofs, cap, _, [], rfl, hrow, hz, k3, ?_, rfl, els_of_rd hC fun i x hx => ?_⟩⟩, e3.stay fun q hq => o5 q fun e => hgK (e ▸ hq)⟩, h4, h5⟩
    · show (w.setCells g (ofs + p * k) _).heap[q]? = some u
      rw [o5 q fun e => by rw [e, h5 g (by simp)] at hq; cases hq]
      exact hi q u hq
    · rw [hR]; simp only [List.size_toArray, List.length_append, List.length_take, List.length_drop, hln]; omega
    · rw [hR]
      rcases hnew i x hx with ⟨n1, n2, c, c1, c2, c3⟩ | ⟨n1, n2⟩
      · refine ⟨c, c1, fun j hj => ?_, c3⟩
        have a1 : p * k ≤ i * k := Nat.mul_le_mul_right _ n1
        have a2 : i * k + k ≤ p * k + cnt * k := by rw [← Nat.succ_mul, ← Nat.add_mul]; exact Nat.mul_le_mul_right _ n2
        have a3 : (i - p) * k = i * k - p * k := Nat.sub_mul _ _ _
        rw [key, if_pos (by omega), ← c2 j hj, a3]
        congr 1; omega
      · obtain ⟨c, c1, c2, c3⟩ := hat i x n2
        refine ⟨c, c1, fun j hj => ?_, c3⟩
        have a1 : i * k + k ≤ p * k ∨ p * k + cnt * k ≤ i * k := by
          rcases n1 with n1 | n1
          · left; rw [← Nat.succ_mul]; exact Nat.mul_le_mul_right _ n1
          · right; rw [← Nat.add_mul]; exact Nat.mul_le_mul_right _ n1
        rw [key, if_neg (by omega)]
        exact c2 j hj
def pCells (cur : Array Value) (ofs k j m : Nat) : List Value := ((cur.toList.drop ofs).drop (j * k)).take ((m - j) * k)
theorem pCells_len {cur : Array Value} {ofs k j m cap : Nat} (h : ofs + cap * k ≤ cur.size) (hj : j ≤ m) (hm : m ≤ cap) : (pCells cur ofs k j m).length = (m - j) * k := by
  have m1 : m * k ≤ cap * k := Nat.mul_le_mul_right _ hm
  have m2 : (m - j) * k = m * k - j * k := Nat.sub_mul _ _ _
  have m3 : j * k ≤ m * k := Nat.mul_le_mul_right _ hj
  unfold pCells
  rw [List.length_take, List.length_drop, List.length_drop, Array.length_toList]; omega
theorem pCells_get {cur : Array Value} {ofs k j m q : Nat} (hq : q < (m - j) * k) : (pCells cur ofs k j m)[q]? = (cur.toList.drop ofs)[j * k + q]? := by
  unfold pCells
  rw [List.getElem?_take, if_pos hq, List.getElem?_drop]
theorem pCells_one {α : Type} {R : Rep α} {xs : List α} {cur : Array Value} {ofs k j m : Nat} (hk : 0 < k) (hm : m ≤ xs.length) (hat : ∀ (i : Nat) x, xs[i]? = some x → ∃ c : List Value, c.length = k ∧ (∀ j, j < k → (cur.toList.drop ofs)[i * k + j]? = c[j]?) ∧ R.rd I c x) : ∀ u ∈ pCells cur ofs k j m, u.oneCell' = true := by
  intro u hu
  obtain ⟨q, hq⟩ := List.getElem?_of_mem hu
  have hq' := (List.getElem?_eq_some_iff.1 hq).1
  have hq2 : q < (m - j) * k := by
    unfold pCells at hq'
    rw [List.length_take] at hq'; omega
  rw [pCells_get hq2] at hq
  have m2 : (m - j) * k = m * k - j * k := Nat.sub_mul _ _ _
  have m1 : m * k ≤ xs.length * k := Nat.mul_le_mul_right _ hm
  have hqn : (j * k + q) / k < xs.length := by rw [Nat.div_lt_iff_lt_mul hk]; omega
  obtain ⟨c, c1, c2, c3⟩ := hat _ _ (List.getElem?_eq_getElem hqn)
  have := c2 ((j * k + q) % k) (Nat.mod_lt _ hk)
  rw [Nat.div_add_mod', hq] at this
  exact R.rd_one c3 u (List.mem_of_getElem? this.symm)
theorem cell_at {g ofs : Nat} {cur : Array Value} {E : TypeId} {fr : Nat × Nat} (h : w.heap[g]? = some (.cells cur E fr)) (q : Nat) : w.cell? ⟨g, ofs + q, none⟩ = (cur.toList.drop ofs)[q]? := by
  simp [World.cell?, h]
def slideM {α : Type} (xs : List α) (i j m : Nat) : List α := xs.take i ++ (((xs.take m).drop j) ++ xs.drop (i + (m - j)))
theorem slideM_length {α : Type} {xs : List α} {i j m : Nat} (h1 : i ≤ j) (h2 : j ≤ m) (h3 : m ≤ xs.length) : (slideM xs i j m).length = xs.length := by
  simp only [slideM, List.length_append, List.length_take, List.length_drop]; omega
theorem slideM_get {α : Type} {xs : List α} {i j m q : Nat} (h1 : i ≤ j) (h2 : j ≤ m) (h3 : m ≤ xs.length) : (slideM xs i j m)[q]? = if i ≤ q ∧ q < i + (m - j) then xs[j + (q - i)]? else xs[q]? := by
  have hi : (xs.take i).length = i := by rw [List.length_take]; omega
  have hm : ((xs.take m).drop j).length = m - j := by rw [List.length_drop, List.length_take]; omega
  unfold slideM
  by_cases c1 : q < i
  · rw [if_neg (by omega), List.getElem?_append_left (by omega), List.getElem?_take, if_pos c1]
  · rw [List.getElem?_append_right (by omega), hi]
    by_cases c2 : q < i + (m - j)
    · rw [if_pos (by omega), List.getElem?_append_left (by omega), List.getElem?_drop, List.getElem?_take, if_pos (by omega)]
    · rw [if_neg (by omega), List.getElem?_append_right (by omega), hm, List.getElem?_drop]; congr 1; omega
theorem opT_append_vw {α : Type} {E T : TypeId} {R : Rep α} {z : Value} {n b : Nat} {x y : Operand} {g ofs cap len i j m c : Nat} {a : Addr} {xs : List α} (hSh : R.Sh) (hC : Cpy R R) (hT : P.underlying T = some (.slice E)) (hE : TZ P E z n b) (hn : 0 < n) (hR : R.size = n)
    (ho : o.op = .call { callee := .builtin .append, args := #[x, y], argTypes := #[T, T] }) (hx : ev x = .slice (some ⟨g, ofs, none⟩) i cap) (hy : ev y = .slice (some a) (m - j) c) (ha : j < m → a = ⟨g, ofs + j * n, none⟩) (hij : i ≤ j) (hj : j ≤ m) (hm : m ≤ xs.length) :
    OpT P I w0 o ev [Ch.own (rSlice E R) [.slice (some ⟨g, ofs, none⟩) len cap] xs] (· = .slice (some ⟨g, ofs, none⟩) (i + (m - j)) cap) (fun _ => [Ch.own (rSlice E R) [.slice (some ⟨g, ofs, none⟩) len cap] (slideM xs i j m)]) := by
  intro w C hs
  obtain ⟨info, hi', hz, hsize, hby⟩ := info_parts hE
  obtain ⟨rfl, r1, r2, cur, r3, r4, hat⟩ := row_at hSh hR hs
  have hln := pCells_len (k := n) (j := j) r4 hj (Nat.le_trans hm r1)
  have m1 : xs.length * n ≤ cap * n := Nat.mul_le_mul_right _ r1
  have m2 : i * n ≤ j * n := Nat.mul_le_mul_right _ hij
  have m3 : (m - j) * n = m * n - j * n := Nat.sub_mul _ _ _
  have m4 : j * n ≤ m * n := Nat.mul_le_mul_right _ hj
  have m5 : m * n ≤ xs.length * n := Nat.mul_le_mul_right _ hm
  have hcl : (cur.toList.drop ofs).length = cur.size - ofs := by rw [List.length_drop, Array.length_toList]
  have hrun := run_append_room_cells (P := P) w T o.type E info hT hi' g ofs i cap a (m - j) c (pCells cur ofs n j m) (by rw [hsize]; exact hln) (fun q u hq => by
    have hq' := (List.getElem?_eq_some_iff.1 hq).1
    rw [hln] at hq'
    rw [pCells_get hq'] at hq
    by_cases hjm : j < m
    · rw [ha hjm]; simp only [Addr.add_mid]; rw [Nat.add_assoc, cell_at r3]; exact hq
    · rw [show m - j = 0 from by omega] at hq'; omega) (pCells_one hn hm hat) (by omega) (fun q hq => by
    rw [hln] at hq
    rw [hsize, Nat.add_assoc, cell_at r3, List.getElem?_eq_getElem (by rw [hcl]; omega)]; rfl) (fun q _ => by simp [World.frozen?, r3])
  rw [hsize] at hrun
  rw [run_call_append ho hx hy hrun]
  have hsl := slideM_length (xs := xs) hij hj hm
  have hxl := (hs.hd 0 rfl).2
  have := row_set (zs := slideM xs i j m) hSh hC hR (p := i) (cnt := m - j) hln (by omega) (by omega) (by omega) (fun q u hq => by
    rw [slideM_get hij hj hm] at hq
    by_cases c1 : i ≤ q ∧ q < i + (m - j)
    · rw [if_pos c1] at hq
      obtain ⟨c, d1, d2, d3⟩ := hat _ _ hq
      refine .inl ⟨c1.1, c1.2, c, d1, fun t ht => ?_, d3⟩
      have e1 : (q - i) * n + n ≤ (m - j) * n := by rw [← Nat.succ_mul]; exact Nat.mul_le_mul_right _ (by omega)
      rw [pCells_get (by omega), ← d2 t ht, Nat.add_mul]
      congr 1; omega
    · rw [if_neg c1] at hq
      exact .inr ⟨by omega, hq⟩) hs
  rw [hsl] at this
  exact ⟨rfl, this⟩
theorem run_clear_cells (w : World) (t e ty : TypeId) (z : Value) (ht : P.underlying t = some (.slice e)) (hv : (zeroValue e).run P w = .ok z w) (b o n c : Nat) (hn : 0 < n)
    (hc : ∀ j, j < (Builtin.zeroCells z.cells n).toList.length → (w.cell? ⟨b, o + j, none⟩).isSome = true) (hf : ∀ j, j < (Builtin.zeroCells z.cells n).toList.length → w.frozen? ⟨b, o + j, none⟩ = false) (h1 : ∀ v ∈ (Builtin.zeroCells z.cells n).toList, v.oneCell' = true) :
    (Builtin.clear_ #[t] ty #[.slice (some ⟨b, o, none⟩) n c]).run P w = .ok (.tuple #[]) (w.setCells b o (Builtin.zeroCells z.cells n).toList) := by
  have hst := run_storeCells_cells (P := P) b o (Builtin.zeroCells z.cells n).toList 0 w (by simpa using hc) (by simpa using hf) h1
  simp only [Nat.add_zero] at hst
  obtain ⟨m, rfl⟩ : ∃ m, n = m + 1 := ⟨n - 1, by omega⟩
  simp [Builtin.clear_, run_underlying ht, hv, hst]
theorem run_clear_empty (w : World) (t e ty : TypeId) (ht : P.underlying t = some (.slice e)) (a : Option Addr) (c : Nat) : (Builtin.clear_ #[t] ty #[.slice a 0 c]).run P w = .ok (.tuple #[]) w := by
  cases a <;> simp [Builtin.clear_, run_underlying ht]
theorem run_call_clear {x : Operand} {T : TypeId} {v r : Value} {w w' : World} (ho : o.op = .call { callee := .builtin .clear, args := #[x], argTypes := #[T] }) (hx : ev x = v) (hr : (Builtin.clear_ #[T] o.type #[v]).run P w = .ok r w') : (execOp ev o).run P w = .ok (.value r) w' := by
  simp only [execOp, ho, resolve, invoke, builtin, Sem.run_bind, Sem.run_pure, Result.andThen_ok, List.map_toArray, List.map_cons, List.map_nil, hx, hr]
theorem zeroCells_len {zc : Array Value} {n : Nat} : (Builtin.zeroCells zc n).toList.length = n * zc.size := by simp [Builtin.zeroCells]
theorem zeroCells_get {zc : Array Value} {n i j : Nat} (hi : i < n) (hj : j < zc.size) : (Builtin.zeroCells zc n).toList[i * zc.size + j]? = zc.toList[j]? := by
  have h1 : i * zc.size + j < n * zc.size := by
    have : i * zc.size + zc.size ≤ n * zc.size := by rw [← Nat.succ_mul]; exact Nat.mul_le_mul_right _ hi
    omega
  have h2 : (i * zc.size + j) % zc.size = j := by rw [Nat.add_comm, Nat.add_mul_mod_self_right, Nat.mod_eq_of_lt hj]
  simp [Builtin.zeroCells, h1, h2, hj]
def zeroM {α : Type} (xs : List α) (l m : Nat) (z : α) : List α := xs.take l ++ (List.replicate (m - l) z ++ xs.drop m)
theorem zeroM_length {α : Type} {xs : List α} {l m : Nat} {z : α} (h1 : l ≤ m) (h2 : m ≤ xs.length) : (zeroM xs l m z).length = xs.length := by
  simp only [zeroM, List.length_append, List.length_take, List.length_drop, List.length_replicate]; omega
theorem zeroM_get {α : Type} {xs : List α} {l m q : Nat} {z : α} (h1 : l ≤ m) (h2 : m ≤ xs.length) : (zeroM xs l m z)[q]? = if l ≤ q ∧ q < m then some z else xs[q]? := by
  have hi : (xs.take l).length = l := by rw [List.length_take]; omega
  unfold zeroM
  by_cases c1 : q < l
  · rw [if_neg (by omega), List.getElem?_append_left (by omega), List.getElem?_take, if_pos c1]
  · rw [List.getElem?_append_right (by omega), hi]
    by_cases c2 : q < m
    · rw [if_pos (by omega), List.getElem?_append_left (by rw [List.length_replicate]; omega), List.getElem?_replicate, if_pos (by omega)]
    · rw [if_neg (by omega), List.getElem?_append_right (by rw [List.length_replicate]; omega), List.length_replicate, List.getElem?_drop]; congr 1; omega
theorem opT_clear_vw {α : Type} {E T : TypeId} {R : Rep α} {z : Value} {zd : α} {n b : Nat} {x : Operand} {g ofs cap len l m c : Nat} {a : Addr} {xs : List α} (hSh : R.Sh) (hC : Cpy R R) (hT : P.underlying T = some (.slice E)) (hE : TZ P E z n b) (hn : 0 < n) (hR : R.size = n) (hzs : z.cells.size = n) (hzd : R.rd I z.cells.toList zd)
    (ho : o.op = .call { callee := .builtin .clear, args := #[x], argTypes := #[T] }) (hx : ev x = .slice (some a) (m - l) c) (ha : l < m → a = ⟨g, ofs + l * n, none⟩) (hl : l ≤ m) (hm : m ≤ xs.length) :
    OpT P I w0 o ev [Ch.own (rSlice E R) [.slice (some ⟨g, ofs, none⟩) len cap] xs] (fun _ => True) (fun _ => [Ch.own (rSlice E R) [.slice (some ⟨g, ofs, none⟩) len cap] (zeroM xs l m zd)]) := by
  intro w C hs
  obtain ⟨rfl, r1, r2, cur, r3, r4, hat⟩ := row_at hSh hR hs
  by_cases hlm : l = m
  · subst hlm
    rw [Nat.sub_self] at hx
    rw [run_call_clear ho hx (run_clear_empty w T E o.type hT _ _)]
    refine ⟨trivial, ?_⟩
    have : zeroM xs l l zd = xs := by simp [zeroM]
    rw [this]; exact hs
  · have hlt : l < m := by omega
    rw [ha hlt] at hx
    have m1 : xs.length * n ≤ cap * n := Nat.mul_le_mul_right _ r1
    have m3 : (m - l) * n = m * n - l * n := Nat.sub_mul _ _ _
    have m4 : l * n ≤ m * n := Nat.mul_le_mul_right _ hl
    have m5 : m * n ≤ xs.length * n := Nat.mul_le_mul_right _ hm
    have hcl : (cur.toList.drop ofs).length = cur.size - ofs := by rw [List.length_drop, Array.length_toList]
    have hL : (Builtin.zeroCells z.cells (m - l)).toList.length = (m - l) * n := by rw [zeroCells_len, hzs]
    have hone : ∀ v ∈ (Builtin.zeroCells z.cells (m - l)).toList, v.oneCell' = true := by
      intro v hv'
      simp only [Builtin.zeroCells, Array.toList_map, List.mem_map] at hv'
      obtain ⟨q, -, rfl⟩ := hv'
      have hq : q % z.cells.size < z.cells.size := Nat.mod_lt _ (by omega)
      rw [getElem!_pos z.cells _ hq]
      exact R.rd_one hzd _ (by simp)
    have hrun := run_clear_cells (P := P) w T E o.type z hT (hE.run_zero w) g (ofs + l * n) (m - l) c (by omega) (fun q hq => by
      rw [hL] at hq
      rw [Nat.add_assoc, cell_at r3, List.getElem?_eq_getElem (by rw [hcl]; omega)]; rfl) (fun q _ => by simp [World.frozen?, r3]) hone
    rw [run_call_clear ho hx hrun]
    have hsl := zeroM_length (xs := xs) (z := zd) hl hm
    have hxl := (hs.hd 0 rfl).2
    have := row_set (zs := zeroM xs l m zd) hSh hC hR (p := l) (cnt := m - l) hL (by omega) (by omega) (by omega) (fun q u hq => by
      rw [zeroM_get hl hm] at hq
      by_cases c1 : l ≤ q ∧ q < m
      · rw [if_pos c1] at hq
        obtain rfl := Option.some.inj hq
        refine .inl ⟨c1.1, by omega, z.cells.toList, by rw [Array.length_toList, hzs], fun t ht => ?_, hzd⟩
        rw [← hzs, zeroCells_get (by omega) (by omega)]
      · rw [if_neg c1] at hq
        exact .inr ⟨by omega, hq⟩) hs
    rw [hsl] at this
    exact ⟨trivial, this⟩
end
end Go.Proofs.YtfkjjnddefojjaaGreatDoor.D
/- Parts of own rows, looked at; rows written through them. No program text is named here. -/
set_option linter.unusedVariables false
set_option linter.unusedSimpArgs false
set_option linter.unnecessarySimpa false
set_option linter.unusedSectionVars false
namespace Go.Proofs.YtfkjjnddefojjaaGreatDoor.R
open Go.RowKit
open Go.Proofs.YtfkjjnddefojjaaGreatDoor.D

/-! ### Values -/
theorem Vw.hd {u v : Value} {k n : Nat} {l m : Int} (h : Vw u v k n l m) : ∃ a c, u = .slice a (m.toNat - l.toNat) c ∧ 0 ≤ l ∧ l ≤ m := by
  rcases h with ⟨-, rfl, -, rfl, rfl⟩ | ⟨g, ofs, cap, x, -, rfl, h1, h2, -⟩
  · exact ⟨_, _, rfl, Int.le_refl _, Int.le_refl _⟩
  · exact ⟨_, _, rfl, h1, h2⟩
theorem Vw.one {u v : Value} {k n : Nat} {l m : Int} (h : Vw u v k n l m) : u.oneCell' = true := by
  obtain ⟨a, c, rfl, _⟩ := h.hd; rfl
theorem vw_self {I : Hp} {w0 w : World} {C : List Ch} {α : Type} {E : TypeId} {R : Rep α} {v : Value} {xs : List α} {k : Nat} (h : St I w0 w (Ch.own (rSlice E R) [v] xs :: C)) : Vw v v k xs.length 0 xs.length := by
  obtain ⟨hb, hi, F, ⟨G, K, rfl, ⟨hl, e2⟩, e3⟩, h4, h5⟩ := h
  rcases e2 with ⟨hv, rfl, rfl⟩ | ⟨g, ofs, cap, cur, K1, hv, k1, k2, k3, k4, rfl, k5⟩
  · obtain rfl : v = .slice none 0 0 := by simpa using hv
    exact .inl ⟨rfl, rfl, rfl, rfl, rfl⟩
  · obtain rfl : v = .slice (some ⟨g, ofs, none⟩) xs.length cap := by simpa using hv
    exact .inr ⟨g, ofs, cap, 0, rfl, by simp, by omega, by omega, k2, by omega, Nat.zero_le _, .inr (by simp)⟩
theorem vw_len {I : Hp} {w0 w : World} {C : List Ch} {α : Type} {E : TypeId} {R : Rep α} {u v : Value} {xs : List α} {k n : Nat} {l m : Int} (h : St I w0 w (Ch.own (rSlice E R) [v] xs :: C)) (hv : Vw u v k n l m) : n = xs.length := by
  have h1 := vw_self (k := k) h
  rcases hv with ⟨rfl, -, rfl, -, -⟩ | ⟨g, ofs, cap, x, rfl, -, -⟩ <;> rcases h1 with ⟨e, -, q, -, -⟩ | ⟨g', ofs', cap', x', e, -, -⟩
  · exact q.symm
  · cases e
  · cases e
  · injection e
theorem vw_slice {u v w : Value} {k n : Nat} {l m a c : Int} (h : Vw u v k n l m) (h1 : 0 ≤ a) (h2 : a ≤ c) (h3 : l + c ≤ (n : Int) ∨ c ≤ m - l) {ao : Option Addr} {len cap : Nat} (hu : u = .slice ao len cap) (hw : w = sliced ao a.toNat c.toNat cap k) : Vw w v k n (l + a) (l + c) := by
  rcases h with ⟨rfl, rfl, rfl, rfl, rfl⟩ | ⟨g, ofs, cp, x, rfl, rfl, q1, q2, q3, q4, q5, q6⟩
  · obtain rfl : a = 0 := by simp only [Int.zero_add] at h3; omega
    obtain rfl : c = 0 := by simp only [Int.zero_add] at h3; omega
    injection hu with e1 e2 e3
    subst e1; subst e3
    exact .inl ⟨rfl, by rw [hw]; simp [sliced], rfl, rfl, rfl⟩
  · injection hu with e1 e2 e3
    subst e1; subst e3
    subst hw
    have t1 : (l + a).toNat = l.toNat + a.toNat := by omega
    have t2 : (l + c).toNat - (l + a).toNat = c.toNat - a.toNat := by omega
    have t3 : (l.toNat + a.toNat) * k = l.toNat * k + a.toNat * k := Nat.add_mul _ _ _
    by_cases hc : cp - l.toNat = a.toNat
    · refine .inr ⟨g, ofs, cp, x, rfl, ?_, by omega, by omega, q3, by omega, by rw [t1, t3]; omega, .inl (by omega)⟩
      simp only [sliced, hc, if_true, t2]
      congr 1; omega
    · refine .inr ⟨g, ofs, cp, x + a.toNat * k, rfl, ?_, by omega, by omega, q3, by omega, by rw [t1, t3]; omega, ?_⟩
      · simp only [sliced, hc, if_false, t2, Option.map_some, Addr.add_mid, Nat.add_assoc]
        congr 1; omega
      · rcases q6 with q6 | q6
        · exfalso; omega
        · right; rw [t1, t3, q6]

/-! ### Operations -/
def oI (ev : Operand → Value) : Option Operand → Option Int → Prop
  | none, none => True
  | some x, some m => ev x = .int .i64 m
  | _, _ => False
section
variable {P : Program} {I : Hp} {w0 : World} {o : Oper} {ev : Operand → Value}
theorem opT_sliceV {t e : TypeId} {x : Operand} {lo hi : Option Operand} {ml mh : Option Int} {ao : Option Addr} {len cap n : Nat} {agg : Bool} (hT : P.underlying t = some (.slice e)) (hE : TI P e agg n) (ho : o.op = .slice t x lo hi none) (hx : ev x = .slice ao len cap) (hl : oI ev lo ml) (hh : oI ev hi mh) (hlc : len ≤ cap)
    (h1 : 0 ≤ ml.getD 0) (h2 : ml.getD 0 ≤ mh.getD len) (h3 : mh.getD len ≤ (cap : Int)) :
    OpT P I w0 o ev [] (· = sliced ao (ml.getD 0).toNat (mh.getD len).toNat cap n) (fun _ => []) := by
  have he : P.elem t = e := by simp [Program.elem, hT]
  have hT' : P.underlying t = some (.slice (P.elem t)) := by rw [he]; exact hT
  refine opT_val fun w => ?_
  have hs := TI.size hE w
  rw [← he] at hs
  cases lo with
  | none =>
    cases ml with
    | some _ => exact hl.elim
    | none =>
      cases hi with
      | none =>
        cases mh with
        | some _ => exact hh.elim
        | none =>
          simp only [execOp, ho, hx, Option.map_some, Option.map_none, Sem.run_bind, run_sliceAt_slice w t _ _ _ _ hT', run_slice_all w t ao len cap hT', hs, Result.andThen_ok]
          simp
      | some hi =>
        cases mh with
        | none => exact hh.elim
        | some mh =>
          have hh : ev hi = .int .i64 mh := hh
          simp only [execOp, ho, hx, Option.map_some, Option.map_none, hh, Sem.run_bind, run_sliceAt_slice w t _ _ _ _ hT', run_slice_h w t ao len cap hT' .i64 mh (by simp at h1 h2; omega) h3, hs, Result.andThen_ok]
          rfl
  | some lo =>
    cases ml with
    | none => exact hl.elim
    | some ml =>
      have hl : ev lo = .int .i64 ml := hl
      cases hi with
      | none =>
        cases mh with
        | some _ => exact hh.elim
        | none =>
          simp only [execOp, ho, hx, Option.map_some, Option.map_none, hl, Sem.run_bind, run_sliceAt_slice w t _ _ _ _ hT', run_slice_l w t ao len cap hT' .i64 ml h1 h2, hs, Result.andThen_ok]
          rfl
      | some hi =>
        cases mh with
        | none => exact hh.elim
        | some mh =>
          have hh : ev hi = .int .i64 mh := hh
          simp only [execOp, ho, hx, Option.map_some, Option.map_none, hl, hh, Sem.run_bind, run_sliceAt_slice w t _ _ _ _ hT', run_slice_lh w t ao len cap hT' .i64 .i64 ml mh h1 h2 h3, hs, Result.andThen_ok]
          rfl
theorem opT_slice3 {t e : TypeId} {x y z q : Operand} {ml mh mx : Int} {ao : Option Addr} {len cap n : Nat} {agg : Bool} (hT : P.underlying t = some (.slice e)) (hE : TI P e agg n) (ho : o.op = .slice t x (some y) (some z) (some q)) (hx : ev x = .slice ao len cap) (hl : ev y = .int .i64 ml) (hh : ev z = .int .i64 mh) (hq : ev q = .int .i64 mx)
    (h1 : 0 ≤ ml) (h2 : ml ≤ mh) (h3 : mh ≤ mx) (h4 : mx ≤ (cap : Int)) :
    OpT P I w0 o ev [] (fun _ => True) (fun _ => []) := by
  have he : P.elem t = e := by simp [Program.elem, hT]
  have hT' : P.underlying t = some (.slice (P.elem t)) := by rw [he]; exact hT
  refine OpT.weak (opT_val (v := sliced ao ml.toNat mh.toNat mx.toNat n) fun w => ?_) (fun _ _ => trivial) (fun _ _ => rfl)
  have hs := TI.size hE w
  rw [← he] at hs
  simp only [execOp, ho, hx, Option.map_some, hl, hh, hq, Sem.run_bind, run_sliceAt_slice w t _ _ _ _ hT', run_slice_lhm w t ao len cap hT' .i64 .i64 .i64 ml mh mx h1 h2 h3 h4, hs, Result.andThen_ok]
  rfl
end

/-! ### Steps -/
def zeroR : (t : Ty) → List Value → Option t.den
  | .raw, [v] => if h : v.oneCell' = true then some (⟨v, h⟩ : Raw) else none
  | .prod .raw b, v :: cs => if h : v.oneCell' = true then (zeroR b cs).bind fun d => some ((⟨v, h⟩ : Raw), d) else none
  | _, _ => none
theorem zeroR_ok {J : Hp} : ∀ {t : Ty} {cs : List Value} {d : t.den}, zeroR t cs = some d → t.rep.rd J cs d := by
  intro t
  induction t with
  | raw =>
    intro cs d h
    match cs, h with
    | [], h => cases h
    | _ :: _ :: _, h => cases h
    | [v], h =>
      by_cases hv' : v.oneCell' = true
      · have h : (if h : v.oneCell' = true then some (⟨v, h⟩ : Raw) else none) = some d := h
        rw [dif_pos hv'] at h
        obtain rfl := Option.some.inj h; rfl
      · have h : (if h : v.oneCell' = true then some (⟨v, h⟩ : Raw) else none) = some d := h
        rw [dif_neg hv'] at h; cases h
  | prod a b iha ihb =>
    intro cs d h
    cases a with
    | raw =>
      cases cs with
      | nil => cases h
      | cons v cs =>
        unfold zeroR at h
        split at h
        · obtain ⟨d', hd, h⟩ := Option.bind_eq_some_iff.1 h
          obtain rfl := Option.some.inj h
          exact ⟨[v], cs, rfl, rfl, ihb hd⟩
        · cases h
    | _ => cases cs <;> cases h
  | _ => intro cs d h; cases cs <;> cases h
def zeroF (e t : Ty) : Option t.den := match castTy e t (zeroD e) with
  | some z => some z
  | none => zeroR t (zeroCells e)
theorem zeroF_ok {e t : Ty} {z : t.den} (h : zeroF e t = some z) (J : Hp) : t.rep.rd J (zeroCells e) z := by
  unfold zeroF at h
  split at h
  · rename_i hz
    obtain rfl := Option.some.inj h
    exact castTy_rd hz (zero_rd e J)
  · exact zeroR_ok h
structure Vb where
  x : Bool
  h : Hdr
  k : Nat
  l : Int
  m : Int
  r : Row
section
variable {Y : Type} (tt : TT) (s : Sg) (k : Res → Option Y)
def vbIn (chs : List Ent) (x : Operand) : Option Vb := match opd s x with
  | some (.one (.own h)) => (rowOf h chs).bind fun r => some ⟨false, h, r.t.size, 0, (r.xs.length : Int), r⟩
  | some (.vw u h k n l m) => (rowOf h chs).bind fun r => chkT (Nat.beq k r.t.size) (some ⟨false, h, k, l, m, r⟩)
  | some (.xv top u h k n l m) => match rowOf u chs with
    | some r => chkT (Nat.beq k r.t.size) (some ⟨false, u, k, 0, (r.xs.length : Int), r⟩)
    | none => (rowOf h chs).bind fun r => chkT (Nat.beq k r.t.size) (some ⟨true, h, k, l, m, r⟩)
  | _ => none
def vbOf (x : Operand) : Option Vb := vbIn s s.chs x
def loV (x : Option Operand) (d : Int) (k : Int → Option Y) : Option Y := match x with
  | none => k d
  | some x => (asI s x).bind k
def sSliceA (T : TypeId) (x : Operand) (lo hi : Option Operand) : Option Y := (td tt T).bind fun d => d.el.bind fun E' => (td tt E').bind fun e => (vbOf s x).bind fun b => chkT (Nat.beq e.n b.k) (loV s lo 0 fun ml => loV s hi (b.m - b.l) fun mh =>
  match b.x with
  | false => (chk (0 ≤ ml ∧ ml ≤ mh ∧ b.l + mh ≤ (b.r.xs.length : Int))).bind fun _ => k ⟨[b.r.ent b.h], [], b.r.rest, [], .vw ⟨s.nxt, []⟩ b.h b.k b.r.xs.length (b.l + ml) (b.l + mh)⟩
  | true => (chk (0 ≤ ml ∧ ml ≤ mh ∧ mh ≤ b.m - b.l)).bind fun _ => k ⟨[b.r.ent b.h], [], b.r.rest, [], .xv false ⟨s.nxt, []⟩ b.h b.k b.r.xs.length (b.l + ml) (b.l + mh)⟩)
def sSlice3 (T : TypeId) (x y z q : Operand) : Option Y := (td tt T).bind fun d => d.el.bind fun E' => (td tt E').bind fun e => (vbOf s x).bind fun b => chkT (Nat.beq e.n b.k) ((asI s y).bind fun ml => (asI s z).bind fun mh => (asI s q).bind fun mx =>
  (chk (0 ≤ ml ∧ ml ≤ mh ∧ mh ≤ mx ∧ b.l + mx ≤ (b.r.xs.length : Int))).bind fun _ => k ⟨[b.r.ent b.h], [], b.r.rest, [], .any ⟨s.nxt, []⟩⟩)
def sLenV (T : TypeId) (x : Operand) : Option Y := (td tt T).bind fun d => match d.el, opd s x with
  | some _, some (.vw u h k' n l m) => k (.pure s (.one (.val (.int .i64 (m - l)))))
  | some _, some (.xv _ u h k' n l m) => k (.pure s (.one (.val (.int .i64 (m - l)))))
  | _, _ => none
def sIndexV (T : TypeId) (x i : Operand) : Option Y := (td tt T).bind fun d => d.el.bind fun E => (td tt E).bind fun e => (vbOf s x).bind fun b => chkT (Nat.beq e.n b.k) ((asI s i).bind fun i => (chk (0 ≤ i ∧ i < b.m - b.l)).bind fun _ => (getI b.r.xs (b.l + i)).bind fun a => k ⟨[b.r.ent b.h], [], b.r.rest, [], .elo b.h b.r.ver b.r.E b.r.t b.r.xs a (b.l + i) 0⟩)
def sAppV (T : TypeId) (x y : Operand) : Option Y := (td tt T).bind fun d => d.el.bind fun E => (td tt E).bind fun e => e.bytes.bind fun _ => (vbOf s x).bind fun b => (vbOf s y).bind fun c =>
  chkT (Nat.beq e.n b.k && Hdr.beq c.h b.h && Nat.beq b.r.E E && b.r.t.sh) ((chk (b.l = 0 ∧ b.m ≤ c.l ∧ c.l ≤ c.m ∧ c.m ≤ (b.r.xs.length : Int))).bind fun _ => k ⟨[], [b.r.ent b.h], b.r.rest, [(b.h, .own (.sl b.r.E b.r.t) (slideM b.r.xs b.m.toNat c.l.toNat c.m.toNat))], .vw ⟨s.nxt, []⟩ b.h b.k b.r.xs.length 0 (b.m + (c.m - c.l))⟩)
def sClearV (T : TypeId) (x : Operand) : Option Y := (td tt T).bind fun d => d.el.bind fun E => (td tt E).bind fun e => e.bytes.bind fun _ => (vbOf s x).bind fun b =>
  chkT (Nat.beq e.n b.k && Nat.beq b.r.E E && b.r.t.sh) ((zeroF e.ty b.r.t).bind fun z => (chk (b.l ≤ b.m ∧ b.m ≤ (b.r.xs.length : Int))).bind fun _ => k ⟨[], [b.r.ent b.h], b.r.rest, [(b.h, .own (.sl b.r.E b.r.t) (zeroM b.r.xs b.l.toNat b.m.toNat z))], .any ⟨s.nxt, []⟩⟩)
end
section
variable {Y : Type} {tt : TT} {s : Sg} {k : Res → Option Y} {P : Program} {w0 : World} {o : Oper} {res : Y} {x y : Operand}
theorem vbIn_ok {chs : List Ent} {b : Vb} (h : vbIn s chs x = some b) : rowOf b.h chs = some b.r ∧ b.k = b.r.t.size ∧ ∀ {J : Hp} {θ : Th}, Fine P w0 J θ s → ∀ {w : World} {C : List Ch} {xs : List b.r.t.den}, xs.length = b.r.xs.length → St J w0 w (Ch.own (rSlice b.r.E b.r.t.rep) [hv θ b.h] xs :: C) → Vw (evL (envL θ s) x) (hv θ b.h) b.k b.r.xs.length b.l b.m := by
  unfold vbIn at h
  split at h
  · rename_i hh hx
    obtain ⟨r, hr, h⟩ := bind_some h
    obtain rfl := Option.some.inj h
    refine ⟨hr, rfl, fun {J θ} hf {w C xs} hl hs => ?_⟩
    have h1 := vw_self (k := r.t.size) hs
    rw [hl] at h1
    show Vw (evL (envL θ s) x) (hv θ hh) r.t.size r.xs.length 0 _
    rw [opd_ev (θ := θ) hx]
    exact h1
  · rename_i u hh k' n l m hx
    obtain ⟨r, hr, h⟩ := bind_some h
    obtain ⟨hk, h⟩ := chkT_ok h
    have hk := Nat.eq_of_beq_eq_true hk
    obtain rfl := Option.some.inj h
    refine ⟨hr, hk, fun {J θ} hf {w C xs} hl hs => ?_⟩
    have hxo : u.id < s.nxt ∧ hh.id < s.nxt ∧ Vw (hv θ u) (hv θ hh) k' n l m ∧ m ≤ (n : Int) := opd_ok hf hx
    have h1 := hxo.2.2.1
    obtain rfl := vw_len hs h1
    show Vw (evL (envL θ s) x) (hv θ hh) k' r.xs.length l m
    rw [opd_ev (θ := θ) hx, ← hl]
    exact h1
  · rename_i top u hh k' n l m hx
    split at h
    · rename_i r hr
      obtain ⟨hk, h⟩ := chkT_ok h
      have hk := Nat.eq_of_beq_eq_true hk
      obtain rfl := Option.some.inj h
      refine ⟨hr, hk, fun {J θ} hf {w C xs} hl hs => ?_⟩
      have h1 := vw_self (k := k') hs
      rw [hl] at h1
      show Vw (evL (envL θ s) x) (hv θ u) k' r.xs.length 0 _
      rw [opd_ev (θ := θ) hx]
      exact h1
    · obtain ⟨r, hr, h⟩ := bind_some h
      obtain ⟨hk, h⟩ := chkT_ok h
      have hk := Nat.eq_of_beq_eq_true hk
      obtain rfl := Option.some.inj h
      refine ⟨hr, hk, fun {J θ} hf {w C xs} hl hs => ?_⟩
      have hxo : u.id < s.nxt ∧ hh.id < s.nxt ∧ Vw (hv θ u) (hv θ hh) k' n l m ∧ (top = true → l = 0) := opd_ok hf hx
      have h1 := hxo.2.2.1
      obtain rfl := vw_len hs h1
      show Vw (evL (envL θ s) x) (hv θ hh) k' r.xs.length l m
      rw [opd_ev (θ := θ) hx, ← hl]
      exact h1
  · cases h
theorem vbOf_ok {b : Vb} (h : vbOf s x = some b) : rowOf b.h s.chs = some b.r ∧ b.k = b.r.t.size ∧ ∀ {J : Hp} {θ : Th}, Fine P w0 J θ s → ∀ {w : World} {C : List Ch} {xs : List b.r.t.den}, xs.length = b.r.xs.length → St J w0 w (Ch.own (rSlice b.r.E b.r.t.rep) [hv θ b.h] xs :: C) → Vw (evL (envL θ s) x) (hv θ b.h) b.k b.r.xs.length b.l b.m := vbIn_ok h
theorem loV_ok {Z : Type} {x : Option Operand} {d : Int} {k : Int → Option Z} {z : Z} (h : loV s x d k = some z) : ∃ m : Option Int, k (m.getD d) = some z ∧ ∀ θ, oI (evL (envL θ s)) x m := by
  unfold loV at h
  split at h
  · exact ⟨none, h, fun _ => trivial⟩
  · obtain ⟨q, hq, h⟩ := bind_some h
    exact ⟨some q, h, fun θ => asI_ok hq θ⟩
theorem good_vw {h : Hdr} {r : Row} {kk : Nat} {l m : Int} (hr : rowOf h s.chs = some r) (hm : m ≤ (r.xs.length : Int)) (hop : ∀ J θ, Fine P w0 J θ s → OpT P J w0 o (evL (envL θ s)) [toCh P θ (r.ent h)] (fun v => Vw v (hv θ h) kk r.xs.length l m) (fun _ => [toCh P θ (r.ent h)])) : Good P w0 s o ⟨[r.ent h], [], r.rest, [], .vw ⟨s.nxt, []⟩ h kk r.xs.length l m⟩ := by
  obtain ⟨hp, -⟩ := rowOf_ok hr
  refine ⟨perm1 hp, says_plain rfl, fun J θ hf => OpT.weak (hop J θ hf) (fun u hu => ?_) (fun u hu => rfl)⟩
  have hok := ent_ok hf hp
  refine ⟨⟨Nat.lt_succ_self _, Nat.lt_succ_of_lt hok.1, ?_, hm⟩, hv_new, fun g hg => by cases hg⟩
  rw [hv_new, show hv (upd θ s.nxt u) h = hv θ h from hv_same Same.upd hok.1]
  exact hu
theorem good_xv {top : Bool} {h : Hdr} {r : Row} {kk : Nat} {l m : Int} (hr : rowOf h s.chs = some r) (hm : top = true → l = 0) (hop : ∀ J θ, Fine P w0 J θ s → OpT P J w0 o (evL (envL θ s)) [toCh P θ (r.ent h)] (fun v => Vw v (hv θ h) kk r.xs.length l m) (fun _ => [toCh P θ (r.ent h)])) : Good P w0 s o ⟨[r.ent h], [], r.rest, [], .xv top ⟨s.nxt, []⟩ h kk r.xs.length l m⟩ := by
  obtain ⟨hp, -⟩ := rowOf_ok hr
  refine ⟨perm1 hp, says_plain rfl, fun J θ hf => OpT.weak (hop J θ hf) (fun u hu => ?_) (fun u hu => rfl)⟩
  have hok := ent_ok hf hp
  refine ⟨⟨Nat.lt_succ_self _, Nat.lt_succ_of_lt hok.1, ?_, hm⟩, hv_new, fun g hg => by cases hg⟩
  rw [hv_new, show hv (upd θ s.nxt u) h = hv θ h from hv_same Same.upd hok.1]
  exact hu
theorem sSliceA_ok (hT : TTok P tt) {T : TypeId} {lo hi : Option Operand} (ho : o.op = .slice T x lo hi none) (h : sSliceA tt s k T x lo hi = some res) : Oks P w0 s o k res := by
  obtain ⟨d, hd, h⟩ := bind_some h
  obtain ⟨E', hE, h⟩ := bind_some h
  obtain ⟨e, he, h⟩ := bind_some h
  obtain ⟨b, hb, h⟩ := bind_some h
  obtain ⟨hn, h⟩ := chkT_ok h
  have hn : e.n = b.k := Nat.eq_of_beq_eq_true hn
  obtain ⟨ml, h, hml⟩ := loV_ok h
  obtain ⟨mh, h, hmh⟩ := loV_ok h
  obtain ⟨hr, hk, hvw⟩ := vbOf_ok (P := P) (w0 := w0) hb
  have key : 0 ≤ ml.getD 0 → ml.getD 0 ≤ mh.getD (b.m - b.l) → (b.l + mh.getD (b.m - b.l) ≤ (b.r.xs.length : Int) ∨ mh.getD (b.m - b.l) ≤ b.m - b.l) → ∀ J θ, Fine P w0 J θ s → OpT P J w0 o (evL (envL θ s)) [toCh P θ (b.r.ent b.h)] (fun v => Vw v (hv θ b.h) b.k b.r.xs.length (b.l + ml.getD 0) (b.l + mh.getD (b.m - b.l))) (fun _ => [toCh P θ (b.r.ent b.h)]) := by
    intro c1 c2 c3 J θ hf w C hs
    have h1 := hvw hf rfl hs
    obtain ⟨ao, cap, hu, hl0, hlm⟩ := h1.hd
    have hcap : b.m.toNat - b.l.toNat ≤ cap ∧ b.l + cap ≥ b.r.xs.length := by
      rcases h1 with ⟨-, q, e1, e2, e3⟩ | ⟨g, ofs, cp, x', -, q, q1, q2, q3, q4, q5, q6⟩
      · rw [q] at hu; injection hu with _ _ e4
        exact ⟨by omega, by omega⟩
      · rw [q] at hu; injection hu with _ _ e4
        exact ⟨by omega, by omega⟩
    have e1 : mh.getD (b.m - b.l) = mh.getD ((b.m.toNat - b.l.toNat : Nat) : Int) := by
      cases mh with
      | none => show b.m - b.l = _; simp only [Option.getD_none]; omega
      | some _ => rfl
    rw [e1] at c2 c3
    have := opT_sliceV (P := P) (I := J) (w0 := w0) (ev := evL (envL θ s)) ((hT.get hd).el _ hE) (hT.get he).ti ho hu (hml θ) (hmh θ) hcap.1 c1 c2 (by omega) w (toCh P θ (b.r.ent b.h) :: C) hs
    refine this.imp fun v w' hv' => ⟨?_, hv'.2⟩
    rw [e1]
    exact vw_slice h1 c1 c2 c3 hu (by rw [hv'.1, hn])
  split at h
  · obtain ⟨u, hc, h⟩ := bind_some h
    obtain ⟨c1, c2, c3⟩ := chk_some hc
    exact ⟨_, h, good_vw hr c3 (key c1 c2 (.inl c3))⟩
  · obtain ⟨u, hc, h⟩ := bind_some h
    obtain ⟨c1, c2, c3⟩ := chk_some hc
    exact ⟨_, h, good_xv hr (fun e => by cases e) (key c1 c2 (.inr c3))⟩
theorem sSlice3_ok (hT : TTok P tt) {T : TypeId} {y z q : Operand} (ho : o.op = .slice T x (some y) (some z) (some q)) (h : sSlice3 tt s k T x y z q = some res) : Oks P w0 s o k res := by
  obtain ⟨d, hd, h⟩ := bind_some h
  obtain ⟨E', hE, h⟩ := bind_some h
  obtain ⟨e, he, h⟩ := bind_some h
  obtain ⟨b, hb, h⟩ := bind_some h
  obtain ⟨hn, h⟩ := chkT_ok h
  obtain ⟨ml, hml, h⟩ := bind_some h
  obtain ⟨mh, hmh, h⟩ := bind_some h
  obtain ⟨mx, hmx, h⟩ := bind_some h
  obtain ⟨u, hc, h⟩ := bind_some h
  obtain ⟨c1, c2, c3, c4⟩ := chk_some hc
  obtain ⟨hr, hk, hvw⟩ := vbOf_ok (P := P) (w0 := w0) hb
  obtain ⟨hp, -⟩ := rowOf_ok hr
  refine ⟨_, h, perm1 hp, says_plain rfl, fun J θ hf => OpT.weak (fact := fun _ => True) (gv := fun _ => [toCh P θ (b.r.ent b.h)]) (fun w C hs => ?_) (fun u hu => ⟨Nat.lt_succ_self _, hv_new, fun g hg => by cases hg⟩) (fun u hu => rfl)⟩
  have h1 := hvw hf rfl hs
  obtain ⟨ao, cap, hu, hl0, hlm⟩ := h1.hd
  have hcap : b.l + cap ≥ b.r.xs.length := by
    rcases h1 with ⟨-, q, e1, e2, e3⟩ | ⟨g, ofs, cp, x', -, q, q1, q2, q3, q4, q5, q6⟩
    · rw [q] at hu; injection hu with _ _ e4
      omega
    · rw [q] at hu; injection hu with _ _ e4
      omega
  exact opT_slice3 (P := P) (I := J) (w0 := w0) (ev := evL (envL θ s)) ((hT.get hd).el _ hE) (hT.get he).ti ho hu (asI_ok hml θ) (asI_ok hmh θ) (asI_ok hmx θ) c1 c2 c3 (by omega) w (toCh P θ (b.r.ent b.h) :: C) hs
theorem sLenV_ok (hT : TTok P tt) {T : TypeId} (ho : o.op = .call { callee := .builtin .len, args := #[x], argTypes := #[T] }) (h : sLenV tt s k T x = some res) : Oks P w0 s o k res := by
  obtain ⟨d, hd, h⟩ := bind_some h
  split at h
  · rename_i E u hh k' n l m he hx
    refine kv_ok h rfl fun J θ hf => ?_
    have hxo : u.id < s.nxt ∧ hh.id < s.nxt ∧ Vw (hv θ u) (hv θ hh) k' n l m ∧ m ≤ (n : Int) := opd_ok hf hx
    obtain ⟨a, c, e, h1, h2⟩ := hxo.2.2.1.hd
    have e2 : ((m.toNat - l.toNat : Nat) : Int) = m - l := by omega
    have := opT_len_s (P := P) (I := J) (w0 := w0) (o := o) (ev := evL (envL θ s)) ((hT.get hd).el _ he) ho ((opd_ev (θ := θ) hx).trans e)
    rw [e2] at this
    exact this
  · rename_i E top u hh k' n l m he hx
    refine kv_ok h rfl fun J θ hf => ?_
    have hxo : u.id < s.nxt ∧ hh.id < s.nxt ∧ Vw (hv θ u) (hv θ hh) k' n l m ∧ (top = true → l = 0) := opd_ok hf hx
    obtain ⟨a, c, e, h1, h2⟩ := hxo.2.2.1.hd
    have e2 : ((m.toNat - l.toNat : Nat) : Int) = m - l := by omega
    have := opT_len_s (P := P) (I := J) (w0 := w0) (o := o) (ev := evL (envL θ s)) ((hT.get hd).el _ he) ho ((opd_ev (θ := θ) hx).trans e)
    rw [e2] at this
    exact this
  · cases h
theorem sIndexV_ok (hT : TTok P tt) {T : TypeId} {i : Operand} (ho : o.op = .indexAddr T x i) (h : sIndexV tt s k T x i = some res) : Oks P w0 s o k res := by
  obtain ⟨d, hd, h⟩ := bind_some h
  obtain ⟨E', hE, h⟩ := bind_some h
  obtain ⟨e, he, h⟩ := bind_some h
  obtain ⟨b, hb, h⟩ := bind_some h
  obtain ⟨hn, h⟩ := chkT_ok h
  have hn : e.n = b.k := Nat.eq_of_beq_eq_true hn
  obtain ⟨iv, hi, h⟩ := bind_some h
  obtain ⟨u, hc, h⟩ := bind_some h
  obtain ⟨c1, c2⟩ := chk_some hc
  obtain ⟨a, ha, h⟩ := bind_some h
  obtain ⟨hr, hk, hvw⟩ := vbOf_ok (P := P) (w0 := w0) hb
  obtain ⟨hp, -⟩ := rowOf_ok hr
  refine ⟨_, h, perm1 hp, says_plain rfl, fun J θ hf => OpT.weak (fact := (· = pt (hv θ b.h) ((b.l + iv).toNat * b.r.t.size + 0))) (gv := fun _ => [toCh P θ (b.r.ent b.h)]) (fun w C hs => ?_) (fun u hu => ?_) (fun u hu => rfl)⟩
  · have h1 := hvw hf rfl hs
    have hT2 := (hT.get hd).el _ hE
    have hti := (hT.get he).ti
    rcases h1 with ⟨-, q, e1, e2, e3⟩ | ⟨g, ofs, cp, x', q0, q, q1, q2, q3, q4, q5, q6⟩
    · exfalso; omega
    · have hx' : x' = b.l.toNat * b.k := by
        rcases q6 with q6 | q6
        · exfalso; omega
        · exact q6
      subst hx'
      have hval : pt (hv θ b.h) ((b.l + iv).toNat * b.r.t.size + 0) = .pointer (some ⟨g, ofs + b.l.toNat * b.k + iv.toNat * e.n, none⟩) := by
        rw [q0]
        show Value.pointer (some ⟨g, ofs + ((b.l + iv).toNat * b.r.t.size + 0), none⟩) = _
        rw [show (b.l + iv).toNat = b.l.toNat + iv.toNat from by omega, ← hk, hn, Nat.add_mul]
        congr 3; omega
      rw [hval]
      have h2 : iv < ((b.m.toNat - b.l.toNat : Nat) : Int) := by omega
      have : OpT P J w0 o (evL (envL θ s)) [] (· = .pointer (some ⟨g, ofs + b.l.toNat * b.k + iv.toNat * e.n, none⟩)) (fun _ => []) := by
        refine opT_val fun w => ?_
        simp [execOp, ho, q, asI_ok hi θ, Instr.indexAt, asIntOf, run_underlying hT2, hti.run_size, c1, h2, Result.andThen, Addr.add_mid]
      exact this w (toCh P θ (b.r.ent b.h) :: C) hs
  · have hok := ent_ok hf hp
    refine ⟨⟨Nat.lt_succ_of_lt hok.1, ha, (rowOf_mem hr hok.2.1).newer (Res.newer (perm1 hp) (says_plain rfl J θ hf)) (Nat.le_succ _)⟩, ?_, fun g hg => by cases hg⟩
    rw [hu]
    show pt (hv (upd θ s.nxt _) b.h) _ = pt (hv θ b.h) _
    rw [show hv (upd θ s.nxt _) b.h = hv θ b.h from hv_same Same.upd hok.1]
theorem good_set {h : Hdr} {r : Row} {xs : List r.t.den} {av : AV} {fact : Th → Value → Prop} (hr : rowOf h s.chs = some r) (hop : ∀ J θ, Fine P w0 J θ s → OpT P J w0 o (evL (envL θ s)) [toCh P θ (r.ent h)] (fact θ) (fun _ => [Ch.own (rSlice r.E r.t.rep) [hv θ h] xs]))
    (hav : ∀ J θ u, Fine P w0 J θ s → fact θ u → h.id < s.nxt → av.ok P w0 J (upd θ s.nxt u) (s.nxt + 1) ((h, s.nxt, .own (.sl r.E r.t) xs) :: r.rest) ∧ av.v (upd θ s.nxt u) = u) : Good P w0 s o ⟨[], [r.ent h], r.rest, [(h, .own (.sl r.E r.t) xs)], av⟩ := by
  obtain ⟨hp, -⟩ := rowOf_ok hr
  refine ⟨perm2 hp, says_plain rfl, fun J θ hf => OpT.weak (hop J θ hf) (fun u hu => ?_) (fun u hu => ?_)⟩
  · have hok := ent_ok hf hp
    obtain ⟨q1, q2⟩ := hav J θ u hf hu hok.1
    refine ⟨q1, q2, fun g hg => ?_⟩
    obtain rfl := List.mem_singleton.1 hg
    exact ⟨Nat.lt_succ_of_lt hok.1, Nat.lt_succ_self _, trivial⟩
  · have hok := ent_ok hf hp
    show [Ch.own _ [hv θ h] xs] = [Ch.own _ [hv (upd θ s.nxt u) h] xs]
    rw [show hv (upd θ s.nxt u) h = hv θ h from hv_same Same.upd hok.1]
    rfl
theorem sAppV_ok (hT : TTok P tt) {T : TypeId} (ho : o.op = .call { callee := .builtin .append, args := #[x, y], argTypes := #[T, T] }) (h : sAppV tt s k T x y = some res) : Oks P w0 s o k res := by
  obtain ⟨d, hd, h⟩ := bind_some h
  obtain ⟨E, hE, h⟩ := bind_some h
  obtain ⟨e, he, h⟩ := bind_some h
  obtain ⟨by_, hby, h⟩ := bind_some h
  obtain ⟨b, hb, h⟩ := bind_some h
  obtain ⟨c, hcv, h⟩ := bind_some h
  obtain ⟨hn, h⟩ := chkT_ok h
  simp only [Bool.and_eq_true] at hn
  obtain ⟨⟨⟨n1, n2⟩, n3⟩, n4⟩ := hn
  have n1 : e.n = b.k := Nat.eq_of_beq_eq_true n1
  have n2 := Hdr.beq_eq n2
  have n3 : b.r.E = E := Nat.eq_of_beq_eq_true n3
  obtain ⟨u, hc, h⟩ := bind_some h
  obtain ⟨c1, c2, c3, c4⟩ := chk_some hc
  obtain ⟨hr, hk, hvw⟩ := vbOf_ok (P := P) (w0 := w0) hb
  obtain ⟨hr2, hk2, hvw2⟩ := vbOf_ok (P := P) (w0 := w0) hcv
  have hcr : c.r = b.r := by
    rw [n2] at hr2
    exact Option.some.inj (hr2.symm.trans hr)
  have hk3 : c.k = b.k := by rw [hk2, hk, hcr]
  have hdk := hT.get hd
  have hek := hT.get he
  obtain ⟨z, hz1, hz2, hz3⟩ := hek.zero by_ hby
  have hTE : P.underlying T = some (.slice b.r.E) := (hdk.el E hE).trans (by rw [n3])
  refine ⟨_, h, good_set (fact := fun θ v => Vw v (hv θ b.h) b.k b.r.xs.length 0 (b.m + (c.m - c.l))) hr (fun J θ hf => fun w C hs => ?_) (fun J θ u hf hu hlt => ⟨⟨Nat.lt_succ_self _, Nat.lt_succ_of_lt hlt, ?_, by omega⟩, hv_new⟩)⟩
  · have h1 := hvw hf rfl hs
    have h2 : Vw (evL (envL θ s) y) (hv θ b.h) b.k b.r.xs.length c.l c.m := by
      have := hvw2 hf rfl (xs := c.r.xs) (by rw [hcr, n2]; exact hs)
      rwa [hcr, n2, hk3] at this
    have hs' : St J w0 w (Ch.own (rSlice b.r.E b.r.t.rep) [hv θ b.h] b.r.xs :: C) := hs
    rcases h1 with ⟨q0, q, e1, e2, e3⟩ | ⟨g, ofs, cp, x', q0, q, q1, q2, q3, q4, q5, q6⟩
    · rcases h2 with ⟨p0, p, f1, f2, f3⟩ | ⟨g2, ofs2, cp2, y', p0, p, -⟩
      · have hx0 : b.r.xs = [] := List.eq_nil_of_length_eq_zero e1
        have hrun : (Builtin.append_ #[T, T] o.type #[.slice none 0 0, .slice none 0 0]).run P w = .ok (.slice none 0 0) w := by
          obtain ⟨info, hi', -, -, -⟩ := info_parts hz1
          rw [← n3] at hi'
          exact run_append_none hTE hi' (Nat.le_refl _)
        rw [run_call_append ho q p hrun]
        refine ⟨.inl ⟨q0, rfl, e1, rfl, by omega⟩, ?_⟩
        have : slideM b.r.xs b.m.toNat c.l.toNat c.m.toNat = b.r.xs := by rw [hx0]; simp [slideM]
        rw [this]
        exact hs
      · exfalso; rw [q0] at p0; cases p0
    · rcases h2 with ⟨p0, p, f1, f2, f3⟩ | ⟨g2, ofs2, cp2, y', p0, p, p1, p2, p3, p4, p5, p6⟩
      · exfalso; rw [q0] at p0; cases p0
      · rw [q0] at p0
        simp only [Value.slice.injEq, Option.some.injEq, Addr.mk.injEq, and_true, true_and] at p0
        obtain ⟨⟨rfl, rfl⟩, rfl⟩ := p0
        have hb0 : b.l.toNat = 0 := by omega
        have hx0 : x' = 0 := by rw [hb0, Nat.zero_mul] at q5; omega
        subst hx0
        rw [hb0, Nat.sub_zero, Nat.sub_zero, Nat.add_zero] at q
        rw [q0] at hs' ⊢
        have := opT_append_vw (P := P) (I := J) (w0 := w0) (o := o) (xs := b.r.xs) (ev := evL (envL θ s)) (Ty.sh_ok n4) (Ty.cpy n4) hTE (by rw [n3]; exact hz1) (by rw [n1, hk]; exact Ty.size_pos _) (b.r.t.rep_size.trans (hk.symm.trans n1.symm)) ho q p (fun hlt => ?_) (by omega) (by omega) (by omega) w C (by simpa using hs')
        · refine this.imp fun v w' hv' => ⟨?_, hv'.2⟩
          refine .inr ⟨g, ofs, cp, 0, rfl, ?_, by omega, by omega, q3, by omega, Nat.zero_le _, .inr (by simp)⟩
          rw [hv'.1]
          simp only [Nat.add_zero, Int.toNat_zero, Nat.sub_zero]
          congr 1; omega
        · rcases p6 with p6 | p6
          · exfalso; omega
          · rw [p6, n1]
  · rw [hv_new, show hv (upd θ s.nxt u) b.h = hv θ b.h from hv_same Same.upd hlt]
    exact hu
theorem sClearV_ok (hT : TTok P tt) {T : TypeId} (ho : o.op = .call { callee := .builtin .clear, args := #[x], argTypes := #[T] }) (h : sClearV tt s k T x = some res) : Oks P w0 s o k res := by
  obtain ⟨d, hd, h⟩ := bind_some h
  obtain ⟨E, hE, h⟩ := bind_some h
  obtain ⟨e, he, h⟩ := bind_some h
  obtain ⟨by_, hby, h⟩ := bind_some h
  obtain ⟨b, hb, h⟩ := bind_some h
  obtain ⟨hn, h⟩ := chkT_ok h
  simp only [Bool.and_eq_true] at hn
  obtain ⟨⟨n1, n3⟩, n4⟩ := hn
  have n1 : e.n = b.k := Nat.eq_of_beq_eq_true n1
  have n3 : b.r.E = E := Nat.eq_of_beq_eq_true n3
  obtain ⟨z, hz, h⟩ := bind_some h
  obtain ⟨u, hc, h⟩ := bind_some h
  obtain ⟨c3, c4⟩ := chk_some hc
  obtain ⟨hr, hk, hvw⟩ := vbOf_ok (P := P) (w0 := w0) hb
  have hdk := hT.get hd
  have hek := hT.get he
  obtain ⟨zv, hz1, hz2, hz3⟩ := hek.zero by_ hby
  have hzs : zv.cells.size = e.n := by rw [hz2, List.size_toArray, zero_len, hek.sz]
  have hTE : P.underlying T = some (.slice b.r.E) := (hdk.el E hE).trans (by rw [n3])
  have hzr : ∀ J, b.r.t.rep.rd J zv.cells.toList z := fun J => by
    rw [hz2]; exact zeroF_ok hz J
  refine ⟨_, h, good_set (fact := fun _ _ => True) hr (fun J θ hf => fun w C hs => ?_) (fun J θ u hf hu hlt => ⟨Nat.lt_succ_self _, hv_new⟩)⟩
  have h1 := hvw hf rfl hs
  have hs' : St J w0 w (Ch.own (rSlice b.r.E b.r.t.rep) [hv θ b.h] b.r.xs :: C) := hs
  rcases h1 with ⟨q0, q, e1, e2, e3⟩ | ⟨g, ofs, cp, x', q0, q, q1, q2, q3, q4, q5, q6⟩
  · have hx0 : b.r.xs = [] := List.eq_nil_of_length_eq_zero e1
    rw [run_call_clear ho q (run_clear_empty w T b.r.E o.type hTE _ _)]
    refine ⟨trivial, ?_⟩
    have : zeroM b.r.xs b.l.toNat b.m.toNat z = b.r.xs := by rw [hx0, e2, e3]; simp [zeroM]
    rw [this]
    exact hs
  · rw [q0] at hs' ⊢
    exact opT_clear_vw (P := P) (I := J) (w0 := w0) (o := o) (ev := evL (envL θ s)) (Ty.sh_ok n4) (Ty.cpy n4) hTE (by rw [n3]; exact hz1) (by rw [n1, hk]; exact Ty.size_pos _) (b.r.t.rep_size.trans (hk.symm.trans n1.symm)) hzs (hzr J) ho q (fun hlt => by
      rcases q6 with q6 | q6
      · exfalso; omega
      · rw [q6, n1]) (by omega) (by omega) w C hs'
end

/-! ### A part taken for the whole -/
theorem own_view {α : Type} {E : TypeId} {R : Rep α} {I : Hp} {w0 w : World} {C : List Ch} {u v : Value} {xs : List α} {l m : Int} {k : Nat} (h : St I w0 w (Ch.own (rSlice E R) [v] xs :: C)) (hR : R.size = k) (hv : Vw u v k xs.length l m) (hm : m ≤ (xs.length : Int)) : St I w0 w (Ch.own (rSlice E R) [u] ((xs.take m.toNat).drop l.toNat) :: C) := by
  obtain ⟨h1, h2, F, ⟨G, K, rfl, k0, e⟩, h4, h5⟩ := h
  obtain ⟨hl, k0⟩ := k0
  rcases hv with ⟨rfl, rfl, hn, rfl, rfl⟩ | ⟨g, ofs, cap, x, rfl, rfl, q1, q2, q3, q4, q5, q6⟩
  · have hx : xs = [] := List.eq_nil_of_length_eq_zero hn
    subst hx
    exact ⟨h1, h2, G ++ K, ⟨G, K, rfl, ⟨Nat.zero_le _, k0⟩, e⟩, h4, h5⟩
  · rcases k0 with ⟨hv', rfl, rfl⟩ | ⟨g', ofs', cap', cur, K1, hv', k1, k2, k3, k4, rfl, k5⟩
    · simp at hv'
    · simp only [List.cons.injEq, Value.slice.injEq, Option.some.injEq, Addr.mk.injEq, and_true, true_and] at hv'
      obtain ⟨⟨rfl, rfl⟩, rfl⟩ := hv'
      rw [hR] at k4
      have hlm : l.toNat ≤ m.toNat := by omega
      have hlen : ((xs.take m.toNat).drop l.toNat).length = m.toNat - l.toNat := by rw [List.length_drop, List.length_take]; omega
      have e1 : xs = (xs.take m.toNat).take l.toNat ++ ((xs.take m.toNat).drop l.toNat ++ xs.drop m.toNat) := by rw [← List.append_assoc, List.take_append_drop, List.take_append_drop]
      rw [e1] at k5
      obtain ⟨c1, c2, G1, G2, f1, f2, rfl, -, p1⟩ := k5.cut2
      obtain ⟨G3, G4, rfl, p2, -⟩ := p1.parts
      have hp : ((g :: (G1 ++ (G3 ++ G4))) ++ K).Perm (((g :: G3) ++ K) ++ (G1 ++ G4)) := by
        show (g :: ((G1 ++ (G3 ++ G4)) ++ K)).Perm (g :: ((G3 ++ K) ++ (G1 ++ G4)))
        refine List.Perm.cons g ?_
        rw [List.append_assoc, List.append_assoc, List.append_assoc]
        refine (List.perm_append_comm_assoc G1 G3 _).trans (List.Perm.append_left G3 ?_)
        refine (List.perm_append_comm_assoc G1 G4 K).trans ?_
        rw [← List.append_assoc]
        refine List.perm_append_comm.trans ?_
        exact List.Perm.append_left K List.perm_append_comm
      have hl1 : ((xs.take m.toNat).take l.toNat).length = l.toNat := by rw [List.length_take, List.length_take]; omega
      rw [hl1, hR] at f2
      have hdr : cur.toList.drop (ofs + l.toNat * k) = c2 := by
        rw [← List.drop_drop, f1]
        exact List.drop_left' f2
      have hbx : ∀ c, OwnEls R I w c ((xs.take m.toNat).drop l.toNat) G3 → St I w0 w (Ch.own (rSlice E R) [.slice (some ⟨g, ofs + x, none⟩) (m.toNat - l.toNat) (cap - l.toNat)] ((xs.take m.toNat).drop l.toNat) :: C) ∨ c ≠ cur.toList.drop (ofs + x) := fun c hc => by
        by_cases hcc : c = cur.toList.drop (ofs + x)
        · subst hcc
          have m1 : l.toNat * k + (cap - l.toNat) * k = cap * k := by rw [← Nat.add_mul]; congr 1; omega
          refine .inl ⟨h1, h2, (g :: G3) ++ K, ⟨g :: G3, K, rfl, ⟨by rw [hlen]; omega, .inr ⟨g, ofs + x, cap - l.toNat, cur, G3, by rw [hlen], k1, by rw [hlen]; omega, by omega, by rw [hR]; omega, rfl, hc⟩⟩, e⟩, (List.nodup_append.1 (hp.nodup_iff.1 h4)).1, fun b hb => h5 b (hp.mem_iff.2 (List.mem_append_left _ hb))⟩
        · exact .inr hcc
      rcases q6 with q6 | q6
      · have hz : (xs.take m.toNat).drop l.toNat = [] := List.eq_nil_of_length_eq_zero (by rw [hlen]; omega)
        have hG3 : G3 = [] := by rw [hz] at p2; exact p2
        rcases hbx (cur.toList.drop (ofs + x)) (by rw [hz, hG3]; rfl) with r | r
        · exact r
        · exact absurd rfl r
      · subst q6
        rw [← hdr] at p2
        rcases hbx _ p2 with r | r
        · exact r
        · exact absurd rfl r
def viewE (u : Hdr) : List (Nat × Nat × AV) → List (Nat × Nat × AV)
  | [] => []
  | (t, ver, .xv top u' h k n l m) :: es => (match Hdr.beq u' u with | true => (t, ver, .one (.own u')) | false => (t, ver, .xv top u' h k n l m)) :: viewE u es
  | (t, ver, .vw u' h k n l m) :: es => (match Hdr.beq u' u with | true => (t, ver, .one (.own u)) | false => (t, ver, .vw u' h k n l m)) :: viewE u es
  | e :: es => e :: viewE u es
def view1 {Y : Type} (s : Sg) (v : AV) (kk : Sg → Option Y) : Option Y := match v with
  | .xv _ u _ _ _ _ _ => kk ⟨viewE u s.env, s.chs, s.nxt + 1⟩
  | .vw u h k n l m => match rowOf h s.chs with
    | some r => chkT (Nat.beq k r.t.size) (kk ⟨viewE u s.env, (u, s.nxt, .own (.sl r.E r.t) ((r.xs.take m.toNat).drop l.toNat)) :: r.rest, s.nxt + 1⟩)
    | none => kk s
  | _ => kk s
def viewL {Y : Type} : List AV → Sg → (Sg → Option Y) → Option Y
  | [], s, kk => kk s
  | v :: vs, s, kk => view1 s v fun s => viewL vs s kk
section
variable {P : Program} {I J : Hp} {w0 w : World} {F : Ch} {n : Nat} {θ : Th} {s : Sg} {a : Act}
theorem viewE_ok {u : Hdr} {N : Nat} {chs : List Ent} : ∀ {l : List (Nat × Nat × AV)}, (∀ e ∈ l, e.2.2.ok P w0 J θ N chs) → (∀ e ∈ viewE u l, e.2.2.ok P w0 J θ N chs ∧ ∃ e0 ∈ l, e0.2.1 = e.2.1) ∧ ((viewE u l).map fun e => (e.1, e.2.2.v θ)) = (l.map fun e => (e.1, e.2.2.v θ)) ∧ ((l.Pairwise fun a b => a.2.1 ≠ b.2.1) → (viewE u l).Pairwise fun a b => a.2.1 ≠ b.2.1)
  | [], h => ⟨fun e he => (by cases he), rfl, fun _ => List.Pairwise.nil⟩
  | e :: es, h => by
    obtain ⟨k1, k2, k3⟩ := viewE_ok (u := u) (l := es) fun e he => h e (List.mem_cons_of_mem _ he)
    have hh := h e (List.mem_cons_self ..)
    have fin : ∀ e', e'.1 = e.1 → e'.2.1 = e.2.1 → e'.2.2.ok P w0 J θ N chs → e'.2.2.v θ = e.2.2.v θ → (∀ q ∈ e' :: viewE u es, q.2.2.ok P w0 J θ N chs ∧ ∃ e0 ∈ e :: es, e0.2.1 = q.2.1) ∧ ((e' :: viewE u es).map fun e => (e.1, e.2.2.v θ)) = ((e :: es).map fun e => (e.1, e.2.2.v θ)) ∧ (((e :: es).Pairwise fun a b => a.2.1 ≠ b.2.1) → (e' :: viewE u es).Pairwise fun a b => a.2.1 ≠ b.2.1) := fun e' f1 f2 f3 f4 => by
      refine ⟨fun q hq => ?_, ?_, fun hp => ?_⟩
      · rcases List.mem_cons.1 hq with rfl | hq
        · exact ⟨f3, e, List.mem_cons_self .., f2.symm⟩
        · obtain ⟨r1, e0, r2, r3⟩ := k1 q hq
          exact ⟨r1, e0, List.mem_cons_of_mem _ r2, r3⟩
      · rw [List.map_cons, List.map_cons, k2, f1, f4]
      · obtain ⟨p1, p2⟩ := List.pairwise_cons.1 hp
        refine List.pairwise_cons.2 ⟨fun q hq => ?_, k3 p2⟩
        obtain ⟨r1, e0, r2, r3⟩ := k1 q hq
        rw [f2, ← r3]
        exact p1 e0 r2
    obtain ⟨t, ver, av⟩ := e
    cases av with
    | vw u' h' k' n' l' m' =>
      have hh : u'.id < N ∧ h'.id < N ∧ Vw (hv θ u') (hv θ h') k' n' l' m' ∧ m' ≤ (n' : Int) := hh
      cases hb : Hdr.beq u' u with
      | true =>
        have := Hdr.beq_eq hb
        subst this
        have e1 : viewE u' ((t, ver, .vw u' h' k' n' l' m') :: es) = (t, ver, .one (.own u')) :: viewE u' es := by simp [viewE, hb]
        rw [e1]
        exact fin (t, ver, .one (.own u')) rfl rfl ⟨hh.1, hh.2.2.1.one⟩ rfl
      | false =>
        have e1 : viewE u ((t, ver, .vw u' h' k' n' l' m') :: es) = (t, ver, .vw u' h' k' n' l' m') :: viewE u es := by simp [viewE, hb]
        rw [e1]
        exact fin _ rfl rfl hh rfl
    | xv top u' h' k' n' l' m' =>
      have hh : u'.id < N ∧ h'.id < N ∧ Vw (hv θ u') (hv θ h') k' n' l' m' ∧ (top = true → l' = 0) := hh
      cases hb : Hdr.beq u' u with
      | true =>
        have := Hdr.beq_eq hb
        subst this
        have e1 : viewE u' ((t, ver, .xv top u' h' k' n' l' m') :: es) = (t, ver, .one (.own u')) :: viewE u' es := by simp [viewE, hb]
        rw [e1]
        exact fin (t, ver, .one (.own u')) rfl rfl ⟨hh.1, hh.2.2.1.one⟩ rfl
      | false =>
        have e1 : viewE u ((t, ver, .xv top u' h' k' n' l' m') :: es) = (t, ver, .xv top u' h' k' n' l' m') :: viewE u es := by simp [viewE, hb]
        rw [e1]
        exact fin _ rfl rfl hh rfl
    | _ => exact fin _ rfl rfl hh rfl
theorem view1_ok {Y : Type} {kk : Sg → Option Y} {y : Y} {v : AV} (h : view1 s v kk = some y) (hv' : v.ok P w0 J θ s.nxt s.chs) (hS : Sim P I w0 F n J θ s a w) : ∃ s', kk s' = some y ∧ Sim P I w0 F n J θ s' a w ∧ Newer s.nxt s.chs s'.chs ∧ s.nxt ≤ s'.nxt := by
  have base : Sim P I w0 F n J θ s a w ∧ Newer s.nxt s.chs s.chs ∧ s.nxt ≤ s.nxt := ⟨hS, Newer.rfl, Nat.le_refl _⟩
  unfold view1 at h
  split at h
  · rename_i top u hh k N l m
    obtain ⟨q1, q2, q3⟩ := viewE_ok (u := u) (P := P) (w0 := w0) (J := J) (θ := θ) (N := s.nxt) (chs := s.chs) hS.fine.env
    refine ⟨_, h, ⟨hS.le, ?_, hS.st, fun e he => AV.ok_same Same.rfl (Nat.le_succ _) Newer.rfl (q1 e he).1 Hp.le.rfl, fun e he => ?_, q3 hS.fine.nd, fun e he => okE_same Same.rfl (Nat.le_succ _) Newer.rfl (hS.fine.chs e he) Hp.le.rfl, hS.fine.lay⟩, Newer.rfl, Nat.le_succ _⟩
    · show Agr n a ((viewE u s.env).map _); rw [q2]; exact hS.agr
    · obtain ⟨-, e0, r1, r2⟩ := q1 e he
      rw [← r2]; exact Nat.lt_succ_of_lt (hS.fine.ver e0 r1)
  · rename_i u hh k N l m
    have hvo : u.id < s.nxt ∧ hh.id < s.nxt ∧ Vw (hv θ u) (hv θ hh) k N l m ∧ m ≤ (N : Int) := hv'
    split at h
    · rename_i r hr
      obtain ⟨hk, h⟩ := chkT_ok h
      have hk := Nat.eq_of_beq_eq_true hk
      obtain ⟨hp, -⟩ := rowOf_ok hr
      obtain ⟨q1, q2, q3⟩ := viewE_ok (u := u) (P := P) (w0 := w0) (J := J) (θ := θ) (N := s.nxt) (chs := s.chs) hS.fine.env
      have hst := hS.st.perm ((hp.map (toCh P θ)).append_right [F])
      have hst : St J w0 w (Ch.own (rSlice r.E r.t.rep) [hv θ hh] r.xs :: (r.rest.map (toCh P θ) ++ [F])) := hst
      have hN := vw_len hst hvo.2.2.1
      subst hN
      have hst2 := own_view hst (r.t.rep_size.trans hk.symm) hvo.2.2.1 hvo.2.2.2
      have hnew : Newer s.nxt s.chs ((u, s.nxt, .own (.sl r.E r.t) ((r.xs.take m.toNat).drop l.toNat)) :: r.rest) := fun e he h' ver' c hs' => by
        rcases List.mem_cons.1 he with rfl | he
        · obtain ⟨rfl, hs'⟩ := hs'
          rcases hs' with ⟨rfl, rfl⟩ | hs'
          · exact .inl (Nat.le_refl _)
          · exact hs'.elim
        · exact .inr ⟨e, hp.mem_iff.2 (List.mem_cons_of_mem _ he), hs'⟩
      refine ⟨_, h, ⟨hS.le, ?_, hst2, fun e he => AV.ok_same Same.rfl (Nat.le_succ _) hnew (q1 e he).1 Hp.le.rfl, fun e he => ?_, q3 hS.fine.nd, fun e he => ?_, hS.fine.lay⟩, hnew, Nat.le_succ _⟩
      · show Agr n a ((viewE u s.env).map _); rw [q2]; exact hS.agr
      · obtain ⟨-, e0, r1, r2⟩ := q1 e he
        rw [← r2]; exact Nat.lt_succ_of_lt (hS.fine.ver e0 r1)
      · rcases List.mem_cons.1 he with rfl | he
        · exact ⟨Nat.lt_succ_of_lt hvo.1, Nat.lt_succ_self _, trivial⟩
        · exact okE_same Same.rfl (Nat.le_succ _) hnew (hS.fine.chs e (hp.mem_iff.2 (List.mem_cons_of_mem _ he))) Hp.le.rfl
    · exact ⟨_, h, base⟩
  · exact ⟨_, h, base⟩
theorem viewL_ok {Y : Type} {kk : Sg → Option Y} {y : Y} : ∀ {vs : List AV} {s : Sg}, viewL vs s kk = some y → (∀ v ∈ vs, v.ok P w0 J θ s.nxt s.chs) → Sim P I w0 F n J θ s a w → ∃ s', kk s' = some y ∧ Sim P I w0 F n J θ s' a w ∧ s.nxt ≤ s'.nxt
  | [], s, h, _, hS => ⟨s, h, hS, Nat.le_refl _⟩
  | v :: vs, s, h, hv', hS => by
    obtain ⟨s1, e, h1, h2, h3⟩ := view1_ok (show view1 s v (fun s => viewL vs s kk) = some y from h) (hv' v (List.mem_cons_self ..)) hS
    obtain ⟨s', e', k1, k2⟩ := viewL_ok (vs := vs) e (fun x hx => AV.ok_same Same.rfl h3 h2 (hv' x (List.mem_cons_of_mem _ hx)) Hp.le.rfl) h1
    exact ⟨s', e', k1, Nat.le_trans h3 k2⟩
end
end Go.Proofs.YtfkjjnddefojjaaGreatDoor.R
/- Own rows copied into, made longer by zeros, laid anew. No program text is named here. -/
set_option linter.unusedVariables false
set_option linter.unusedSimpArgs false
set_option linter.unnecessarySimpa false
namespace Go.Proofs.YtfkjjnddefojjaaGreatDoor.D
open Go.RowKit

section
variable {P : Program} {I J : Hp} {w0 w w' : World} {cs C : List Ch} {o : Oper} {ev : Operand → Value}
theorem run_copy_w {dT sT ty e : TypeId} {k g o dLen dCap sLen sCap : Nat} {ao : Option Addr} {cs : List Value} (hu : P.underlying dT = some (.slice e)) (hs : (sizeOf e).run P w = .ok k w) (hn : cs.length = Nat.min sLen dLen * k)
    (hsrc : cs = [] ∨ ∃ a, ao = some a ∧ ∀ j v, cs[j]? = some v → w.cell? (a.add j) = some v) (hc : ∀ j, j < cs.length → (w.cell? ⟨g, o + j, none⟩).isSome = true) (hf : ∀ j, j < cs.length → w.frozen? ⟨g, o + j, none⟩ = false) (h1 : ∀ v ∈ cs, v.oneCell' = true) :
    (Builtin.copy_ #[dT, sT] ty #[.slice (some ⟨g, o, none⟩) dLen dCap, .slice ao sLen sCap]).run P w = .ok (goInt (Nat.min sLen dLen)) (w.setCells g o cs) := by
  have hst := run_storeCells_cells (P := P) g o cs 0 w (by simpa using hc) (by simpa using hf) h1
  simp only [Nat.add_zero] at hst
  have hfc : (Builtin.firstCells k (Nat.min sLen dLen) (.slice ao sLen sCap)).run P w = .ok cs.toArray w := by
    rcases hsrc with rfl | ⟨a, rfl, h⟩
    · cases ao with
      | none => rfl
      | some a => exact run_firstCells_some (P := P) w k _ a sLen sCap [] hn (fun j v hj => by simp at hj)
    · exact run_firstCells_some (P := P) w k _ a sLen sCap cs hn h
  simp [Builtin.copy_, run_underlying hu, Builtin.lenOf, hs, hfc, hst]
theorem run_call_copy {x y : Operand} {T U : TypeId} {v u r : Value} {w w' : World} (ho : o.op = .call { callee := .builtin .copy, args := #[x, y], argTypes := #[T, U] }) (hx : ev x = v) (hy : ev y = u) (hr : (Builtin.copy_ #[T, U] o.type #[v, u]).run P w = .ok r w') : (execOp ev o).run P w = .ok (.value r) w' := by
  simp only [execOp, ho, resolve, invoke, builtin, Sem.run_bind, Sem.run_pure, Result.andThen_ok, List.map_toArray, List.map_cons, List.map_nil, hx, hy, hr]
theorem run_call_appendM {x y : Operand} {T U : TypeId} {v u r : Value} {w w' : World} (ho : o.op = .call { callee := .builtin .append, args := #[x, y], argTypes := #[T, U] }) (hx : ev x = v) (hy : ev y = u) (hr : (Builtin.append_ #[T, U] o.type #[v, u]).run P w = .ok r w') : (execOp ev o).run P w = .ok (.value r) w' := by
  simp only [execOp, ho, resolve, invoke, builtin, Sem.run_bind, Sem.run_pure, Result.andThen_ok, List.map_toArray, List.map_cons, List.map_nil, hx, hy, hr]
def cpyW {α : Type} (xs : List α) (p : Nat) (ys : List α) : List α := xs.take p ++ (ys ++ xs.drop (p + ys.length))
theorem cpyW_length {α : Type} {xs ys : List α} {p : Nat} (hp : p ≤ xs.length) : (cpyW xs p ys).length = max xs.length (p + ys.length) := by
  simp only [cpyW, List.length_append, List.length_take, List.length_drop]; omega
theorem cpyW_get {α : Type} {xs ys : List α} {p q : Nat} (hp : p ≤ xs.length) : (cpyW xs p ys)[q]? = if p ≤ q ∧ q < p + ys.length then ys[q - p]? else xs[q]? := by
  have hi : (xs.take p).length = p := by rw [List.length_take]; omega
  unfold cpyW
  by_cases c1 : q < p
  · rw [if_neg (by omega), List.getElem?_append_left (by omega), List.getElem?_take, if_pos c1]
  · rw [List.getElem?_append_right (by omega), hi]
    by_cases c2 : q < p + ys.length
    · rw [if_pos (by omega), List.getElem?_append_left (by omega)]
    · rw [if_neg (by omega), List.getElem?_append_right (by omega), List.getElem?_drop]; congr 1; omega
def RdCells {α : Type} (R : Rep α) (I : Hp) (k : Nat) (news : List Value) (ys : List α) : Prop := news.length = ys.length * k ∧ ∀ (i : Nat) y, ys[i]? = some y → ∃ c : List Value, c.length = k ∧ (∀ j, j < k → news[i * k + j]? = c[j]?) ∧ R.rd I c y
theorem RdCells.one {α : Type} {R : Rep α} {k : Nat} {news : List Value} {ys : List α} (hk : 0 < k) (h : RdCells R I k news ys) : ∀ u ∈ news, u.oneCell' = true := by
  intro u hu
  obtain ⟨q, hq⟩ := List.getElem?_of_mem hu
  have hq' := (List.getElem?_eq_some_iff.1 hq).1
  rw [h.1] at hq'
  have hqn : q / k < ys.length := by rw [Nat.div_lt_iff_lt_mul hk]; exact hq'
  obtain ⟨c, c1, c2, c3⟩ := h.2 _ _ (List.getElem?_eq_getElem hqn)
  have := c2 (q % k) (Nat.mod_lt _ hk)
  rw [Nat.div_add_mod', hq] at this
  exact R.rd_one c3 u (List.mem_of_getElem? this.symm)
theorem rdCells_part {α : Type} {R : Rep α} {xs : List α} {cur : Array Value} {ofs k j m : Nat} (hm : m ≤ xs.length) (hcap : ofs + xs.length * k ≤ cur.size) (hj : j ≤ m) (hat : ∀ (i : Nat) x, xs[i]? = some x → ∃ c : List Value, c.length = k ∧ (∀ j, j < k → (cur.toList.drop ofs)[i * k + j]? = c[j]?) ∧ R.rd I c x) : RdCells R I k (pCells cur ofs k j m) ((xs.take m).drop j) := by
  have hl : ((xs.take m).drop j).length = m - j := by rw [List.length_drop, List.length_take]; omega
  refine ⟨by rw [hl]; exact pCells_len hcap hj hm, fun i y hy => ?_⟩
  have hi : i < m - j := by rw [← hl]; exact (List.getElem?_eq_some_iff.1 hy).1
  rw [List.getElem?_drop, List.getElem?_take, if_pos (by omega)] at hy
  obtain ⟨c, c1, c2, c3⟩ := hat _ _ hy
  refine ⟨c, c1, fun q hq => ?_, c3⟩
  have e1 : i * k + k ≤ (m - j) * k := by rw [← Nat.succ_mul]; exact Nat.mul_le_mul_right _ (by omega)
  rw [pCells_get (by omega), ← c2 q hq, Nat.add_mul]
  congr 1; omega
theorem row_copy {α : Type} {E : TypeId} {R : Rep α} (hSh : R.Sh) (hC : Cpy R R) {k : Nat} (hk : 0 < k) (hR : R.size = k) {g ofs n cap p : Nat} {xs ys : List α} {news : List Value} (hn : RdCells R I k news ys) (hp : p ≤ xs.length) (hfit : p + ys.length ≤ cap) (hlim : p + ys.length ≤ lim)
    (h : St I w0 w (Ch.own (rSlice E R) [.slice (some ⟨g, ofs, none⟩) n cap] xs :: C)) : St I w0 (w.setCells g (ofs + p * k) news) (Ch.own (rSlice E R) [.slice (some ⟨g, ofs, none⟩) (cpyW xs p ys).length cap] (cpyW xs p ys) :: C) := by
  obtain ⟨rfl, r1, r2, -⟩ := row_at hSh hR h
  have hl := cpyW_length (xs := xs) (ys := ys) hp
  have hxl := (h.hd 0 rfl).2
  refine row_set hSh hC hR (p := p) (cnt := ys.length) hn.1 hfit (by rw [hl]; omega) (by rw [hl]; omega) (fun q u hq => ?_) h
  rw [cpyW_get hp] at hq
  by_cases c1 : p ≤ q ∧ q < p + ys.length
  · rw [if_pos c1] at hq
    obtain ⟨c, d1, d2, d3⟩ := hn.2 _ _ hq
    exact .inl ⟨c1.1, c1.2, c, d1, d2, d3⟩
  · rw [if_neg c1] at hq
    exact .inr ⟨by omega, hq⟩
theorem row_of_blk {α : Type} {E : TypeId} {R : Rep α} (hC : Cpy R R) {k : Nat} (hR : R.size = k) {g cap : Nat} {cells : List Value} {xs : List α} (hcap : xs.length ≤ cap) (hmx : cap ≤ maxLen) (hl : cap * k ≤ cells.length) (hlim : xs.length ≤ lim) (hel : ∀ (i : Nat) x, xs[i]? = some x → ∃ c : List Value, c.length = k ∧ (∀ j, j < k → cells[i * k + j]? = c[j]?) ∧ R.rd I c x)
    (h : St I w0 w (Ch.blk g cells E :: C)) : St I w0 w (Ch.own (rSlice E R) [.slice (some ⟨g, 0, none⟩) xs.length cap] xs :: C) := by
  obtain ⟨hb, hi, F, ⟨G, K, rfl, ⟨rfl, e2⟩, e3⟩, h4, h5⟩ := h
  refine ⟨hb, hi, [g] ++ K, ⟨[g], K, rfl, ⟨hlim, .inr ⟨g, 0, cap, cells.toArray, [], rfl, e2, hcap, hmx, ?_, rfl, els_of_rd hC fun i x hx => ?_⟩⟩, e3⟩, h4, h5⟩
  · rw [hR]; simpa using hl
  · rw [hR]
    obtain ⟨c, c1, c2, c3⟩ := hel i x hx
    exact ⟨c, c1, fun j hj => by rw [← c2 j hj]; simp, c3⟩
theorem run_append_make {T U ty E : TypeId} {z : Value} {n b : Nat} {kn : IntKind} (hT : P.underlying T = some (.slice E)) (hU : P.underlying U = some (.int kn)) (hE : TZ P E z n b) {a : Addr} {i cap q : Nat} {old : List Value} (hn : 0 < n) (hq : 0 < q) (hroom : cap < i + q) (hbig : (i + q) * b ≤ 140737488355328) (hb : 1 ≤ b)
    (hl : old.length = i * n) (hold : ∀ j v, old[j]? = some v → w.cell? (a.add j) = some v) :
    ∃ c, i + q ≤ c ∧ c ≤ maxLen ∧ (Builtin.append_ #[T, U] ty #[.slice (some a) i cap, .int .i64 q]).run P w = .ok (.slice (some ⟨w.heap.size, 0, none⟩) (i + q) c) (w.drew.alloc (.cells (old.toArray ++ Builtin.zeroCells z.cells q ++ Builtin.zeroCells z.cells (c - (i + q))) E)) := by
  obtain ⟨info, hi', hz, hsize, hby⟩ := info_parts hE
  have h0 : (i + q) * 1 ≤ (i + q) * b := Nat.mul_le_mul_left _ hb
  have h1 : q * b ≤ (i + q) * b := Nat.mul_le_mul_right _ (by omega)
  have hw : IntKind.i64.wrap (q : Int) = q := by rw [IntKind.wrap_i64]; omega
  have h63' : ¬ (9223372036854775807 < ((i : Int) + (q : Int))) := by omega
  have hnx := growslice_fits (bytes := b) hroom hbig
  have h48' : ¬ (281474976710656 < Builtin.nextslicecap (i + q) cap * b) := by omega
  have h48i : ¬ (281474976710656 < (q : Int) * (b : Int)) := by
    rw [← Int.natCast_mul]; omega
  have hneg : ¬ ((q : Int) < 0) := by omega
  have hns : ¬ (q * n = 0) := Nat.mul_ne_zero (by omega) (by omega)
  have hnr : ¬ (i + q ≤ cap) := by omega
  have hfc : (Builtin.firstCells n i (.slice (some a) i cap)).run P w.drew = .ok old.toArray w.drew := run_firstCells_some (P := P) w.drew n i a i cap old hl (fun j v hj => hold j v hj)
  refine ⟨grownCap w (i + q) cap E, grownCap_ge w _ _ _, grownCap_le_maxLen w _ _ _ (by unfold maxLen; omega), ?_⟩
  simp [Builtin.append_, run_underlying hT, run_underlying hU, sizeOf, typeInfo, zeroValue, hi', hz, hsize, hby, asInt, asIntOf, hw, hneg, hns, hnr, h63', h48', h48i, Question.forced, hfc, newRow, grownCap]
end
end Go.Proofs.YtfkjjnddefojjaaGreatDoor.D
/- Rows that are made longer: what they have room for; copies into them. No program text is named here. -/
set_option linter.unusedVariables false
set_option linter.unusedSimpArgs false
set_option linter.unnecessarySimpa false
set_option linter.unusedSectionVars false
namespace Go.Proofs.YtfkjjnddefojjaaGreatDoor.R
open Go.RowKit
open Go.Proofs.YtfkjjnddefojjaaGreatDoor.D

/-! ### How much room there is: any answer must do -/
open Classical in
noncomputable def capAll0 {Y : Type} (n : Nat) (f : Nat → Option Y) : Option Y := if h : ∃ y, ∀ c, n ≤ c → c ≤ maxLen → f c = some y then some h.choose else none
theorem capAll0_some {Y : Type} {n : Nat} {f : Nat → Option Y} {y : Y} (h : capAll0 n f = some y) : ∀ c, n ≤ c → c ≤ maxLen → f c = some y := by
  unfold capAll0 at h
  split at h
  · rename_i hh
    have := hh.choose_spec
    rw [Option.some.inj h] at this
    exact this
  · cases h
theorem capAll0_eq {Y : Type} {n : Nat} {f : Nat → Option Y} {y : Y} (hn : n ≤ maxLen) (h : ∀ c, n ≤ c → c ≤ maxLen → f c = some y) : capAll0 n f = some y := by
  unfold capAll0
  have hh : ∃ y, ∀ c, n ≤ c → c ≤ maxLen → f c = some y := ⟨y, h⟩
  rw [dif_pos hh]
  have h1 := hh.choose_spec n (Nat.le_refl _) hn
  rw [h n (Nat.le_refl _) hn] at h1
  exact h1.symm
theorem capAllEx : ∃ F : (Y : Type) → Nat → (Nat → Option Y) → Option Y, (∀ Y n f y, F Y n f = some y → ∀ c, n ≤ c → c ≤ maxLen → f c = some y) ∧ ∀ Y n f y, n ≤ maxLen → (∀ c, n ≤ c → c ≤ maxLen → f c = some y) → F Y n f = some y :=
  ⟨fun Y n f => capAll0 n f, fun Y n f y h => capAll0_some h, fun Y n f y hn h => capAll0_eq hn h⟩
noncomputable def capAll {Y : Type} (n : Nat) (f : Nat → Option Y) : Option Y := Classical.choose capAllEx Y n f
theorem capAll_some {Y : Type} {n : Nat} {f : Nat → Option Y} {y : Y} (h : capAll n f = some y) : ∀ c, n ≤ c → c ≤ maxLen → f c = some y := (Classical.choose_spec capAllEx).1 Y n f y h
theorem capAll_eq {Y : Type} {n : Nat} {f : Nat → Option Y} {y : Y} (hn : n ≤ maxLen) (h : ∀ c, n ≤ c → c ≤ maxLen → f c = some y) : capAll n f = some y := (Classical.choose_spec capAllEx).2 Y n f y hn h
def capOp (tt : TT) (s : Sg) (o : Oper) : Option (Hdr × Row) := match o.op with
  | .call c => match c.callee, c.args.toList, c.argTypes.toList with
    | .builtin .cap, [x], [T] => (td tt T).bind fun d => d.el.bind fun _ => match opd s x with
      | some (.one (.own h)) => (rowOf h s.chs).bind fun r => some (h, r)
      | _ => none
    | _, _, _ => none
  | _ => none
def capRes (q : Hdr × Row) (c : Nat) : Res := ⟨[q.2.ent q.1], [], q.2.rest, [], .capv q.1 c⟩
theorem run_call_cap {P : Program} {o : Oper} {ev : Operand → Value} {x : Operand} {T : TypeId} {v r : Value} {w w' : World} (ho : o.op = .call { callee := .builtin .cap, args := #[x], argTypes := #[T] }) (hx : ev x = v) (hr : (Builtin.cap_ #[T] o.type #[v]).run P w = .ok r w') : (execOp ev o).run P w = .ok (.value r) w' := by
  simp only [execOp, ho, resolve, invoke, builtin, Sem.run_bind, Sem.run_pure, Result.andThen_ok, List.map_toArray, List.map_cons, List.map_nil, hx, hr]
theorem own_cap {α : Type} {E : TypeId} {R : Rep α} {I : Hp} {w0 w : World} {C : List Ch} {v : Value} {xs : List α} (h : St I w0 w (Ch.own (rSlice E R) [v] xs :: C)) : ∃ a, v = .slice a xs.length (capV v) ∧ xs.length ≤ capV v ∧ capV v ≤ maxLen := by
  obtain ⟨hb, hi, F, ⟨G, K, rfl, ⟨hl, e2⟩, e3⟩, h4, h5⟩ := h
  rcases e2 with ⟨hv, rfl, rfl⟩ | ⟨g, ofs, cap, cur, K1, hv, k1, k2, k3, k4, rfl, k5⟩
  · obtain rfl : v = .slice none 0 0 := by simpa using hv
    exact ⟨_, rfl, Nat.le_refl _, Nat.zero_le _⟩
  · obtain rfl : v = .slice (some ⟨g, ofs, none⟩) xs.length cap := by simpa using hv
    exact ⟨_, rfl, k2, k3⟩
section
variable {tt : TT} {s : Sg} {P : Program} {I J : Hp} {w0 w : World} {F : Ch} {n : Nat} {θ : Th} {a : Act} {o : Oper}
theorem capOp_ok (hT : TTok P tt) {q : Hdr × Row} (h : capOp tt s o = some q) (hS : Sim P I w0 F n J θ s a w) : q.2.xs.length ≤ capV (hv θ q.1) ∧ capV (hv θ q.1) ≤ maxLen ∧ GoodA P w0 J θ s o (capRes q (capV (hv θ q.1))) := by
  unfold capOp at h
  split at h
  · rename_i c ho
    split at h
    · rename_i x T h1 h2 h3
      obtain ⟨d, hd, h⟩ := bind_some h
      obtain ⟨E, hE, h⟩ := bind_some h
      split at h
      · rename_i hh hx
        obtain ⟨r, hr, h⟩ := bind_some h
        obtain rfl := Option.some.inj h
        obtain ⟨hp, -⟩ := rowOf_ok hr
        have hst := hS.st.perm ((hp.map (toCh P θ)).append_right [F])
        have hst : St J w0 w (Ch.own (rSlice r.E r.t.rep) [hv θ hh] r.xs :: (r.rest.map (toCh P θ) ++ [F])) := hst
        obtain ⟨ad, c1, c2, c3⟩ := own_cap hst
        refine ⟨c2, c3, perm1 hp, says_plain rfl J θ hS.fine, ?_⟩
        have hok := ent_ok hS.fine hp
        have ho' : o.op = .call { callee := .builtin .cap, args := #[x], argTypes := #[T] } := by
          obtain ⟨cal, args, tys⟩ := c
          have h1 : cal = .builtin .cap := h1
          have h2 : args.toList = [x] := h2
          have h3 : tys.toList = [T] := h3
          rw [ho, h1, show args = #[x] from Array.ext' h2, show tys = #[T] from Array.ext' h3]
        have hTE := (hT.get hd).el E hE
        have he : P.elem T = E := by simp [Program.elem, hTE]
        refine OpT.weak (fact := (· = .int .i64 (capV (hv θ hh)))) (gv := fun _ => [toCh P θ (r.ent hh)]) (fun w C hs => ?_) (fun u hu => ⟨⟨Nat.lt_succ_of_lt hok.1, ?_⟩, ?_, fun g hg => by cases hg⟩) (fun u hu => rfl)
        · have hrun : (Builtin.cap_ #[T] o.type #[hv θ hh]).run P w = .ok (goInt (capV (hv θ hh))) w := by
            rw [c1]
            exact run_cap_slice (P := P) w T o.type _ _ _ (by rw [he]; exact hTE)
          rw [run_call_cap ho' (opd_ev hx) hrun]
          exact ⟨rfl, hs⟩
        · show capV (hv (upd θ s.nxt u) hh) = _
          rw [show hv (upd θ s.nxt u) hh = hv θ hh from hv_same Same.upd hok.1]
        · exact hu.symm
      · cases h
    · cases h
  · cases h
end
def roomOf (h : Hdr) : List (Nat × Nat × AV) → Option Nat
  | [] => none
  | (_, _, .capv h' c) :: es => if Hdr.beq h' h then some c else roomOf h es
  | _ :: es => roomOf h es
theorem roomOf_ok {P : Program} {w0 : World} {J : Hp} {θ : Th} {n : Nat} {chs : List Ent} {h : Hdr} {c : Nat} : ∀ {l : List (Nat × Nat × AV)}, roomOf h l = some c → (∀ e ∈ l, e.2.2.ok P w0 J θ n chs) → capV (hv θ h) = c
  | (t, ver, av) :: es, hc, hl => by
    have ih := fun hc => roomOf_ok (l := es) (h := h) (c := c) hc fun e he => hl e (List.mem_cons_of_mem _ he)
    have hh := hl (t, ver, av) (List.mem_cons_self ..)
    unfold roomOf at hc
    split at hc
    · rename_i heq; cases heq
    · rename_i h' c' es' heq
      injection heq with e1 e2
      injection e1 with e3 e4
      injection e4 with e5 e6
      subst e2; subst e6
      split at hc
      · rename_i hb
        have := Hdr.beq_eq hb
        subst this
        obtain rfl := Option.some.inj hc
        exact hh.2
      · exact ih hc
    · rename_i heq
      injection heq with e1 e2
      subst e2
      exact ih hc
def topOf (h : Hdr) : List (Nat × Nat × AV) → Option (Hdr × Int)
  | [] => none
  | (_, _, .xv true u h' _ _ _ m) :: es => if Hdr.beq h' h then some (u, m) else topOf h es
  | _ :: es => topOf h es
theorem topOf_ok {P : Program} {w0 : World} {J : Hp} {θ : Th} {n : Nat} {chs : List Ent} {h : Hdr} {q : Hdr × Int} : ∀ {l : List (Nat × Nat × AV)}, topOf h l = some q → (∀ e ∈ l, e.2.2.ok P w0 J θ n chs) → q.1.id < n ∧ ∃ k N, Vw (hv θ q.1) (hv θ h) k N 0 q.2
  | (t, ver, av) :: es, hc, hl => by
    have ih := fun hc => topOf_ok (l := es) (h := h) (q := q) hc fun e he => hl e (List.mem_cons_of_mem _ he)
    have hh := hl (t, ver, av) (List.mem_cons_self ..)
    unfold topOf at hc
    split at hc
    · rename_i heq; cases heq
    · rename_i u h' kk nn ll mm es' heq
      injection heq with e1 e2
      injection e1 with e3 e4
      injection e4 with e5 e6
      subst e2; subst e6
      split at hc
      · rename_i hb
        have := Hdr.beq_eq hb
        subst this
        obtain rfl := Option.some.inj hc
        obtain ⟨q1, q2, q3, q4⟩ := hh
        have q4 := q4 rfl
        subst q4
        exact ⟨q1, _, _, q3⟩
      · exact ih hc
    · rename_i heq
      injection heq with e1 e2
      subst e2
      exact ih hc

/-! ### Steps -/
section
variable {Y : Type} (tt : TT) (s : Sg) (k : Res → Option Y)
def sCmpC (b : BinOp) (x y : Operand) : Option Y := match opd s x, opd s y with
  | some (.one (.val (.int .i64 m))), some (.capv _ c) => chkT (isCmp b) (kv s k (.bool (cmpI b m (c : Int))))
  | _, _ => none
def sSliceE (T : TypeId) (x hi : Operand) : Option Y := (td tt T).bind fun d => d.el.bind fun E' => (td tt E').bind fun e => match opd s x with
  | some (.one (.own h)) => (rowOf h s.chs).bind fun r => chkT (Nat.beq e.n r.t.size) ((asI s hi).bind fun m => (roomOf h s.env).bind fun c => (chk ((r.xs.length : Int) ≤ m ∧ m ≤ (c : Int))).bind fun _ => k ⟨[r.ent h], [], r.rest, [], .xv true ⟨s.nxt, []⟩ h r.t.size r.xs.length 0 m⟩)
  | _ => none
def sAppM (T U : TypeId) (x y : Operand) : Option Y := (td tt T).bind fun d => d.el.bind fun E => (td tt E).bind fun e => e.bytes.bind fun by_ => (td tt U).bind fun f => f.ik.bind fun ik => (vbOf s x).bind fun b => (asI s y).bind fun q =>
  chkT (Nat.beq e.n b.k && Nat.beq b.r.E E && b.r.t.sh && ik.isSome && !b.x) ((zeroF e.ty b.r.t).bind fun z => (roomOf b.h s.env).bind fun c =>
  (chk (b.l = 0 ∧ b.m ≤ (b.r.xs.length : Int) ∧ 0 < q ∧ (c : Int) < b.m + q ∧ (b.m + q) * (by_ : Int) ≤ 140737488355328)).bind fun _ => k ⟨[b.r.ent b.h], [], b.r.rest, [(⟨s.nxt, []⟩, .own (.sl b.r.E b.r.t) (b.r.xs.take b.m.toNat ++ List.replicate q.toNat z))], .one (.own ⟨s.nxt, []⟩)⟩)
def cntI (b c : Vb) : Int := min (c.m - c.l) (b.m - b.l)
def srcL {α : Type} (xs : List α) (l : Int) (cnt : Int) : List α := (xs.take (l + cnt).toNat).drop l.toNat
def sCopyS (b c : Vb) : Option Y := (chk (0 ≤ c.l ∧ 0 ≤ cntI b c ∧ c.l + cntI b c ≤ (b.r.xs.length : Int) ∧ 0 ≤ b.l ∧ b.l ≤ (b.r.xs.length : Int))).bind fun _ => match b.x with
  | false => (chk (b.m ≤ (b.r.xs.length : Int))).bind fun _ => k ⟨[], [b.r.ent b.h], b.r.rest, [(b.h, .own (.sl b.r.E b.r.t) (cpyW b.r.xs b.l.toNat (srcL b.r.xs c.l (cntI b c))))], .one (.val (.int .i64 (cntI b c)))⟩
  | true => (topOf b.h s.env).bind fun q => (chk (b.l + cntI b c = q.2 ∧ (b.r.xs.length : Int) ≤ q.2)).bind fun _ => k ⟨[], [b.r.ent b.h], b.r.rest, [(q.1, .own (.sl b.r.E b.r.t) (cpyW b.r.xs b.l.toNat (srcL b.r.xs c.l (cntI b c))))], .one (.val (.int .i64 (cntI b c)))⟩
def sCopyO (b c : Vb) : Option Y := (castEq (.sl c.r.E c.r.t) (.sl b.r.E b.r.t) c.r.xs).bind fun ys => (chk (0 ≤ c.l ∧ 0 ≤ cntI b c ∧ c.l + cntI b c ≤ (ys.length : Int) ∧ 0 ≤ b.l ∧ b.l ≤ (b.r.xs.length : Int) ∧ b.m ≤ (b.r.xs.length : Int))).bind fun _ =>
  k ⟨[c.r.ent c.h], [b.r.ent b.h], c.r.rest, [(b.h, .own (.sl b.r.E b.r.t) (cpyW b.r.xs b.l.toNat (srcL ys c.l (cntI b c))))], .one (.val (.int .i64 (cntI b c)))⟩
def sCopyW (T : TypeId) (x y : Operand) : Option Y := (td tt T).bind fun d => d.el.bind fun E => (td tt E).bind fun e => (vbOf s x).bind fun b => (vbOf s y).bind fun c => chkT (Nat.beq e.n b.k && Nat.beq c.k b.k && Nat.beq b.r.E E && b.r.t.sh) (match Hdr.beq c.h b.h with
  | true => sCopyS s k b c
  | false => (vbIn s b.r.rest y).bind fun c => chkT (Nat.beq c.k b.k) (sCopyO k b c))
def sOver (x y : Operand) : Option Y := match opd s x with
  | some (.one (.own h)) => (rowOf h s.chs).bind fun r => (vbIn s r.rest y).bind fun c => (chk (0 < r.xs.length ∧ c.l < c.m)).bind fun _ => k ⟨[r.ent h, c.r.ent c.h], [], c.r.rest, [], .one (.val (.bool false))⟩
  | _ => none
end
section
variable {Y : Type} {tt : TT} {s : Sg} {k : Res → Option Y} {P : Program} {w0 : World} {o : Oper} {res : Y} {x y : Operand}
theorem sCmpC_ok {b : BinOp} {t u : TypeId} (ho : o.op = .binOp b t x y u) (h : sCmpC s k b x y = some res) : Oks P w0 s o k res := by
  unfold sCmpC at h
  split at h
  · rename_i m hh c hx hy
    obtain ⟨hb, h⟩ := chkT_ok h
    exact kv_ok h rfl fun J θ hf => opT_cmp ho (opd_ev hx) (opd_ev hy) hb rfl
  · cases h
theorem sSliceE_ok (hT : TTok P tt) {T : TypeId} {hi : Operand} (ho : o.op = .slice T x none (some hi) none) (h : sSliceE tt s k T x hi = some res) : Oks P w0 s o k res := by
  obtain ⟨d, hd, h⟩ := bind_some h
  obtain ⟨E', hE, h⟩ := bind_some h
  obtain ⟨e, he, h⟩ := bind_some h
  split at h
  · rename_i hh hx
    obtain ⟨r, hr, h⟩ := bind_some h
    obtain ⟨hn, h⟩ := chkT_ok h
    have hn : e.n = r.t.size := Nat.eq_of_beq_eq_true hn
    obtain ⟨m, hm, h⟩ := bind_some h
    obtain ⟨c, hc, h⟩ := bind_some h
    obtain ⟨u, hk, h⟩ := bind_some h
    obtain ⟨c1, c2⟩ := chk_some hk
    refine ⟨_, h, good_xv hr (fun _ => rfl) fun J θ hf => fun w C hs => ?_⟩
    have hst : St J w0 w (Ch.own (rSlice r.E r.t.rep) [hv θ hh] r.xs :: C) := hs
    have hcv := roomOf_ok hc hf.env
    obtain ⟨ad, e1, e2, e3⟩ := own_cap hst
    rw [hcv] at e1 e2
    have := opT_sliceV (P := P) (I := J) (w0 := w0) (ev := evL (envL θ s)) (lo := none) (hi := some hi) (ml := none) (mh := some m) ((hT.get hd).el _ hE) (hT.get he).ti ho ((opd_ev (θ := θ) hx).trans e1) trivial (asI_ok hm θ) e2 (Int.le_refl _) (by show (0 : Int) ≤ m; omega) c2 w (toCh P θ (r.ent hh) :: C) hs
    refine this.imp fun v w' hv' => ⟨?_, hv'.2⟩
    have h1 := vw_self (k := r.t.size) hst
    rcases h1 with ⟨q0, -, q1, -, -⟩ | ⟨g, ofs, cp, x', q0, -, -⟩
    · have h0 : c = 0 := by rw [q0] at hcv; exact hcv.symm
      refine .inl ⟨q0, ?_, q1, rfl, by omega⟩
      rw [q0] at e1
      injection e1 with f1 f2 f3
      obtain rfl : m = 0 := by omega
      rw [hv'.1, ← f1, h0]
      simp [sliced]
    · rw [q0] at e1 ⊢
      injection e1 with f1 f2 f3
      refine .inr ⟨g, ofs, cp, 0, rfl, ?_, Int.le_refl _, by omega, by omega, by omega, Nat.zero_le _, .inr (by simp)⟩
      rw [hv'.1, ← f1, ← f3]
      simp [sliced, Addr.add_mid]
  · cases h
theorem sAppM_ok (hT : TTok P tt) {T U : TypeId} (ho : o.op = .call { callee := .builtin .append, args := #[x, y], argTypes := #[T, U] }) (h : sAppM tt s k T U x y = some res) : Oks P w0 s o k res := by
  obtain ⟨d, hd, h⟩ := bind_some h
  obtain ⟨E, hE, h⟩ := bind_some h
  obtain ⟨e, he, h⟩ := bind_some h
  obtain ⟨by_, hby, h⟩ := bind_some h
  obtain ⟨f, hf', h⟩ := bind_some h
  obtain ⟨ik, hik, h⟩ := bind_some h
  obtain ⟨b, hb, h⟩ := bind_some h
  obtain ⟨q, hq, h⟩ := bind_some h
  obtain ⟨hn, h⟩ := chkT_ok h
  simp only [Bool.and_eq_true] at hn
  obtain ⟨⟨⟨⟨n1, n3⟩, n4⟩, n5⟩, n6⟩ := hn
  have n1 : e.n = b.k := Nat.eq_of_beq_eq_true n1
  have n3 : b.r.E = E := Nat.eq_of_beq_eq_true n3
  obtain ⟨z, hz, h⟩ := bind_some h
  obtain ⟨c, hc, h⟩ := bind_some h
  obtain ⟨u, hk', h⟩ := bind_some h
  obtain ⟨c1, c2, c3, c4, c5⟩ := chk_some hk'
  obtain ⟨hr, hk, hvw⟩ := vbOf_ok (P := P) (w0 := w0) hb
  obtain ⟨hp, -⟩ := rowOf_ok hr
  obtain ⟨kn, hkn⟩ := Option.isSome_iff_exists.1 n5
  have hTU : P.underlying U = some (.int kn) := (hT.get hf').ik (some kn) (by rw [hik, hkn])
  have hdk := hT.get hd
  have hek := hT.get he
  obtain ⟨zv, hz1, hz2, hz3⟩ := hek.zero by_ hby
  have hzs : zv.cells.size = e.n := by rw [hz2, List.size_toArray, zero_len, hek.sz]
  have hTE : P.underlying T = some (.slice b.r.E) := (hdk.el E hE).trans (by rw [n3])
  have hz1' : TZ P b.r.E zv e.n by_ := by rw [n3]; exact hz1
  have hzr : ∀ J, b.r.t.rep.rd J zv.cells.toList z := fun J => by rw [hz2]; exact zeroF_ok hz J
  have hnp : 0 < e.n := by rw [n1, hk]; exact Ty.size_pos _
  have hR : b.r.t.rep.size = e.n := b.r.t.rep_size.trans (hk.symm.trans n1.symm)
  refine ⟨_, h, good_row (rs := [b.r.ent b.h]) (ns := []) (perm1 hp) fun J θ hf => fun w C hs => ?_⟩
  have hst : St J w0 w (Ch.own (rSlice b.r.E b.r.t.rep) [hv θ b.h] b.r.xs :: C) := hs
  have h1 := hvw hf rfl hst
  have hcv := roomOf_ok hc hf.env
  obtain ⟨ad, e1, e2, e3⟩ := own_cap hst
  have hxl := (hst.hd 0 rfl).2
  have hq0 : ((q.toNat : Nat) : Int) = q := by omega
  have hq1 : 0 < q.toNat := by omega
  have hbig : (b.m.toNat + q.toNat) * by_ ≤ 140737488355328 := by
    have : (((b.m.toNat + q.toNat) * by_ : Nat) : Int) = (b.m + q) * by_ := by
      rw [Int.natCast_mul, Int.natCast_add, hq0, show ((b.m.toNat : Nat) : Int) = b.m from by obtain ⟨_, _, _, g1, g2⟩ := h1.hd; omega]
    omega
  have hbig1 : b.m.toNat + q.toNat ≤ 140737488355328 := by
    have : (b.m.toNat + q.toNat) * 1 ≤ (b.m.toNat + q.toNat) * by_ := Nat.mul_le_mul_left _ hz3
    omega
  have hy : evL (envL θ s) y = .int .i64 (q.toNat : Nat) := by rw [hq0]; exact asI_ok hq θ
  -- what is behind
  have fin : ∀ (old : List Value) (cc : Nat), old.length = b.m.toNat * e.n → (∀ (i : Nat) a, (b.r.xs.take b.m.toNat)[i]? = some a → ∃ c : List Value, c.length = e.n ∧ (∀ j, j < e.n → old[i * e.n + j]? = c[j]?) ∧ b.r.t.rep.rd J c a) → b.m.toNat ≤ b.r.xs.length → b.m.toNat + q.toNat ≤ cc → cc ≤ maxLen →
      St J w0 (w.drew.alloc (.cells (old.toArray ++ Builtin.zeroCells zv.cells q.toNat ++ Builtin.zeroCells zv.cells (cc - (b.m.toNat + q.toNat))) b.r.E)) ((Ch.own (Ty.sl b.r.E b.r.t).rep [.slice (some ⟨w.heap.size, 0, none⟩) (b.m.toNat + q.toNat) cc] (b.r.xs.take b.m.toNat ++ List.replicate q.toNat z) :: [toCh P θ (b.r.ent b.h)]) ++ C) := by
    intro old cc hl hel hml hcc hmx
    have hA := (hst.drew).alloc (old ++ (Builtin.zeroCells zv.cells q.toNat).toList ++ (Builtin.zeroCells zv.cells (cc - (b.m.toNat + q.toNat))).toList) b.r.E
    have ea : (old ++ (Builtin.zeroCells zv.cells q.toNat).toList ++ (Builtin.zeroCells zv.cells (cc - (b.m.toNat + q.toNat))).toList).toArray = old.toArray ++ Builtin.zeroCells zv.cells q.toNat ++ Builtin.zeroCells zv.cells (cc - (b.m.toNat + q.toNat)) := by
      apply Array.ext'; simp
    rw [ea] at hA
    have hlen : (b.r.xs.take b.m.toNat ++ List.replicate q.toNat z).length = b.m.toNat + q.toNat := by rw [List.length_append, List.length_take, List.length_replicate]; omega
    have hzl : (Builtin.zeroCells zv.cells q.toNat).toList.length = q.toNat * e.n := by rw [zeroCells_len, hzs]
    have hzl2 : (Builtin.zeroCells zv.cells (cc - (b.m.toNat + q.toNat))).toList.length = (cc - (b.m.toNat + q.toNat)) * e.n := by rw [zeroCells_len, hzs]
    have m1 : b.m.toNat * e.n + q.toNat * e.n + (cc - (b.m.toNat + q.toNat)) * e.n = cc * e.n := by rw [← Nat.add_mul, ← Nat.add_mul]; congr 1; omega
    have := row_of_blk (xs := b.r.xs.take b.m.toNat ++ List.replicate q.toNat z) (Ty.cpy n4) (k := e.n) hR (by rw [hlen]; exact hcc) hmx (by rw [List.length_append, List.length_append, hl, hzl, hzl2, m1]; exact Nat.le_refl _) (by rw [hlen]; unfold lim; omega) (fun i a ha => by
      by_cases hi : i < b.m.toNat
      · rw [List.getElem?_append_left (by rw [List.length_take]; omega)] at ha
        obtain ⟨c, d1, d2, d3⟩ := hel i a ha
        refine ⟨c, d1, fun j hj => ?_, d3⟩
        have m2 : i * e.n + e.n ≤ b.m.toNat * e.n := by rw [← Nat.succ_mul]; exact Nat.mul_le_mul_right _ hi
        rw [List.append_assoc, List.getElem?_append_left (by omega)]
        exact d2 j hj
      · have hi2 : i < b.m.toNat + q.toNat := by rw [← hlen]; exact (List.getElem?_eq_some_iff.1 ha).1
        rw [List.getElem?_append_right (by rw [List.length_take]; omega), List.length_take, List.getElem?_replicate, if_pos (by omega)] at ha
        obtain rfl := Option.some.inj ha
        refine ⟨zv.cells.toList, by rw [Array.length_toList, hzs], fun j hj => ?_, hzr J⟩
        have m2 : b.m.toNat * e.n ≤ i * e.n := Nat.mul_le_mul_right _ (by omega)
        have m3 : i * e.n + e.n ≤ (b.m.toNat + q.toNat) * e.n := by rw [← Nat.succ_mul]; exact Nat.mul_le_mul_right _ hi2
        have m4 : (b.m.toNat + q.toNat) * e.n = b.m.toNat * e.n + q.toNat * e.n := Nat.add_mul _ _ _
        have m5 : (i - b.m.toNat) * e.n = i * e.n - b.m.toNat * e.n := Nat.sub_mul _ _ _
        rw [List.getElem?_append_left (by rw [List.length_append, hl, hzl]; omega), List.getElem?_append_right (by omega), hl, show i * e.n + j - b.m.toNat * e.n = (i - b.m.toNat) * e.n + j from by omega, ← hzs, zeroCells_get (by omega) (by omega)]) hA
    rw [hlen] at this
    exact this
  rcases h1 with ⟨q0, hu, g1, g2, g3⟩ | ⟨g, ofs, cp, x', q0, hu, q1, q2, q3, q4, q5, q6⟩
  · have hm0 : b.m.toNat = 0 := by omega
    obtain ⟨info, hi', hzz, hsize, hbb⟩ := info_parts hz1'
    have hrun := Lib.run_append_nil_zeros (P := P) w T U o.type b.r.E info zv .i64 kn hTE hTU hi' hzz q.toNat hq1 (by rw [hsize]; exact hnp) (by omega) (by rw [hbb]; rw [hm0, Nat.zero_add] at hbig; omega)
    rw [run_call_appendM ho hu hy hrun]
    refine ⟨trivial, ?_⟩
    have := fin [] (grownCap w q.toNat 0 b.r.E) (by simp [hm0]) (fun i a ha => by rw [hm0] at ha; simp at ha) (by omega) (by rw [hm0, Nat.zero_add]; exact grownCap_ge w _ _ _) (grownCap_le_maxLen w _ _ _ (by unfold maxLen; omega))
    rw [hm0, Nat.zero_add] at this
    simpa [hm0] using this
  · have hb0 : b.l.toNat = 0 := by omega
    have hx0 : x' = 0 := by rw [hb0, Nat.zero_mul] at q5; omega
    subst hx0
    rw [hb0, Nat.sub_zero, Nat.sub_zero, Nat.add_zero] at hu
    rw [q0] at hcv hst
    have hcp : cp = c := hcv
    obtain ⟨-, r1, r2, cur, r3, r4, hat⟩ := row_at (k := e.n) (Ty.sh_ok n4) hR hst
    have hml : b.m.toNat ≤ b.r.xs.length := by omega
    have hln := pCells_len (cur := cur) (ofs := ofs) (k := e.n) (j := 0) (m := b.m.toNat) (cap := cp) r4 (Nat.zero_le _) (Nat.le_trans hml r1)
    rw [Nat.sub_zero] at hln
    obtain ⟨cc, g1, g2, hrun⟩ := run_append_make (P := P) (w := w) (ty := o.type) (a := ⟨g, ofs, none⟩) (i := b.m.toNat) (cap := cp) (q := q.toNat) (old := pCells cur ofs e.n 0 b.m.toNat) hTE hTU hz1' hnp hq1 (by omega) hbig hz3 hln (fun j v hj => by
      have hj' := (List.getElem?_eq_some_iff.1 hj).1
      rw [hln] at hj'
      rw [pCells_get (by simpa using hj')] at hj
      simp only [Addr.add_mid]
      rw [cell_at r3]
      simpa using hj)
    rw [run_call_appendM ho hu hy hrun]
    refine ⟨trivial, fin _ cc hln (fun i a ha => ?_) hml g1 g2⟩
    have hi : i < b.m.toNat := by
      have := (List.getElem?_eq_some_iff.1 ha).1
      rw [List.length_take] at this; omega
    rw [List.getElem?_take, if_pos hi] at ha
    obtain ⟨c, d1, d2, d3⟩ := hat i a ha
    refine ⟨c, d1, fun j hj => ?_, d3⟩
    have m2 : i * e.n + e.n ≤ b.m.toNat * e.n := by rw [← Nat.succ_mul]; exact Nat.mul_le_mul_right _ hi
    rw [pCells_get (by rw [Nat.sub_zero]; omega), ← d2 j hj]
    simp
theorem srcL_len {α : Type} {xs : List α} {l cnt : Int} (h0 : 0 ≤ l) (h1 : 0 ≤ cnt) (h2 : l + cnt ≤ (xs.length : Int)) : (srcL xs l cnt).length = cnt.toNat := by
  unfold srcL
  rw [List.length_drop, List.length_take]; omega
theorem src_cells {I : Hp} {w : World} {C : List Ch} {α : Type} {E : TypeId} {R : Rep α} (hSh : R.Sh) {k : Nat} (hk : 0 < k) (hR : R.size = k) {v u : Value} {xs : List α} {l m cnt : Int} (hst : St I w0 w (Ch.own (rSlice E R) [v] xs :: C)) (hv : Vw u v k xs.length l m) (h1 : 0 ≤ cnt) (h2 : l + cnt ≤ (xs.length : Int)) (h3 : cnt ≤ m - l) :
    ∃ ao sc news, u = .slice ao (m.toNat - l.toNat) sc ∧ RdCells R I k news (srcL xs l cnt) ∧ (news = [] ∨ ∃ a, ao = some a ∧ ∀ j v, news[j]? = some v → w.cell? (a.add j) = some v) := by
  rcases hv with ⟨q0, hu, g1, g2, g3⟩ | ⟨g, ofs, cp, x', q0, hu, q1, q2, q3, q4, q5, q6⟩
  · have hx : xs = [] := List.eq_nil_of_length_eq_zero g1
    subst hx
    refine ⟨none, 0, [], by rw [hu, g2, g3]; rfl, ⟨by simp [srcL], fun i y hy => by simp [srcL] at hy⟩, .inl rfl⟩
  · rw [q0] at hst
    obtain ⟨-, r1, r2, cur, r3, r4, hat⟩ := row_at (k := k) hSh hR hst
    have m1 : xs.length * k ≤ cp * k := Nat.mul_le_mul_right _ r1
    have hrd := rdCells_part (R := R) (I := I) (xs := xs) (cur := cur) (ofs := ofs) (k := k) (j := l.toNat) (m := (l + cnt).toNat) (by omega) (by omega) (by omega) hat
    refine ⟨_, _, pCells cur ofs k l.toNat (l + cnt).toNat, hu, hrd, ?_⟩
    by_cases hc : cnt = 0
    · left
      have := hrd.1
      have e : ((xs.take (l + cnt).toNat).drop l.toNat).length = 0 := by rw [List.length_drop, List.length_take]; omega
      rw [e, Nat.zero_mul] at this
      exact List.eq_nil_of_length_eq_zero this
    · right
      refine ⟨_, rfl, fun j v hj => ?_⟩
      have hx' : x' = l.toNat * k := by
        rcases q6 with q6 | q6
        · exfalso; omega
        · exact q6
      have hj' := (List.getElem?_eq_some_iff.1 hj).1
      have hll : (pCells cur ofs k l.toNat (l + cnt).toNat).length = ((l + cnt).toNat - l.toNat) * k := pCells_len (cap := xs.length) (by omega) (by omega) (by omega)
      rw [hll] at hj'
      rw [pCells_get hj'] at hj
      simp only [Addr.add_mid]
      rw [hx', Nat.add_assoc, cell_at r3]
      exact hj
theorem copy_into {I : Hp} {ev : Operand → Value} {w : World} {C : List Ch} {α : Type} {E T U : TypeId} {R : Rep α} (hSh : R.Sh) (hC : Cpy R R) {k : Nat} {agg : Bool} (hT : P.underlying T = some (.slice E)) (hE : TI P E agg k) (hk : 0 < k) (hR : R.size = k) {v ux : Value} {xs ys : List α} {l m l2 m2 : Int} {ao : Option Addr} {sc : Nat} {news : List Value}
    (ho : o.op = .call { callee := .builtin .copy, args := #[x, y], argTypes := #[T, U] }) (hx : ev x = ux) (hy : ev y = .slice ao (m2.toNat - l2.toNat) sc) (hst : St I w0 w (Ch.own (rSlice E R) [v] xs :: C)) (hv : Vw ux v k xs.length l m) (hn : RdCells R I k news ys) (hsrc : news = [] ∨ ∃ a, ao = some a ∧ ∀ j v, news[j]? = some v → w.cell? (a.add j) = some v)
    (h0 : 0 ≤ l2) (h02 : l2 ≤ m2) (hys : (ys.length : Int) = min (m2 - l2) (m - l)) (hl : l ≤ (xs.length : Int)) :
    Upon P (fun r w' => r = .int .i64 (min (m2 - l2) (m - l)) ∧ ∃ u', (∀ a b c, v = .slice a b c → u' = .slice a (cpyW xs l.toNat ys).length c) ∧ St I w0 w' (Ch.own (rSlice E R) [u'] (cpyW xs l.toNat ys) :: C)) ((execOp ev o).run P w) := by
  have hmin : ((Nat.min (m2.toNat - l2.toNat) (m.toNat - l.toNat) : Nat) : Int) = min (m2 - l2) (m - l) := by
    obtain ⟨_, _, _, g1, g2⟩ := hv.hd
    show ((min (m2.toNat - l2.toNat) (m.toNat - l.toNat) : Nat) : Int) = _
    omega
  have hcnt : Nat.min (m2.toNat - l2.toNat) (m.toNat - l.toNat) = ys.length := by omega
  rcases hv with ⟨q0, hu, g1, g2, g3⟩ | ⟨g, ofs, cp, x', q0, hu, q1, q2, q3, q4, q5, q6⟩
  · have hxx : xs = [] := List.eq_nil_of_length_eq_zero g1
    have hy0 : ys = [] := List.eq_nil_of_length_eq_zero (by rw [← hcnt, g2, g3]; exact Nat.min_zero _)
    have hrun : (Builtin.copy_ #[T, U] o.type #[.slice none 0 0, .slice ao (m2.toNat - l2.toNat) sc]).run P w = .ok (goInt 0) w := by
      have hm0 : (m2.toNat - l2.toNat).min 0 = 0 := Nat.min_zero _
      cases ao with
      | none => simp [Builtin.copy_, run_underlying hT, Builtin.lenOf, TI.size hE w, Builtin.firstCells, hm0]
      | some a =>
        have h0 : (loadCells a 0).run P w = .ok #[] w := run_loadCells_list (P := P) w a [] (by simp)
        simp [Builtin.copy_, run_underlying hT, Builtin.lenOf, TI.size hE w, Builtin.firstCells, hm0, h0]
    rw [run_call_copy ho (hx.trans hu) hy hrun]
    refine ⟨?_, v, fun a b c e => ?_, ?_⟩
    · rw [← hmin, hcnt, hy0]; rfl
    · rw [q0] at e
      injection e with e1 e2 e3
      rw [q0, e1, ← e3, hxx, hy0]; simp [cpyW]
    · rw [hxx] at hst
      rw [hxx, hy0]
      have : cpyW ([] : List α) l.toNat [] = [] := by simp [cpyW]
      rw [this]; exact hst
  · rw [q0] at hst ⊢
    obtain ⟨-, r1, r2, cur, r3, r4, hat⟩ := row_at (k := k) hSh hR hst
    have hfit : l.toNat + ys.length ≤ cp := by omega
    have m0 : (l.toNat + ys.length) * k = l.toNat * k + ys.length * k := Nat.add_mul _ _ _
    have m1 : (l.toNat + ys.length) * k ≤ cp * k := Nat.mul_le_mul_right _ hfit
    have hcl : (cur.toList.drop ofs).length = cur.size - ofs := by rw [List.length_drop, Array.length_toList]
    have hnl := hn.1
    -- where it goes
    have hx2 : x' = l.toNat * k ∨ ys = [] := by
      rcases q6 with q6 | q6
      · right; exact List.eq_nil_of_length_eq_zero (by omega)
      · exact .inl q6
    have hrun := run_copy_w (P := P) (w := w) (dT := T) (sT := U) (ty := o.type) (k := k) (g := g) (o := ofs + x') (dLen := m.toNat - l.toNat) (dCap := cp - l.toNat) (sLen := m2.toNat - l2.toNat) (sCap := sc) (ao := ao) (cs := news) hT (TI.size hE w) (by rw [hnl, hcnt]) hsrc (fun q hq => by
      rw [hnl] at hq
      rcases hx2 with hx2 | hx2
      · rw [hx2, Nat.add_assoc, cell_at r3, List.getElem?_eq_getElem (by rw [hcl]; omega)]; rfl
      · rw [hx2] at hq; simp at hq) (fun q _ => by simp [World.frozen?, r3]) (hn.one hk)
    rw [run_call_copy ho (hx.trans hu) hy hrun]
    refine ⟨?_, .slice (some ⟨g, ofs, none⟩) (cpyW xs l.toNat ys).length cp, fun a b c e => ?_, ?_⟩
    · show goInt (Nat.min _ _) = _
      rw [← hmin]; rfl
    · injection e with e1 e2 e3
      rw [← e1, ← e3]
    · have := row_copy hSh hC hk hR (p := l.toNat) hn (by omega) hfit (by unfold lim; unfold maxLen at r2; omega) hst
      rcases hx2 with hx2 | hx2
      · rw [hx2]; exact this
      · have hn0 : news = [] := List.eq_nil_of_length_eq_zero (by rw [hnl, hx2]; simp)
        rw [hn0] at this ⊢
        exact this
theorem cnt_facts {b c : Vb} : cntI b c ≤ c.m - c.l ∧ cntI b c ≤ b.m - b.l := ⟨Int.min_le_left _ _, Int.min_le_right _ _⟩
theorem sCopyW_ok (hT : TTok P tt) {T U : TypeId} (ho : o.op = .call { callee := .builtin .copy, args := #[x, y], argTypes := #[T, U] }) (h : sCopyW tt s k T x y = some res) : Oks P w0 s o k res := by
  obtain ⟨d, hd, h⟩ := bind_some h
  obtain ⟨E, hE, h⟩ := bind_some h
  obtain ⟨e, he, h⟩ := bind_some h
  obtain ⟨b, hb, h⟩ := bind_some h
  obtain ⟨c, hc, h⟩ := bind_some h
  obtain ⟨hn, h⟩ := chkT_ok h
  simp only [Bool.and_eq_true] at hn
  obtain ⟨⟨⟨n1, n2⟩, n3⟩, n4⟩ := hn
  have n1 : e.n = b.k := Nat.eq_of_beq_eq_true n1
  have n2 : c.k = b.k := Nat.eq_of_beq_eq_true n2
  have n3 : b.r.E = E := Nat.eq_of_beq_eq_true n3
  obtain ⟨hr, hk, hvw⟩ := vbOf_ok (P := P) (w0 := w0) hb
  obtain ⟨hp, -⟩ := rowOf_ok hr
  have hTE : P.underlying T = some (.slice b.r.E) := ((hT.get hd).el E hE).trans (by rw [n3])
  have hti : TI P b.r.E e.agg b.k := by rw [n3, ← n1]; exact (hT.get he).ti
  have hkp : 0 < b.k := by rw [hk]; exact Ty.size_pos _
  have hR : b.r.t.rep.size = b.k := b.r.t.rep_size.trans hk.symm
  split at h
  · rename_i hbeq
    have hh := Hdr.beq_eq hbeq
    obtain ⟨hr2, hk2, hvw2⟩ := vbOf_ok (P := P) (w0 := w0) hc
    have hcr : c.r = b.r := by
      rw [hh] at hr2
      exact Option.some.inj (hr2.symm.trans hr)
    obtain ⟨u, hc1, h⟩ := bind_some h
    obtain ⟨c1, c2, c3, c4, c5⟩ := chk_some hc1
    -- the run
    have key : ∀ J θ, Fine P w0 J θ s → ∀ w C, St J w0 w (toCh P θ (b.r.ent b.h) :: C) → Upon P (fun r w' => r = .int .i64 (cntI b c) ∧ ∃ u', (∀ a q z, hv θ b.h = .slice a q z → u' = .slice a (cpyW b.r.xs b.l.toNat (srcL b.r.xs c.l (cntI b c))).length z) ∧ St J w0 w' (Ch.own (rSlice b.r.E b.r.t.rep) [u'] (cpyW b.r.xs b.l.toNat (srcL b.r.xs c.l (cntI b c))) :: C)) ((execOp (evL (envL θ s)) o).run P w) := by
      intro J θ hf w C hs
      have hst : St J w0 w (Ch.own (rSlice b.r.E b.r.t.rep) [hv θ b.h] b.r.xs :: C) := hs
      have h1 := hvw hf rfl hst
      have h2 : Vw (evL (envL θ s) y) (hv θ b.h) b.k b.r.xs.length c.l c.m := by
        have := hvw2 hf rfl (xs := c.r.xs) (by rw [hcr, hh]; exact hst)
        rwa [hcr, hh, n2] at this
      obtain ⟨ao, sc, news, hy, hrd, hsrc⟩ := src_cells (Ty.sh_ok n4) hkp hR hst h2 c2 c3 (cnt_facts).1
      have hlen := srcL_len (xs := b.r.xs) c1 c2 c3
      exact copy_into (P := P) (w0 := w0) (o := o) (Ty.sh_ok n4) (Ty.cpy n4) hTE hti hkp hR ho rfl hy hst h1 hrd hsrc c1 (by have := (cnt_facts (b := b) (c := c)).1; omega) (by rw [hlen]; unfold cntI at *; omega) c5
    have hll := srcL_len (xs := b.r.xs) c1 c2 c3
    have hcl := cpyW_length (xs := b.r.xs) (ys := srcL b.r.xs c.l (cntI b c)) (p := b.l.toNat) (by omega)
    have hcf := (cnt_facts (b := b) (c := c)).2
    split at h
    · obtain ⟨u2, hc2, h⟩ := bind_some h
      have d1 := chk_some hc2
      refine ⟨_, h, good_set (fact := fun _ v => v = .int .i64 (cntI b c)) hr (fun J θ hf => fun w C hs => ?_) (fun J θ u hf hu hlt => ⟨rfl, hu.symm⟩)⟩
      refine (key J θ hf w C hs).imp fun r w' hv0 => ⟨hv0.1, ?_⟩
      obtain ⟨-, u', e1, e2⟩ := hv0
      have hst : St J w0 w (Ch.own (rSlice b.r.E b.r.t.rep) [hv θ b.h] b.r.xs :: C) := hs
      obtain ⟨ad, f1, f2, f3⟩ := own_cap hst
      have := e1 _ _ _ f1
      have hu' : u' = hv θ b.h := by
        rw [this, hcl, show max b.r.xs.length (b.l.toNat + (srcL b.r.xs c.l (cntI b c)).length) = b.r.xs.length from by omega]
        exact f1.symm
      rw [hu'] at e2
      exact e2
    · obtain ⟨q, hq, h⟩ := bind_some h
      obtain ⟨u2, hc2, h⟩ := bind_some h
      obtain ⟨d1, d2⟩ := chk_some hc2
      refine ⟨_, h, perm2 hp, says_plain rfl, fun J θ hf => ?_⟩
      obtain ⟨t1, k0, N0, t2⟩ := topOf_ok hq hf.env
      refine OpT.weak (fact := fun v => v = .int .i64 (cntI b c)) (gv := fun _ => [Ch.own (rSlice b.r.E b.r.t.rep) [hv θ q.1] (cpyW b.r.xs b.l.toNat (srcL b.r.xs c.l (cntI b c)))]) (fun w C hs => ?_) (fun u hu => ⟨rfl, hu.symm, fun g hg => ?_⟩) (fun u hu => ?_)
      · refine (key J θ hf w C hs).imp fun r w' hv0 => ⟨hv0.1, ?_⟩
        obtain ⟨-, u', e1, e2⟩ := hv0
        have hst : St J w0 w (Ch.own (rSlice b.r.E b.r.t.rep) [hv θ b.h] b.r.xs :: C) := hs
        obtain ⟨ad, f1, f2, f3⟩ := own_cap hst
        have := e1 _ _ _ f1
        have hlen : (cpyW b.r.xs b.l.toNat (srcL b.r.xs c.l (cntI b c))).length = q.2.toNat := by rw [hcl]; omega
        have hu' : u' = hv θ q.1 := by
          rw [this, hlen]
          rcases t2 with ⟨q0, hu, g1, g2, g3⟩ | ⟨g, ofs, cp, x', q0, hu, q1, q2, q3, q4, q5, q6⟩
          · rw [q0] at f1
            injection f1 with i1 i2 i3
            rw [hu, ← i1, g3, q0]; rfl
          · rw [q0] at f1
            injection f1 with i1 i2 i3
            have hx0 : x' = 0 := by simpa using q5
            rw [hu, ← i1, q0, hx0]
            simp [capV]
        rw [hu'] at e2
        exact e2
      · obtain rfl := List.mem_singleton.1 hg
        exact ⟨Nat.lt_succ_of_lt t1, Nat.lt_succ_self _, trivial⟩
      · show [Ch.own _ [hv θ q.1] _] = [Ch.own _ [hv (upd θ s.nxt u) q.1] _]
        rw [show hv (upd θ s.nxt u) q.1 = hv θ q.1 from hv_same Same.upd t1]
        rfl
  · obtain ⟨c, hc', h⟩ := bind_some h
    obtain ⟨hkk, h⟩ := chkT_ok h
    have n2 : c.k = b.k := Nat.eq_of_beq_eq_true hkk
    obtain ⟨hr2, hk2, hvw2⟩ := vbIn_ok (P := P) (w0 := w0) hc'
    obtain ⟨hp2, -⟩ := rowOf_ok hr2
    obtain ⟨ys, hys, h⟩ := bind_some h
    obtain ⟨u, hc1, h⟩ := bind_some h
    obtain ⟨c1, c2, c3, c4, c5, c6⟩ := chk_some hc1
    have hent := castEq_ent (h := c.h) hys
    have hyl : c.r.xs.length = ys.length := by
      obtain ⟨e1, e2⟩ := castEq_ok hys
      obtain ⟨x1, x2, x3, x4, x5, ver, E2, t2, xs2, rest2⟩ := c
      simp only at e1 e2 ⊢
      injection e1 with e3 e4
      subst e3; subst e4
      rw [e2]
    have hll := srcL_len (xs := ys) c1 c2 c3
    have hcl := cpyW_length (xs := b.r.xs) (ys := srcL ys c.l (cntI b c)) (p := b.l.toNat) (by omega)
    have hcf := (cnt_facts (b := b) (c := c)).2
    have hperm : s.chs.Perm ([c.r.ent c.h] ++ [b.r.ent b.h] ++ c.r.rest) := by
      refine hp.trans ((hp2.cons _).trans ?_)
      exact List.Perm.swap _ _ _
    refine ⟨_, h, hperm, says_plain rfl, fun J θ hf => ?_⟩
    have hok := ent_ok hf hp
    refine OpT.weak (fact := fun v => v = .int .i64 (cntI b c)) (gv := fun _ => [toCh P θ (c.r.ent c.h), Ch.own (rSlice b.r.E b.r.t.rep) [hv θ b.h] (cpyW b.r.xs b.l.toNat (srcL ys c.l (cntI b c)))]) (fun w C hs => ?_) (fun u hu => ⟨rfl, hu.symm, fun g hg => ?_⟩) (fun u hu => ?_)
    · have hs : St J w0 w (toCh P θ (c.r.ent c.h) :: Ch.own (rSlice b.r.E b.r.t.rep) [hv θ b.h] b.r.xs :: C) := hs
      have hsb := hs.perm (List.Perm.swap _ _ _)
      have h1 := hvw hf rfl hsb
      have h2 := hvw2 hf rfl (show St J w0 w (Ch.own (rSlice c.r.E c.r.t.rep) [hv θ c.h] c.r.xs :: _) from hs)
      rw [hyl, n2] at h2
      rw [hent] at hs hsb ⊢
      have hs2 : St J w0 w (Ch.own (rSlice b.r.E b.r.t.rep) [hv θ c.h] ys :: Ch.own (rSlice b.r.E b.r.t.rep) [hv θ b.h] b.r.xs :: C) := hs
      obtain ⟨ao, sc, news, hy, hrd, hsrc⟩ := src_cells (Ty.sh_ok n4) hkp hR hs2 h2 c2 c3 (cnt_facts).1
      have := copy_into (P := P) (w0 := w0) (o := o) (Ty.sh_ok n4) (Ty.cpy n4) hTE hti hkp hR ho rfl hy hsb h1 hrd hsrc c1 (by have := (cnt_facts (b := b) (c := c)).1; omega) (by rw [hll]; unfold cntI at *; omega) c5
      refine this.imp fun r w' hv0 => ⟨hv0.1, ?_⟩
      obtain ⟨-, u', e1, e2⟩ := hv0
      obtain ⟨ad, f1, f2, f3⟩ := own_cap hsb
      have := e1 _ _ _ f1
      have hu' : u' = hv θ b.h := by
        rw [this, hcl, show max b.r.xs.length (b.l.toNat + (srcL ys c.l (cntI b c)).length) = b.r.xs.length from by omega]
        exact f1.symm
      rw [hu'] at e2
      exact e2.perm (List.Perm.swap _ _ _)
    · obtain rfl := List.mem_singleton.1 hg
      exact ⟨Nat.lt_succ_of_lt hok.1, Nat.lt_succ_self _, trivial⟩
    · show [toCh P θ (c.r.ent c.h), Ch.own _ [hv θ b.h] _] = [toCh P θ (c.r.ent c.h), Ch.own _ [hv (upd θ s.nxt u) b.h] _]
      rw [show hv (upd θ s.nxt u) b.h = hv θ b.h from hv_same Same.upd hok.1]
      rfl
theorem own_block {α : Type} {E : TypeId} {R : Rep α} {I : Hp} {w0 w : World} {C : List Ch} {g ofs n cap : Nat} {xs : List α} (h : St I w0 w (Ch.own (rSlice E R) [.slice (some ⟨g, ofs, none⟩) n cap] xs :: C)) : ∃ cur, w.heap[g]? = some (.cells cur E (0, 0)) ∧ ofs + cap * R.size ≤ cur.size ∧ n = xs.length ∧ n ≤ cap ∧ ∃ F, Sep I C w F ∧ g ∉ F := by
  obtain ⟨hb, hi, F, ⟨G, K, rfl, ⟨hl, e2⟩, e3⟩, h4, h5⟩ := h
  rcases e2 with ⟨hv, rfl, rfl⟩ | ⟨g', ofs', cap', cur, K1, hv, k1, k2, k3, k4, rfl, k5⟩
  · simp at hv
  · simp only [List.cons.injEq, Value.slice.injEq, Option.some.injEq, Addr.mk.injEq, and_true] at hv
    obtain ⟨⟨rfl, rfl⟩, rfl, rfl⟩ := hv
    refine ⟨cur, k1, k4, rfl, k2, K, e3, ?_⟩
    intro hg
    rw [List.cons_append] at h4
    exact (List.nodup_cons.1 h4).1 (List.mem_append_right _ hg)
theorem sOver_ok {kf : FuncId} (hov : OvOk P kf) {ts : Array TypeId} (ho : o.op = .call { callee := .value (.func kf), args := #[x, y], argTypes := ts }) (h : sOver s k x y = some res) : Oks P w0 s o k res := by
  unfold sOver at h
  split at h
  · rename_i hh hx
    obtain ⟨r, hr, h⟩ := bind_some h
    obtain ⟨c, hc, h⟩ := bind_some h
    obtain ⟨u, hk, h⟩ := bind_some h
    obtain ⟨c1, c2⟩ := chk_some hk
    obtain ⟨hp, -⟩ := rowOf_ok hr
    obtain ⟨hr2, hk2, hvw2⟩ := vbIn_ok (P := P) (w0 := w0) hc
    obtain ⟨hp2, -⟩ := rowOf_ok hr2
    have hperm : s.chs.Perm ([r.ent hh, c.r.ent c.h] ++ [] ++ c.r.rest) := hp.trans (hp2.cons _)
    refine ⟨_, h, hperm, says_plain rfl, fun J θ hf => OpT.weak (fact := (· = .bool false)) (gv := fun _ => [toCh P θ (r.ent hh), toCh P θ (c.r.ent c.h)]) (fun w C hs => ?_) (fun u hu => ⟨rfl, hu.symm, fun g hg => by cases hg⟩) (fun u hu => rfl)⟩
    have hs1 : St J w0 w (Ch.own (rSlice r.E r.t.rep) [hv θ hh] r.xs :: Ch.own (rSlice c.r.E c.r.t.rep) [hv θ c.h] c.r.xs :: C) := hs
    have hs2 := hs1.perm (List.Perm.swap _ _ _)
    have h2 := hvw2 hf rfl hs2
    have h1 := vw_self (k := 1) hs1
    rcases h1 with ⟨q0, -, g1, -, -⟩ | ⟨g, ofs, cp, x', q0, -, -⟩
    · omega
    rcases h2 with ⟨p0, hu, e1, e2, e3⟩ | ⟨g2, ofs2, cp2, x2, p0, hu, p1, p2, p3, p4, p5, p6⟩
    · omega
    rw [q0] at hs1
    rw [q0, p0] at hs2
    obtain ⟨curA, a1, a2, a3, a4, -⟩ := own_block hs1
    obtain ⟨curB, b1, b2, b3, b4, FB, b5, b6⟩ := own_block hs2
    have hne : g ≠ g2 := by
      intro e
      obtain ⟨GA, KA, hFB, hA, -⟩ := b5
      have : g ∈ GA := by
        obtain ⟨-, hA⟩ := hA
        rcases hA with ⟨hv0, -, -⟩ | ⟨g', ofs', cap', cur, K1, hv0, -, -, -, -, rfl, -⟩
        · simp at hv0
        · simp only [List.cons.injEq, Value.slice.injEq, Option.some.injEq, Addr.mk.injEq, and_true] at hv0
          rw [hv0.1.1]; simp
      exact b6 (by rw [hFB, ← e]; exact List.mem_append_left _ this)
    have hkp : 1 ≤ c.r.t.rep.size := by rw [Ty.rep_size]; exact Ty.size_pos _
    have hcpos : 0 < cp2 := by omega
    have hb0 : 0 < curB.size := by
      have : cp2 * 1 ≤ cp2 * c.r.t.rep.size := Nat.mul_le_mul_left _ hkp
      omega
    have hrun := hov w g g2 ofs (ofs2 + x2) r.xs.length (c.m.toNat - c.l.toNat) cp (cp2 - c.l.toNat) curA curB _ _ hne a1 b1 hb0
    have hxv : evL (envL θ s) x = .slice (some ⟨g, ofs, none⟩) r.xs.length cp := (opd_ev (θ := θ) hx).trans q0
    have he : (execOp (evL (envL θ s)) o).run P w = .ok (.value (.bool false)) w := by
      simp only [execOp, ho, resolve, show evL (envL θ s) (.func kf) = .func (.func kf) #[] #[] from rfl, Deferred.ofValue, Sem.run_bind, Sem.run_pure, Result.andThen_ok, invoke, List.map_toArray, List.map_cons, List.map_nil, hxv, hu]
      exact hrun
    rw [he]
    exact ⟨rfl, hs⟩
  · cases h
theorem ov_ok {kf : FuncId} {fn : Func} {tS tR E : TypeId} {n : Nat} {agg : Bool} (hf : P.funcs[kf]? = some fn) (hname : (fn.name == "runtime.NumGoroutine") = false) (hb : fn.body.isNone = true) (hn : Extern.findNext fn = none) (he : Extern.find fn = some (Extern.SlicesOverlaps.overlaps #[tS, tS] #[tR])) (hS : P.underlying tS = some (.slice E)) (hE : TI P E agg n) : OvOk P kf := by
  intro w g h oa ob la lb ca cb curA curB tA tB hne hA hB hpos
  rw [run_callFunc_extern hf hname hb hn he, Lib.run_overlaps_apart (P := P) w tS tR E hS n (fun w => TI.size hE w) ⟨g, oa, none⟩ ⟨h, ob, none⟩ la ca lb cb hne tA tB curA.size curB.size (by simp [World.shape?, hA]) (by simp [World.shape?, hB]) (by omega) (by simp [World.frozen?, hA]) (by simp [World.frozen?, hA])]
  rfl
end
end Go.Proofs.YtfkjjnddefojjaaGreatDoor.R
/- Append of a part of an own row to another; places of rows out of which a part is taken. No program text is named here. -/
set_option linter.unusedVariables false
set_option linter.unusedSimpArgs false
set_option linter.unnecessarySimpa false
set_option linter.unusedSectionVars false
namespace Go.Proofs.YtfkjjnddefojjaaGreatDoor.R
open Go.RowKit
open Go.Proofs.YtfkjjnddefojjaaGreatDoor.D

structure PartA where
  h : Hdr
  ver : Nat
  E : TypeId
  t : Ty
  xs : List t.den
  lo : Nat
  hi : Nat
def cutAv : AV → Option PartA
  | .sub h ver E t xs l => some ⟨h, ver, E, t, xs, l.toNat, xs.length⟩
  | .pre h ver E t xs l => some ⟨h, ver, E, t, xs, 0, l.toNat⟩
  | _ => none
section
variable {Y : Type} (tt : TT) (s : Sg) (k : Res → Option Y)
def apqY (E : TypeId) (b : Nat) (t : Ty) (xs : List t.den) (nsx rest : List Ent) (q : PartA) : Option Y :=
  (rowOf q.h rest).bind fun r => chkT (Nat.beq r.ver q.ver && (t.sh && t.dp)) ((castEq (.sl r.E r.t) (.sl E t) r.xs).bind fun ys => (appI b xs ((ys.take q.hi).drop q.lo)).bind fun zs => k ⟨[r.ent q.h], nsx, r.rest, [(⟨s.nxt, []⟩, .own (.sl E t) zs)], .one (.own ⟨s.nxt, []⟩)⟩)
def sAppP (T : TypeId) (x y : Operand) : Option Y := (td tt T).bind fun d => d.el.bind fun E => (td tt E).bind fun e => e.bytes.bind fun b => (opd s y).bind fun yv => (cutAv yv).bind fun q => match opd s x with
  | some (.one (.own h)) => (rowOf h s.chs).bind fun r => chkT (Nat.beq r.E E && Nat.beq r.t.size e.n) (apqY s k r.E b r.t r.xs [r.ent h] r.rest q)
  | some (.one (.val v)) => chkT (isNil v && Nat.beq q.t.size e.n) (apqY s k E b q.t [] [] s.chs q)
  | _ => none
end
section
variable {Y : Type} {tt : TT} {an : List (Nat × Ty)} {s : Sg} {k : Res → Option Y} {P : Program} {w0 : World} {o : Oper} {res : Y} {x y : Operand}
theorem cutAv_ok {J : Hp} {θ : Th} {n : Nat} {chs : List Ent} {v : AV} {q : PartA} (h : cutAv v = some q) (hv' : v.ok P w0 J θ n chs) : v.v θ = subV (hv θ q.h) q.lo q.hi q.t.size ∧ q.lo ≤ q.hi ∧ q.hi ≤ q.xs.length ∧ q.h.id < n ∧ Mem chs n q.h q.ver (.own (.sl q.E q.t) q.xs) := by
  unfold cutAv at h
  split at h
  · rename_i hh ver E t xs l
    obtain rfl := Option.some.inj h
    obtain ⟨h1, h2, h3⟩ := hv'
    exact ⟨rfl, by show l.toNat ≤ xs.length; omega, Nat.le_refl _, h1, h3⟩
  · rename_i hh ver E t xs l
    obtain rfl := Option.some.inj h
    obtain ⟨h1, h2, h3⟩ := hv'
    exact ⟨rfl, Nat.zero_le _, by show l.toNat ≤ xs.length; omega, h1, h3⟩
  · cases h
theorem opT_app_part {I : Hp} {ev : Operand → Value} {α : Type} {E T : TypeId} {R : Rep α} {z : Value} {n b : Nat} {x y : Operand} {s u : Value} {xs ys zs : List α} {lo hi : Nat} (h : appI b xs ((ys.take hi).drop lo) = some zs) (h1 : lo ≤ hi) (h2 : hi ≤ ys.length) (hd : R.Dp) (hc : Cpy R R) (hT : P.underlying T = some (.slice E)) (hE : TZ P E z n b) (hzs : z.cells.size = n) (hn : 0 < n) (hR : R.size = n) (hb1 : 1 ≤ b) (ho : o.op = .call { callee := .builtin .append, args := #[x, y], argTypes := #[T, T] }) (hx : ev x = s) (hy : ev y = subV u lo hi n) :
    OpT P I w0 o ev [Ch.own (rSlice E R) [s] xs, Ch.own (rSlice E R) [u] ys] (fun _ => True) (fun v => [Ch.own (rSlice E R) [v] zs, Ch.own (rSlice E R) [u] ys]) := by
  intro w C hs
  have key := OpT_lend (P := P) (I := I) (w0 := w0) (o := o) (ev := ev) (ls := [Ch.own (rSlice E R) [u] ys]) (rn := [Ch.own (rSlice E R) [s] xs]) (fact := fun _ => True) (gv := fun v => [Ch.own (rSlice E R) [v] zs]) (fun v => ⟨dp_own (dp_slice hd), trivial⟩) (fun J' hJ hrd _ => opT_app_fro h hc hR (rd_sub (hrd _ _ _ (List.mem_singleton.2 rfl)) h1 h2 hR) hT hE hzs hn hR hb1 ho hx hy) w C (hs.perm ((List.Perm.swap _ _ _).append_right C))
  exact key.imp fun v w hv => ⟨hv.1, hv.2.perm ((List.Perm.swap _ _ _).append_right C)⟩
theorem part_row {q : PartA} {nsx rest : List Ent} {r : Row} {J : Hp} {θ : Th} {n : Nat} (hp : s.chs.Perm (nsx ++ rest)) (hr : rowOf q.h rest = some r) (hv : r.ver = q.ver) (hm : Mem s.chs n q.h q.ver (.own (.sl q.E q.t) q.xs)) : Chk.own (.sl r.E r.t) r.xs = Chk.own (.sl q.E q.t) q.xs := by
  obtain ⟨hp2, -⟩ := rowOf_ok hr
  exact hm.2 (r.ent q.h) (hp.mem_iff.2 (List.mem_append_right _ (hp2.mem_iff.2 (by simp)))) _ ⟨rfl, .inl ⟨hv, rfl⟩⟩
theorem apqY_ok {T E : TypeId} {z : Value} {n b : Nat} {t : Ty} {xs : List t.den} {nsx rest : List Ent} {q : PartA} {yv : AV} (hq : cutAv yv = some q) (hp : s.chs.Perm (nsx ++ rest)) (hT : P.underlying T = some (.slice E)) (hE : TZ P E z n b) (hzs : z.cells.size = n) (hn : 0 < n) (ht : t.size = n) (hb1 : 1 ≤ b) (ho : o.op = .call { callee := .builtin .append, args := #[x, y], argTypes := #[T, T] }) (hy : opd s y = some yv)
    (hx : ∀ J θ, Fine P w0 J θ s → ∃ v, evL (envL θ s) x = v ∧ ∀ (rn : List Ch) (fact : Value → Prop) (gv : Value → List Ch), OpT P J w0 o (evL (envL θ s)) (Ch.own (rSlice E t.rep) [v] xs :: rn) fact gv → OpT P J w0 o (evL (envL θ s)) (nsx.map (toCh P θ) ++ rn) fact gv)
    (h : apqY s k E b t xs nsx rest q = some res) : Oks P w0 s o k res := by
  unfold apqY at h
  obtain ⟨r, hr, h⟩ := bind_some h
  obtain ⟨hc, h⟩ := chkT_ok h
  rw [Bool.and_eq_true, Bool.and_eq_true] at hc
  obtain ⟨hv1, hsh, hdp⟩ := hc
  have hv1 := Nat.eq_of_beq_eq_true hv1
  obtain ⟨ys, hys, h⟩ := bind_some h
  obtain ⟨zs, hzs', h⟩ := bind_some h
  obtain ⟨hpr, -⟩ := rowOf_ok hr
  have he := castEq_ent (h := q.h) hys
  refine ⟨_, h, good_row (hp.trans ((hpr.append_left nsx).trans List.perm_middle)) fun J θ hf => ?_⟩
  obtain ⟨v, hv', hx⟩ := hx J θ hf
  obtain ⟨p1, p2, p3, -, p5⟩ := cutAv_ok hq (opd_ok hf hy)
  have hrow := part_row (J := J) (θ := θ) hp hr hv1 p5
  have hent : r.ent q.h = (q.h, r.ver, .own (.sl q.E q.t) q.xs) := by
    show (q.h, r.ver, Chk.own (.sl r.E r.t) r.xs) = _
    rw [hrow]
  rw [he] at hent
  have hcc : Chk.own (.sl E t) ys = Chk.own (.sl q.E q.t) q.xs := (Prod.mk.inj (Prod.mk.inj hent).2).2
  have hsz : q.t.size = n ∧ q.xs.length = ys.length := by
    clear hv' hx h hys hzs' hent he hrow
    obtain ⟨qh, qver, qE, qt, qxs, qlo, qhi⟩ := q
    simp only at hcc
    have e1 : Ty.sl E t = Ty.sl qE qt := (Chk.own.inj hcc).1
    obtain ⟨rfl, rfl⟩ := Ty.sl.inj e1
    have e2 : ys = qxs := eq_of_heq (Chk.own.inj hcc).2
    exact ⟨ht, by rw [e2]⟩
  rw [he]
  have := opT_app_part (P := P) (I := J) (w0 := w0) (R := t.rep) hzs' p2 (by rw [← hsz.2]; exact p3) (Ty.dp_ok hdp) (Ty.cpy hsh) hT hE hzs hn (t.rep_size.trans ht) hb1 ho hv' ((opd_ev (θ := θ) hy).trans (by rw [p1, hsz.1]))
  exact OpT.permN (List.perm_append_comm (l₁ := [_])) (hx _ _ _ this)
theorem sAppP_ok (hT : TTok P tt) {T : TypeId} (ho : o.op = .call { callee := .builtin .append, args := #[x, y], argTypes := #[T, T] }) (h : sAppP tt s k T x y = some res) : Oks P w0 s o k res := by
  obtain ⟨d, hd, h⟩ := bind_some h
  obtain ⟨E, hE, h⟩ := bind_some h
  obtain ⟨e, he, h⟩ := bind_some h
  obtain ⟨b, hb, h⟩ := bind_some h
  obtain ⟨yv, hy, h⟩ := bind_some h
  obtain ⟨q, hq, h⟩ := bind_some h
  have hdk := hT.get hd
  have hek := hT.get he
  obtain ⟨z, hz1, hz2, hz3⟩ := hek.zero b hb
  have hzs : z.cells.size = e.n := by rw [hz2, List.size_toArray, zero_len, hek.sz]
  split at h
  · rename_i hh hx
    obtain ⟨r, hr, h⟩ := bind_some h
    obtain ⟨hc, h⟩ := chkT_ok h
    rw [Bool.and_eq_true] at hc
    have hc1 := Nat.eq_of_beq_eq_true hc.1
    have hc2 := Nat.eq_of_beq_eq_true hc.2
    obtain ⟨hp, -⟩ := rowOf_ok hr
    exact apqY_ok (nsx := [r.ent hh]) hq hp ((hdk.el E hE).trans (by rw [hc1])) (by rw [hc1]; exact hz1) hzs (by rw [← hc2]; exact Ty.size_pos _) hc2 hz3 ho hy (fun J θ hf => ⟨_, opd_ev hx, fun rn fact gv h => h⟩) h
  · rename_i v hx
    obtain ⟨hc, h⟩ := chkT_ok h
    rw [Bool.and_eq_true] at hc
    have hc1 := isNil_ok hc.1
    have hc2 := Nat.eq_of_beq_eq_true hc.2
    refine apqY_ok (nsx := []) hq (List.Perm.refl _) (hdk.el E hE) hz1 hzs (by rw [← hc2]; exact Ty.size_pos _) hc2 hz3 ho hy (fun J θ hf => ⟨_, opd_ev hx, fun rn fact gv h => ?_⟩) h
    rw [show (AV.one (LV.val v)).v θ = .slice none 0 0 from hc1] at h
    exact OpT.nilrow h
  · cases h
end
/-! ### The place of an element of a row out of which a row is taken -/
structure HRow where
  E : TypeId
  t : Ty
  xs : List t.den
  n : Nat
def holRow : Hol → Option HRow
  | ⟨_, _, .sl E t, d, .sl _ _, _, f, _, _, _, _, _⟩ => some ⟨E, t, d, List.length (α := t.den) (f ([] : List _))⟩
  | _ => none
section
variable {Y : Type} (tt : TT) (s : Sg) (k : Res → Option Y)
def sIndexH (T : TypeId) (x i : Operand) : Option Y := (td tt T).bind fun d => match d.el, opd s x, opd s i with
  | some E, some (.one (.own h)), some (.one (.val (.int .i64 i))) => (holOf h s.chs).bind fun r => (holRow r).bind fun q => (td tt E).bind fun e => chkT (Nat.beq e.n q.t.size && noHdr h r.rest) ((getI q.xs i).bind fun a => (chk (i < (q.n : Int))).bind fun _ => k ⟨[r.ent h], [], r.rest, [], .elo h r.over q.E q.t q.xs a i 0⟩)
  | _, _, _ => none
end
section
variable {Y : Type} {tt : TT} {s : Sg} {k : Res → Option Y} {P : Program} {w0 : World} {o : Oper} {res : Y} {x : Operand}
theorem gap_hd {I : Hp} {α β : Type} {E E' : TypeId} {R : Rep α} {S : Rep β} {v c : Value} {f : List β → List α} {b off : Nat} {w : World} {K : List Nat} (h : (Ch.gap (rSlice E R) [v] (rSlice E' S) f b off c).holds I w K) : Hd v (f []).length := by
  obtain ⟨h1, ⟨cur, E0, h2, h2'⟩, h3, h4⟩ := h
  obtain ⟨F, -, hF⟩ := h4 I (w.setCell ⟨b, off, none⟩ (.slice none 0 0)) (.slice none 0 0) [] [] Hp.le.rfl (fun x hx hne => by
    simp only [World.setCell]
    rw [Array.getElem?_modify, if_neg (fun e => hne e.symm)]) (fun cur' E1 hc => by
    simp only [World.setCell]
    rw [Array.getElem?_modify, if_pos rfl, hc]; rfl) ⟨by simp, .inl ⟨rfl, rfl, rfl⟩⟩
  exact Hd.of_own hF
theorem sIndexH_ok (hT : TTok P tt) {T : TypeId} {i : Operand} (ho : o.op = .indexAddr T x i) (h : sIndexH tt s k T x i = some res) : Oks P w0 s o k res := by
  obtain ⟨d, hd, h⟩ := bind_some h
  split at h
  · rename_i E hh j he hx hi
    obtain ⟨r, hr, h⟩ := bind_some h
    obtain ⟨q, hq, h⟩ := bind_some h
    obtain ⟨e, hE, h⟩ := bind_some h
    obtain ⟨hn, h⟩ := chkT_ok h
    obtain ⟨a, ha, h⟩ := bind_some h
    obtain ⟨u0, hc, h⟩ := bind_some h
    have hc := chk_some hc
    rw [Bool.and_eq_true] at hn
    obtain ⟨hn, hno⟩ := hn
    have hn := Nat.eq_of_beq_eq_true hn
    have hp := holOf_ok hr
    obtain ⟨ver1, over1, t0, d1, u1, y1, f1, i1, k1, off1, lv1, rest1⟩ := r
    cases t0 with
    | sl E1 t1 =>
      cases u1 with
      | sl E2 t2 =>
        obtain rfl := Option.some.inj (show some _ = some q from hq)
        refine ⟨_, h, perm1 hp, says_plain rfl, fun J θ hf => OpT.weak (fact := (· = pt (hv θ hh) (j.toNat * t1.size + 0))) (gv := fun _ => [toCh P θ (Hol.ent _ hh)]) (fun w C hs => ?_) (fun u hu => ?_) (fun u hu => rfl)⟩
        · have hs1 : St J w0 w (Ch.gap (rSlice E1 t1.rep) [hv θ hh] (rSlice E2 t2.rep) f1 (ptB (hv θ hh)) (ptO (hv θ hh) + (i1.toNat * k1 + off1)) (lv1.v θ) :: C) := hs
          have hD : Hd (hv θ hh) (f1 ([] : List t2.den)).length := by
            obtain ⟨-, -, F, hsep, -, -⟩ := hs1
            obtain ⟨G, K, -, hg, -⟩ := hsep
            exact gap_hd hg
          have hin : inI (α := t1.den) (f1 ([] : List t2.den)) j := ⟨(getI_in ha).1, by
            have := (getI_in ha).1
            have hc : j < ((List.length (α := t1.den) (f1 ([] : List t2.den)) : Nat) : Int) := hc
            show j.toNat < List.length (α := t1.den) (f1 ([] : List t2.den))
            omega⟩
          have := opT_index_hd (I := J) (w0 := w0) (P := P) (o := o) hD ((hT.get hd).el _ he) (hT.get hE).ti ho (opd_ev hx) (opd_ev hi) hin
          rw [hn] at this
          exact this w _ hs
        · have hok := ent_ok hf hp
          obtain ⟨q1, q2, q3, q4, q5, q6⟩ := hok
          have hm : Mem s.chs s.nxt hh over1 (.own (.sl E1 t1) d1) := ⟨Nat.lt_trans q4 q2, fun e' he' c' hs' => by
            rcases List.mem_cons.1 (hp.mem_iff.1 he') with rfl | he'
            · rcases hs'.2 with ⟨h1, -⟩ | ⟨-, h1⟩
              · exact absurd h1 (Nat.ne_of_gt q4)
              · exact h1
            · exact absurd hs'.1 (noHdr_ok hno he')⟩
          refine ⟨⟨Nat.lt_succ_of_lt q1, ha, hm.newer (Res.newer (perm1 hp) (says_plain rfl J θ hf)) (Nat.le_succ _)⟩, ?_, fun g hg => by cases hg⟩
          rw [hu]
          show pt (hv (upd θ s.nxt _) hh) _ = pt (hv θ hh) _
          rw [show hv (upd θ s.nxt _) hh = hv θ hh from hv_same Same.upd q1]
      | _ => cases hq
    | _ => cases hq
  · cases h
end
end Go.Proofs.YtfkjjnddefojjaaGreatDoor.R
/- Strings: joined, parts, bytes; bytes made a string. No program text is named here. -/
set_option linter.unusedVariables false
set_option linter.unusedSimpArgs false
set_option linter.unnecessarySimpa false
set_option linter.unusedSectionVars false
namespace Go.Proofs.YtfkjjnddefojjaaGreatDoor.D
open Go.RowKit
def catS (a b : ByteArray) : Option ByteArray := (chk (a.size + b.size ≤ 9223372036854775807)).bind fun _ => some (a ++ b)
def strAt (s : ByteArray) (i : Int) : Option Int := (chk (0 ≤ i ∧ i < (s.size : Int))).bind fun _ => some ((s.data.toList.getD i.toNat 0).toNat : Int)
def strSl (s : ByteArray) (l h : Int) : Option ByteArray := (chk (0 ≤ l ∧ l ≤ h ∧ h ≤ (s.size : Int))).bind fun _ => some (s.extract l.toNat h.toNat)
def bytesS (l : List Int) : ByteArray := l.foldl (fun r n => r.push (UInt8.ofNat n.toNat)) ByteArray.empty
section
variable {P : Program} {I : Hp} {w0 : World} {o : Oper} {ev : Operand → Value} {x y : Operand}
theorem opT_cat {t u : TypeId} {m n : ByteArray} (h : m.size + n.size ≤ 9223372036854775807) (ho : o.op = .binOp .add t x y u) (hx : ev x = .string m) (hy : ev y = .string n) : OpT P I w0 o ev [] (· = .string (m ++ n)) (fun _ => []) :=
  opT_val fun w => by simp [execOp, ho, hx, hy, eqGuard, binOp_string_add, run_string_add_sum w m n h, Result.andThen]
theorem opT_strAt {T : TypeId} {m : ByteArray} {k : IntKind} {i : Int} (hT : P.underlying T = some .string) (h : 0 ≤ i ∧ i < (m.size : Int)) (ho : o.op = .index T x y) (hx : ev x = .string m) (hy : ev y = .int k i) : OpT P I w0 o ev [] (· = .int .u8 ((m.data.toList.getD i.toNat 0).toNat : Int)) (fun _ => []) :=
  opT_val fun w => by
    have h2 : i.toNat < m.size := by omega
    have e : m.data.toList.getD i.toNat 0 = m[i.toNat]'h2 := by
      have h3 : i.toNat < m.data.toList.length := by simpa using h2
      rw [List.getD_eq_getElem?_getD, List.getElem?_eq_getElem h3]
      simp [ByteArray.getElem_eq_getElem_data]
    have := run_index_string (P := P) (w := w) T m k i hT
    rw [dif_pos h] at this
    rw [e]
    simp [execOp, ho, hx, hy, this, Result.andThen]
def EndIs (ev : Operand → Value) (d : Int) : Option Operand → Int → Prop
  | none, n => n = d
  | some z, n => ∃ k, ev z = .int k n
theorem opT_strSl {T : TypeId} {m : ByteArray} {lo hi : Option Operand} {l h : Int} (hT : P.underlying T = some .string) (hb : 0 ≤ l ∧ l ≤ h ∧ h ≤ (m.size : Int)) (ho : o.op = .slice T x lo hi none) (hx : ev x = .string m)
    (hl : EndIs ev 0 lo l) (hh : EndIs ev (m.size : Int) hi h) : OpT P I w0 o ev [] (· = .string (m.extract l.toNat h.toNat)) (fun _ => []) :=
  opT_val fun w => by
    have hat : ∀ a b, (Instr.sliceAt T (.string m) a b none).run P w = (Instr.slice T (.string m) a b none).run P w := fun a b => by
      simp [Instr.sliceAt, run_underlying hT]
    cases lo with
    | none =>
      obtain rfl : l = 0 := hl
      cases hi with
      | none =>
        obtain rfl : h = (m.size : Int) := hh
        simp [execOp, ho, hx, hat, run_slice_string_all, hT, Result.andThen]
      | some b =>
        obtain ⟨k, hb'⟩ := hh
        simp [execOp, ho, hx, hb', hat, run_slice_string_h (t := T) (s := m) (P := P) (w := w) hT k h hb.2.1 hb.2.2, Result.andThen]
    | some a =>
      obtain ⟨j, ha⟩ := hl
      cases hi with
      | none =>
        obtain rfl : h = (m.size : Int) := hh
        simp [execOp, ho, hx, ha, hat, run_slice_string_l (t := T) (s := m) (P := P) (w := w) hT j l hb.1 hb.2.1, Result.andThen]
      | some b =>
        obtain ⟨k, hb'⟩ := hh
        have := run_slice_string_if (P := P) (w := w) T m j k l h hT
        rw [if_pos ⟨by omega, hb.2.2⟩, if_pos ⟨hb.1, hb.2.1⟩] at this
        simp [execOp, ho, hx, ha, hb', hat, this, Result.andThen]
theorem opT_bytes {S D E E' : TypeId} {h1 : ∀ a : Int, (Value.int .u8 a).oneCell' = true} {v : Value} {xs : List Int} (hS : P.underlying S = some (.slice E)) (hE : P.underlying E = some (.int .u8)) (hD : P.underlying D = some .string) (hr : (rSlice E' (rFlat Int (.int .u8) h1)).rd I [v] xs) (ho : o.op = .convert S D x) (hx : ev x = v) : OpT P I w0 o ev [] (· = .string (bytesS xs)) (fun _ => []) := by
  intro w C hs
  obtain ⟨ao, cap, rfl, hc⟩ := Src.of_rd hs hr
  have hrun : (execOp ev o).run P w = .ok (.value (.string (bytesS xs))) w := by
    have e1 : (convert S D (.slice ao (xs.map (Value.int .u8)).length cap)).run P w = .ok (.string (bytesS xs)) w := by
      rw [run_convert_bytes_string w S D E ao _ cap hS hE hD]
      rcases hc with hc | ⟨a, rfl, hc⟩
      · have hx0 : xs = [] := by simpa using hc
        subst hx0
        cases ao with
        | none => rfl
        | some a => exact run_bytesToString w a _ cap [] (run_loadCells_list (P := P) w a [] (by simp))
      · rw [List.length_map]
        exact run_bytesToString w a _ cap xs (by
          have := run_loadCells_list (P := P) w a (xs.map (Value.int .u8)) hc
          rwa [List.length_map] at this)
    simp only [List.length_map] at e1 hx
    simp [execOp, ho, hx, e1, Result.andThen]
  rw [hrun]
  exact ⟨rfl, hs⟩
end
end Go.Proofs.YtfkjjnddefojjaaGreatDoor.D
namespace Go.Proofs.YtfkjjnddefojjaaGreatDoor.R
open Go.RowKit
open Go.Proofs.YtfkjjnddefojjaaGreatDoor.D
section
variable {Y : Type} (tt : TT) (s : Sg) (k : Res → Option Y)
def sBinS (b : BinOp) (t : TypeId) (x y : Operand) : Option Y := match b, opd s x, opd s y with
  | .add, some (.one (.val (.string m))), some (.one (.val (.string n))) => (catS m n).bind fun r => kv s k (.string r)
  | _, _, _ => sBin tt s k b t x y
def sIdxS (T : TypeId) (x i : Operand) : Option Y := (td tt T).bind fun d => d.ik.bind fun k1 => match k1, opd s x, opd s i with
  | none, some (.one (.val (.string m))), some (.one (.val (.int j n))) => (strAt m n).bind fun r => kv s k (.int .u8 r)
  | _, _, _ => none
def endO (d : Int) : Option Operand → Option Int
  | none => some d
  | some y => match opd s y with
    | some (.one (.val (.int _ n))) => some n
    | _ => none
def sSliceS (T : TypeId) (x : Operand) (lo hi : Option Operand) : Option Y := (td tt T).bind fun d => d.ik.bind fun k1 => match k1, opd s x with
  | none, some (.one (.val (.string m))) => (endO s 0 lo).bind fun l => (endO s (m.size : Int) hi).bind fun h => (strSl m l h).bind fun r => kv s k (.string r)
  | _, _ => none
def sConvS (S D : TypeId) (x : Operand) : Option Y := (td tt S).bind fun a => (td tt D).bind fun b => a.el.bind fun E => (td tt E).bind fun e => e.ik.bind fun k1 => b.ik.bind fun k2 => match k1, k2, opd s x with
  | some .u8, none, some (.one (.own h)) => (rowOf h s.chs).bind fun r => (castTy (.sl r.E r.t) (.sl r.E (.int .u8)) r.xs).bind fun xs => k ⟨[r.ent h], [], r.rest, [], .one (.val (.string (bytesS xs)))⟩
  | some .u8, none, some (.one (.rd _ t d)) => (castTy t (.sl E (.int .u8)) d).bind fun xs => kv s k (.string (bytesS xs))
  | some .u8, none, some (.one (.val (.slice none 0 0))) => kv s k (.string ByteArray.empty)
  | _, _, _ => none
end
section
variable {Y : Type} {tt : TT} {s : Sg} {k : Res → Option Y} {P : Program} {w0 : World} {o : Oper} {res : Y} {x y : Operand}
theorem sBinS_ok (hT : TTok P tt) {b : BinOp} {t u : TypeId} (ho : o.op = .binOp b t x y u) (h : sBinS tt s k b t x y = some res) : Oks P w0 s o k res := by
  unfold sBinS at h
  split at h
  · rename_i m n hx hy
    obtain ⟨r, hr, h⟩ := bind_some h
    obtain ⟨u1, hc, hr⟩ := bind_some hr
    obtain rfl := Option.some.inj hr
    exact kv_ok h rfl fun J θ hf => opT_cat (chk_some hc) ho (opd_ev hx) (opd_ev hy)
  · exact sBin_ok hT ho h
theorem sIdxS_ok (hT : TTok P tt) {T : TypeId} {i : Operand} (ho : o.op = .index T x i) (h : sIdxS tt s k T x i = some res) : Oks P w0 s o k res := by
  obtain ⟨d, hd, g1⟩ := bind_some h
  obtain ⟨k1, h1, g2⟩ := bind_some g1
  clear h g1
  split at g2
  · rename_i m j n hx hi
    obtain ⟨r, hr, h⟩ := bind_some g2
    obtain ⟨u1, hc, hr⟩ := bind_some hr
    obtain rfl := Option.some.inj hr
    exact kv_ok h rfl fun J θ hf => opT_strAt ((hT.get hd).ik _ h1) (chk_some hc) ho (opd_ev hx) (opd_ev hi)
  · cases g2
theorem endO_ok {d n : Int} {θ : Th} {lo : Option Operand} (h : endO s d lo = some n) : EndIs (evL (envL θ s)) d lo n := by
  cases lo with
  | none => exact (Option.some.inj h).symm
  | some z =>
    simp only [endO] at h
    split at h
    · rename_i j m hz
      obtain rfl := Option.some.inj h
      exact ⟨j, opd_ev hz⟩
    · cases h
theorem sSliceS_ok (hT : TTok P tt) {T : TypeId} {lo hi : Option Operand} (ho : o.op = .slice T x lo hi none) (h : sSliceS tt s k T x lo hi = some res) : Oks P w0 s o k res := by
  obtain ⟨d, hd, g1⟩ := bind_some h
  obtain ⟨k1, h1, g2⟩ := bind_some g1
  clear h g1
  split at g2
  · rename_i m hx
    obtain ⟨l, hl, g3⟩ := bind_some g2
    obtain ⟨e, he, g4⟩ := bind_some g3
    obtain ⟨r, hr, h⟩ := bind_some g4
    obtain ⟨u1, hc, hr⟩ := bind_some hr
    obtain rfl := Option.some.inj hr
    exact kv_ok h rfl fun J θ hf => opT_strSl ((hT.get hd).ik _ h1) (chk_some hc) ho (opd_ev hx) (endO_ok hl) (endO_ok he)
  · cases g2
theorem sConvS_ok (hT : TTok P tt) {S D : TypeId} (ho : o.op = .convert S D x) (h : sConvS tt s k S D x = some res) : Oks P w0 s o k res := by
  obtain ⟨a, ha, g1⟩ := bind_some h
  obtain ⟨b, hb, g2⟩ := bind_some g1
  obtain ⟨E, hE, g3⟩ := bind_some g2
  obtain ⟨e, he, g4⟩ := bind_some g3
  obtain ⟨k1, h1, g5⟩ := bind_some g4
  obtain ⟨k2, h2, g6⟩ := bind_some g5
  clear h g1 g2 g3 g4 g5
  have hS := (hT.get ha).el _ hE
  have hD := (hT.get hb).ik _ h2
  have hU := (hT.get he).ik _ h1
  split at g6
  · rename_i hh hx
    obtain ⟨r, hr, g7⟩ := bind_some g6
    obtain ⟨xs, hxs, g8⟩ := bind_some g7
    obtain ⟨hp, -⟩ := rowOf_ok hr
    refine ⟨_, g8, perm1 hp, says_plain rfl, fun J θ hf => OpT.weak (OpT_lend (ls := [Ch.own (Ty.sl r.E r.t).rep [hv θ hh] r.xs]) (rn := []) (gv := fun _ => []) (fun _ => trivial) fun J' hJ hrd hbl => ?_) (fact := (· = .string (bytesS xs))) (fun u hu => ?_) (fun u hu => rfl)⟩
    · have h3 := castTy_rd hxs (hrd _ _ _ (List.mem_singleton_self _))
      exact opT_bytes hS hU hD h3 ho (opd_ev hx)
    · subst hu
      exact ⟨Eq.refl true, rfl, fun g hg => by cases hg⟩
  · rename_i hh t d hx
    obtain ⟨xs, hxs, g7⟩ := bind_some g6
    exact kv_ok g7 rfl fun J θ hf => opT_bytes hS hU hD (castTy_rd hxs (opd_ok hf hx).2) ho (opd_ev hx)
  · rename_i hx
    exact kv_ok g6 rfl fun J θ hf => opT_bytes (E' := 0) (xs := []) (h1 := fun _ => rfl) hS hU hD ⟨none, 0, rfl, ⟨by simp, by simp⟩, .inl rfl⟩ ho (opd_ev hx)
  · cases g6
end
end Go.Proofs.YtfkjjnddefojjaaGreatDoor.R
/- A function that boxes its two arguments and gives a function value over the boxes. No program text is named here. -/
set_option linter.unusedVariables false
set_option linter.unusedSimpArgs false
set_option linter.unnecessarySimpa false
set_option linter.unusedSectionVars false
namespace Go.Proofs.YtfkjjnddefojjaaGreatDoor.R
open Go.RowKit
open Go.Proofs.YtfkjjnddefojjaaGreatDoor.D
section
variable {Y : Type} (s : Sg) (k : Res → Option Y)
def sTog (T f : Nat) (x y : Operand) : Option Y := match opd s x, opd s y with
  | some (.agg xs), some (.agg ys) => k ⟨[], [], s.chs, [(⟨s.nxt, []⟩, .clo f [] [.ptr ⟨s.nxt, [0]⟩ 0, .ptr ⟨s.nxt, [1]⟩ 0]), (⟨s.nxt, [0]⟩, .blk T xs), (⟨s.nxt, [1]⟩, .blk T ys)], .one (.own ⟨s.nxt, []⟩)⟩
  | _, _ => none
end
section
variable {Y : Type} {s : Sg} {k : Res → Option Y} {P : Program} {w0 : World} {o : Oper} {res : Y} {x y : Operand}
theorem okE_clo0 {J : Hp} {θ : Th} {n : Nat} {chs : List Ent} {h : Hdr} {ver f : Nat} {capt : List LV} (h1 : h.id < n) (h2 : ver < n) (h3 : ∀ x ∈ capt, x.ok P w0 J θ n) (h4 : hv θ h = .func (.func f) #[] (capt.map (·.v θ)).toArray) : okE P w0 J θ n chs (h, ver, .clo f [] capt) :=
  ⟨h1, h2, fun y hy => (by cases hy), h3, h4⟩
theorem okE_blk0 {J : Hp} {θ : Th} {n : Nat} {chs : List Ent} {h : Hdr} {ver T : Nat} {cells : List LV} (h1 : h.id < n) (h2 : ver < n) (h3 : ∀ x ∈ cells, x.ok P w0 J θ n) : okE P w0 J θ n chs (h, ver, .blk T cells) := ⟨h1, h2, h3⟩
set_option maxHeartbeats 2000000 in
theorem sTog_ok {g T f : Nat} (hk : TogOk P g T f) {ts : Array TypeId} (ho : o.op = .call { callee := .value (.func g), args := #[x, y], argTypes := ts }) (h : sTog s k T f x y = some res) : Oks P w0 s o k res := by
  unfold sTog at h
  split at h
  · rename_i xs ys hx hy
    refine ⟨_, h, by simp, says_plain rfl, fun J θ hf => ?_⟩
    have k1 : ∀ z ∈ xs, z.ok P w0 J θ s.nxt := opd_ok hf hx
    have k2 : ∀ z ∈ ys, z.ok P w0 J θ s.nxt := opd_ok hf hy
    have hl : (#[] : Array Value).toList ++ (#[x, y] : Array Operand).toList.map (evL (envL θ s)) ++ (#[] : Array Value).toList = (#[.agg (xs.map (·.v θ)).toArray, .agg (ys.map (·.v θ)).toArray] : Array Value).toList := by
      simp only [List.map_cons, List.map_nil, List.nil_append, List.append_nil, opd_ev (θ := θ) hx, opd_ev (θ := θ) hy]
      rfl
    refine OpT.weak (opT_call hk.1 ho rfl hl (hk.2 J w0 (xs.map (·.v θ)) (ys.map (·.v θ)))) (fun v hv0 => ?_) (fun v hv0 => ?_)
    · obtain ⟨b1, b2, rfl⟩ := hv0
      refine ⟨⟨Nat.lt_succ_self _, by rw [hv_new]; rfl⟩, hv_new, fun g hg => ?_⟩
      rcases List.mem_cons.1 hg with rfl | hg
      · refine okE_clo0 (Nat.lt_succ_self _) (Nat.lt_succ_self _) (fun z hz => ?_) ?_
        · rcases List.mem_cons.1 hz with rfl | hz
          · exact Nat.lt_succ_self _
          · obtain rfl := List.mem_singleton.1 hz
            exact Nat.lt_succ_self _
        · show hv (upd θ s.nxt _) ⟨s.nxt, []⟩ = _
          rw [hv_new]
          show Value.func _ _ _ = Value.func _ _ #[.pointer (some ⟨bk (vg (upd θ s.nxt _ s.nxt) [0]), 0, none⟩), .pointer (some ⟨bk (vg (upd θ s.nxt _ s.nxt) [1]), 0, none⟩)]
          rw [upd_self]
          rfl
      rcases List.mem_cons.1 hg with rfl | hg
      · exact okE_blk0 (Nat.lt_succ_self _) (Nat.lt_succ_self _) fun z hz => LV.ok_same Same.upd (Nat.le_succ _) (k1 z hz) Hp.le.rfl
      · obtain rfl := List.mem_singleton.1 hg
        exact okE_blk0 (Nat.lt_succ_self _) (Nat.lt_succ_self _) fun z hz => LV.ok_same Same.upd (Nat.le_succ _) (k2 z hz) Hp.le.rfl
    · show [Ch.emp, Ch.blk (bk (vg v [0])) _ T, Ch.blk (bk (vg v [1])) _ T] = [Ch.emp, Ch.blk (bk (vg (upd θ s.nxt v s.nxt) [0])) (xs.map _) T, Ch.blk (bk (vg (upd θ s.nxt v s.nxt) [1])) (ys.map _) T]
      rw [upd_self, map_v_same Same.upd k1, map_v_same Same.upd k2]
  · cases h
end
end Go.Proofs.YtfkjjnddefojjaaGreatDoor.R
/- Rows whose elements stand in blocks of their own or in frozen ones: frozen before an element is looked at, loosened at the end of a region. No program text is named here. -/
set_option linter.unusedVariables false
set_option linter.unusedSimpArgs false
set_option linter.unnecessarySimpa false
set_option linter.unusedSectionVars false
namespace Go.Proofs.YtfkjjnddefojjaaGreatDoor.R
open Go.RowKit
open Go.Proofs.YtfkjjnddefojjaaGreatDoor.D
def frzBag (h : Hdr) (s : Sg) : Option Sg := (pull h s.chs).bind fun r => match r.1.2.2 with
  | .own (.sl E (.bag t)) xs => some ⟨s.env, (h, s.nxt, .own (.sl E (.fro (.fro (.fro t)))) xs) :: r.2, s.nxt + 1⟩
  | _ => none
def frzBagS (h : Hdr) (s : Sg) : Sg := match frzBag h s with
  | some s' => s'
  | none => s
def prepB (o : Oper) (s : Sg) : Sg := match o.op with
  | .indexAddr _ x _ => match opd s x with
    | some (.one (.own h)) => frzBagS h s
    | _ => s
  | _ => s
def isWk : Chk → Bool
  | .own (.sl _ (.fro (.fro (.fro _)))) _ => true
  | _ => false
def weakE (n : Nat) (e : Ent) : Ent := match e.2.2 with
  | .own (.sl E (.fro (.fro (.fro t)))) xs => (e.1, n, .own (.sl E (.bag t)) xs)
  | _ => e
def weakA (s : Sg) : Sg := match s.chs.any fun e => isWk e.2.2 with
  | true => ⟨s.env, s.chs.map (weakE s.nxt), s.nxt + 1⟩
  | false => s
def endA (s : Sg) : Sg := weakA (openA s)
section
variable {P : Program} {I J : Hp} {w0 w : World} {F : Ch} {n : Nat} {θ : Th} {s s' : Sg} {a : Act} {h : Hdr}
theorem frzBag_ok (hs : frzBag h s = some s') (hS : Sim P I w0 F n J θ s a w) : ∃ J', J.le J' ∧ Sim P I w0 F n J' θ s' a w ∧ Fr s θ s' θ := by
  obtain ⟨r, hr, hs⟩ := bind_some hs
  obtain ⟨p, k⟩ := pull_ok hr
  obtain ⟨⟨h2, ver, c⟩, rest⟩ := r
  obtain rfl : h2 = h := k
  cases c with
  | own t' d =>
    cases t' with
    | sl E t' =>
      cases t' with
      | bag t =>
        obtain rfl := Option.some.inj (show some _ = some s' from hs)
        have hok := hS.fine.chs _ (p.mem_iff.2 (List.mem_cons_self ..))
        have h1 : St J w0 w (Ch.own (rSlice E (rBag t.rep)) [hv θ h2] d :: (rest.map (toCh P θ) ++ [F])) := hS.st.perm ((p.map (toCh P θ)).append_right [F])
        obtain ⟨J', hJ, hst⟩ := h1.freeze_els
        have hmem : ∀ e, e ∈ rest → e ∈ s.chs := fun e he => p.mem_iff.2 (List.mem_cons_of_mem _ he)
        have hnew : Newer s.nxt s.chs ((h2, s.nxt, Chk.own (.sl E (.fro (.fro (.fro t)))) d) :: rest) := fun e he h' ver' c hs' => by
          rcases List.mem_cons.1 he with rfl | he
          · obtain ⟨rfl, hs'⟩ := hs'
            rcases hs' with ⟨h1, -⟩ | hs'
            · exact .inl (Nat.le_of_eq h1)
            · exact hs'.elim
          · exact .inr ⟨e, hmem e he, hs'⟩
        refine ⟨J', hJ, ⟨hS.le.trans hJ, hS.agr, ?_, fun e he => AV.ok_same Same.rfl (Nat.le_succ _) hnew (hS.fine.env e he) hJ, fun e he => Nat.lt_succ_of_lt (hS.fine.ver e he), hS.fine.nd, fun e he => ?_, hS.fine.lay.mono hJ⟩, Nat.le_succ _, Same.rfl, fun e he _ => he, hnew⟩
        · show St J' w0 w (Ch.own (rSlice E (rFro (rFro (rFro t.rep)))) [hv θ h2] d :: (rest.map (toCh P θ) ++ [F]))
          obtain ⟨b1, b2, F0, ⟨G, K, rfl, ⟨hl, e2⟩, e3⟩, b4, b5⟩ := hst
          refine ⟨b1, b2, G ++ K, ⟨G, K, rfl, ⟨hl, ?_⟩, e3⟩, b4, b5⟩
          rcases e2 with e2 | ⟨g, ofs, cap, cur, K1, hv', k1, k2, k3, k4, k6, k5⟩
          · exact .inl e2
          · exact .inr ⟨g, ofs, cap, cur, K1, hv', k1, k2, k3, k4, k6, OwnEls.turn (R := rFro t.rep) (S := rFro (rFro (rFro t.rep))) rfl (fun c x G hx => ⟨hx.1, hx.2⟩) k5⟩
        · rcases List.mem_cons.1 he with rfl | he
          · exact ⟨Nat.lt_succ_of_lt hok.1, Nat.lt_succ_self _, trivial⟩
          · exact okE_same Same.rfl (Nat.le_succ _) hnew (hS.fine.chs e (hmem e he)) hJ
      | _ => cases hs
    | _ => cases hs
  | _ => cases hs
theorem prepB_ok {o : Oper} (hS : Sim P I w0 F n J θ s a w) : ∃ J', J.le J' ∧ Sim P I w0 F n J' θ (prepB o s) a w ∧ Fr s θ (prepB o s) θ := by
  unfold prepB
  split
  · split
    · unfold frzBagS
      split
      · exact frzBag_ok ‹_› hS
      · exact ⟨J, Hp.le.rfl, hS, Fr.rfl⟩
    · exact ⟨J, Hp.le.rfl, hS, Fr.rfl⟩
  · exact ⟨J, Hp.le.rfl, hS, Fr.rfl⟩
theorem sep_turn {f g : Ent → Ch} {C : List Ch} : ∀ {l : List Ent} {K : List Nat}, (∀ e ∈ l, ∀ F, (f e).holds J w F → (g e).holds J w F) → Sep J (l.map f ++ C) w K → Sep J (l.map g ++ C) w K
  | [], K, _, h => h
  | e :: l, _, hh, ⟨G, K', e1, h1, h2⟩ => ⟨G, K', e1, hh e (by simp) G h1, sep_turn (fun e he => hh e (by simp [he])) h2⟩
theorem weakE_says {n : Nat} {e : Ent} {h : Hdr} {ver : Nat} {c : Chk} (k : Says (weakE n e) h ver c) : ver = n ∨ Says e h ver c := by
  unfold weakE at k
  split at k
  · obtain ⟨rfl, k⟩ := k
    rcases k with ⟨h1, -⟩ | k
    · exact .inl h1.symm
    · exact k.elim
  · exact .inr k
theorem weakA_ok (hS : Sim P I w0 F n J θ s a w) : Sim P I w0 F n J θ (weakA s) a w ∧ Fr s θ (weakA s) θ := by
  unfold weakA
  split
  · have hnew : Newer s.nxt s.chs (s.chs.map (weakE s.nxt)) := fun e he h ver c hs => by
      obtain ⟨e0, h0, rfl⟩ := List.mem_map.1 he
      rcases weakE_says hs with rfl | hs
      · exact .inl (Nat.le_refl _)
      · exact .inr ⟨e0, h0, hs⟩
    refine ⟨⟨hS.le, hS.agr, ?_, fun e he => AV.ok_same Same.rfl (Nat.le_succ _) hnew (hS.fine.env e he) Hp.le.rfl, fun e he => Nat.lt_succ_of_lt (hS.fine.ver e he), hS.fine.nd, fun e he => ?_, hS.fine.lay⟩, Nat.le_succ _, Same.rfl, fun e he _ => he, hnew⟩
    · obtain ⟨h1, h2, K, h3, h4, h5⟩ := hS.st
      refine ⟨h1, h2, K, ?_, h4, h5⟩
      rw [List.map_map]
      refine sep_turn (fun e he G hG => ?_) h3
      show (toCh P θ (weakE s.nxt e)).holds J w G
      obtain ⟨hh, ver, c⟩ := e
      unfold weakE
      split
      · rename_i E t xs hc
        obtain rfl : c = .own (.sl E (.fro (.fro (.fro t)))) xs := hc
        obtain ⟨hl, e2⟩ := (show (rSlice E (rFro (rFro (rFro t.rep)))).own J w [hv θ hh] xs G from hG)
        refine (show (rSlice E (rBag t.rep)).own J w [hv θ hh] xs G from ⟨hl, ?_⟩)
        rcases e2 with e2 | ⟨g, ofs, cap, cur, K1, hv', k1, k2, k3, k4, k6, k5⟩
        · exact .inl e2
        · exact .inr ⟨g, ofs, cap, cur, K1, hv', k1, k2, k3, k4, k6, OwnEls.turn (R := rFro (rFro (rFro t.rep))) (S := rBag t.rep) rfl (fun c x G hx => by rw [hx.1]; exact bag_rd hx.2) k5⟩
      · exact hG
    · obtain ⟨e0, h0, rfl⟩ := List.mem_map.1 he
      have hok := hS.fine.chs e0 h0
      have := okE_same Same.rfl (Nat.le_succ _) hnew hok (J' := J) Hp.le.rfl
      obtain ⟨hh, ver, c⟩ := e0
      unfold weakE
      split
      · exact ⟨this.1, Nat.lt_succ_self _, trivial⟩
      · exact this
  · exact ⟨hS, Fr.rfl⟩
theorem endA_ok (hS : Sim P I w0 F n J θ s a w) : ∃ θ', Sim P I w0 F n J θ' (endA s) a w ∧ Fr s θ (endA s) θ' := by
  obtain ⟨θ', S1, F1⟩ := openA_ok hS
  obtain ⟨S2, F2⟩ := weakA_ok S1
  exact ⟨θ', S2, F1.trans F2⟩
end
end Go.Proofs.YtfkjjnddefojjaaGreatDoor.R
/- A function that gives a pointer to a new block: its arguments' values, then numbers. No program text is named here. -/
set_option linter.unusedVariables false
set_option linter.unusedSimpArgs false
set_option linter.unnecessarySimpa false
set_option linter.unusedSectionVars false
namespace Go.Proofs.YtfkjjnddefojjaaGreatDoor.R
open Go.RowKit
open Go.Proofs.YtfkjjnddefojjaaGreatDoor.D
section
variable {Y : Type} (ft : FT) (s : Sg) (k : Res → Option Y)
def newLv (ns : List Int) : List LV := ns.map fun n => .val (.int .i64 n)
def sNew (T : Nat) (g : FuncId) (x : Operand) : Option Y := (fs ft g).bind fun f => (opd s x).bind fun v => (argsOf ft s s.chs f.ps [v]).bind fun a => chkT (a.lent.isEmpty && a.own.isEmpty) <|
  (appP f.ps f.m a.d).bind fun r => (intsH (f.rs ++ outs f.ps) (toH _ r)).bind fun ns => match opd s x with
  | some (.one lv) => k ⟨[], [], s.chs, [(⟨s.nxt, []⟩, .blk T (lv :: newLv ns))], .one (.ptr ⟨s.nxt, []⟩ 0)⟩
  | _ => none
end
section
variable {Y : Type} {ft : FT} {s : Sg} {k : Res → Option Y} {P : Program} {w0 : World} {o : Oper} {res : Y} {x : Operand}
theorem newLv_ok {J : Hp} {θ : Th} {n : Nat} {ns : List Int} : ∀ z ∈ newLv ns, z.ok P w0 J θ n := fun z hz => by
  obtain ⟨m, hm, rfl⟩ := List.mem_map.1 hz
  exact Eq.refl true
theorem newLv_v {θ : Th} {ns : List Int} : (newLv ns).map (·.v θ) = ns.map (Value.int .i64) := by
  unfold newLv
  rw [List.map_map]; rfl
theorem sNew_ok {T : Nat} {g : FuncId} (hF : FTok P ft) (hk : ∀ f, fs ft g = some f → NewOk P g T f) {ts : Array TypeId} (ho : o.op = .call { callee := .value (.func g), args := #[x], argTypes := ts }) (h : sNew ft s k T g x = some res) : Oks P w0 s o k res := by
  obtain ⟨f, hf', h⟩ := bind_some h
  obtain ⟨v0, hv0', h⟩ := bind_some h
  obtain ⟨a, ha, h⟩ := bind_some h
  obtain ⟨hc, h⟩ := chkT_ok h
  rw [Bool.and_eq_true] at hc
  have hl0 : a.lent = [] := List.isEmpty_iff.1 hc.1
  have ho0 : a.own = [] := List.isEmpty_iff.1 hc.2
  obtain ⟨r, hr, h⟩ := bind_some h
  obtain ⟨ns, hns, h⟩ := bind_some h
  split at h
  · rename_i lv hx
    refine ⟨_, h, by simp, says_plain rfl, fun J θ hf => ?_⟩
    have k1 : lv.ok P w0 J θ s.nxt := opd_ok hf hx
    obtain rfl : v0 = .one lv := Option.some.inj (hv0'.symm.trans hx)
    obtain ⟨q1, -, -⟩ := argsOf_ok (J' := J) hF hf Hp.le.rfl ha (fun y hy => by obtain rfl := List.mem_singleton.1 hy; exact k1) (fun e he => he) (by rw [hl0]; exact fun h hh => by cases hh) (ghV θ a.gh) ghV_ok
    have hev : evL (envL θ s) x = lv.v θ := opd_ev (θ := θ) hx
    have q1 : PArgs P w0 J (ghV θ a.gh) f.ps [lv.v θ] a.d := q1
    have hl : (#[] : Array Value).toList ++ (#[x] : Array Operand).toList.map (evL (envL θ s)) ++ (#[] : Array Value).toList = ([lv.v θ] : List Value).toArray.toList := by
      simp only [List.map_cons, List.map_nil, List.nil_append, List.append_nil, hev]
    refine OpT.weak (opT_call (hk f hf').1 ho rfl hl ((hk f hf').2 w0 J (ghV θ a.gh) [lv.v θ] a.d r ns hf.lay q1 hr hns)) (fun v hv0 => ?_) (fun v hv0 => ?_)
    · obtain ⟨b, rfl⟩ := hv0
      refine ⟨Nat.lt_succ_self _, by show Value.pointer (some ⟨bk (hv _ ⟨s.nxt, []⟩), 0, none⟩) = _; rw [hv_new]; rfl, fun g hg => ?_⟩
      obtain rfl := List.mem_singleton.1 hg
      refine okE_blk0 (Nat.lt_succ_self _) (Nat.lt_succ_self _) fun z hz => ?_
      rcases List.mem_cons.1 hz with rfl | hz
      · exact LV.ok_same Same.upd (Nat.le_succ _) k1 Hp.le.rfl
      · exact newLv_ok z hz
    · show [Ch.blk (bk v) ([lv.v θ] ++ ns.map (Value.int .i64)) T] = [Ch.blk (bk (hv (upd θ s.nxt v) ⟨s.nxt, []⟩)) ((lv :: newLv ns).map (·.v (upd θ s.nxt v))) T]
      rw [hv_new, List.map_cons, newLv_v, LV.v_same Same.upd k1]; rfl
  · cases h
end
end Go.Proofs.YtfkjjnddefojjaaGreatDoor.R
/- Maps of the function's own. No program text is named here. -/
set_option linter.unusedVariables false
set_option linter.unusedSimpArgs false
set_option linter.unnecessarySimpa false
set_option linter.unusedSectionVars false
namespace Go.Proofs.YtfkjjnddefojjaaGreatDoor.R
open Go.RowKit
open Go.Proofs.YtfkjjnddefojjaaGreatDoor.D

structure Mp where
  ver : Nat
  md : MD
  m : List (md.k.den × md.e.den)
  rest : List Ent
def MD.ck (d : MD) (m : List (d.k.den × d.e.den)) : Chk := .map d.K d.E d.k d.e m
def mpOf (h : Hdr) (chs : List Ent) : Option Mp := (pull h chs).bind fun r => match r.1.2.2 with
  | .map K E k e m => some ⟨r.1.2.1, ⟨K, E, k, e⟩, m, r.2⟩
  | _ => none
def Mp.ent (r : Mp) (h : Hdr) : Ent := (h, r.ver, r.md.ck r.m)
theorem mpOf_ok {h : Hdr} {chs : List Ent} {r : Mp} (e : mpOf h chs = some r) : chs.Perm (r.ent h :: r.rest) := by
  obtain ⟨q, hq, e⟩ := bind_some e
  obtain ⟨p, k⟩ := pull_ok hq
  obtain ⟨⟨h', ver, c⟩, rest⟩ := q
  obtain rfl : h' = h := k
  cases c with
  | map K E k e' m =>
    obtain rfl := Option.some.inj (show some _ = some r from e)
    exact p
  | _ => cases e
def MK.beq : MK → MK → Bool
  | .int, .int => true
  | .ii, .ii => true
  | _, _ => false
def ME.beq : ME → ME → Bool
  | .int, .int => true
  | .bool, .bool => true
  | _, _ => false
def MD.beq (a b : MD) : Bool := Nat.beq a.K b.K && Nat.beq a.E b.E && MK.beq a.k b.k && ME.beq a.e b.e
theorem MD.beq_eq {a b : MD} (h : MD.beq a b = true) : a = b := by
  obtain ⟨K, E, k, e⟩ := a
  obtain ⟨K', E', k', e'⟩ := b
  unfold MD.beq at h
  simp only [Bool.and_eq_true] at h
  obtain ⟨⟨⟨h1, h2⟩, h3⟩, h4⟩ := h
  obtain rfl : K = K' := Nat.eq_of_beq_eq_true h1
  obtain rfl : E = E' := Nat.eq_of_beq_eq_true h2
  obtain rfl : k = k' := by cases k <;> cases k' <;> first | rfl | cases h3
  obtain rfl : e = e' := by cases e <;> cases e' <;> first | rfl | cases h4
  rfl
def avKey : (k : MK) → AV → Option k.den
  | .int, .one (.val (.int .i64 n)) => some n
  | .ii, .agg [.val (.int .i64 a), .val (.int .i64 b)] => some (a, b)
  | _, _ => none
theorem avKey_ok {k : MK} {v : AV} {d : k.den} (h : avKey k v = some d) (θ : Th) : v.v θ = k.val d := by
  unfold avKey at h
  split at h
  · rw [← Option.some.inj h]; rfl
  · rw [← Option.some.inj h]; rfl
  · cases h
def avElt : (e : ME) → AV → Option e.den
  | .int, .one (.val (.int .i64 n)) => some n
  | .bool, .one (.val (.bool b)) => some b
  | .bool, .one (.nb b) => some (!b)
  | _, _ => none
theorem avElt_ok {e : ME} {v : AV} {d : e.den} (h : avElt e v = some d) (θ : Th) : v.v θ = e.val d := by
  unfold avElt at h
  split at h
  · rw [← Option.some.inj h]; rfl
  · rw [← Option.some.inj h]; rfl
  · rw [← Option.some.inj h]; rfl
  · cases h
theorem ME.val_one (e : ME) (d : e.den) : (e.val d).oneCell' = true := by cases e <;> rfl
section
variable {Y : Type} (tt : TT) (s : Sg) (k : Res → Option Y)
def sMkM (T : TypeId) : Option Y := (td tt T).bind fun d => d.mp.bind fun md => k ⟨[], [], s.chs, [(⟨s.nxt, []⟩, md.ck [])], .one (.own ⟨s.nxt, []⟩)⟩
def sPutM (T : TypeId) (m x y : Operand) : Option Y := (td tt T).bind fun d => d.mp.bind fun md => match opd s m with
  | some (.one (.own h)) => (mpOf h s.chs).bind fun r => chkT (MD.beq md r.md) ((opd s x).bind fun kv => (avKey r.md.k kv).bind fun q => (opd s y).bind fun ev => (avElt r.md.e ev).bind fun i =>
    (@putM r.md.k.den r.md.e.den r.m r.md.k.ok r.md.e.ok q i).bind fun M => k ⟨[], [r.ent h], r.rest, [(h, r.md.ck M)], .any ⟨s.nxt, []⟩⟩)
  | _ => none
def sLookM (T : TypeId) (m x : Operand) (two : Bool) : Option Y := (td tt T).bind fun d => d.mp.bind fun md => match opd s m with
  | some (.one (.own h)) => (mpOf h s.chs).bind fun r => chkT (MD.beq md r.md) ((opd s x).bind fun kv => (avKey r.md.k kv).bind fun q =>
    chkD false (r.md.k.ok q = true) (instDecidableEqBool _ _) (match two with
      | true => k ⟨[r.ent h], [], r.rest, [], .tup [(false, [.val (r.md.e.val ((@lkM r.md.k.den r.md.e.den r.md.k.dec r.m q).getD r.md.e.z))]), (false, [.val (.bool (@lkM r.md.k.den r.md.e.den r.md.k.dec r.m q).isSome)])]⟩
      | false => k ⟨[r.ent h], [], r.rest, [], .one (.val (r.md.e.val ((@lkM r.md.k.den r.md.e.den r.md.k.dec r.m q).getD r.md.e.z)))⟩))
  | _ => none
end
section
variable {Y : Type} {tt : TT} {s : Sg} {k : Res → Option Y} {P : Program} {w0 : World} {o : Oper} {res : Y} {m x y : Operand}
theorem toCh_mp {θ : Th} {h : Hdr} {ver : Nat} {md : MD} {M : List (md.k.den × md.e.den)} : toCh P θ (h, ver, md.ck M) = @Ch.mp P md.K md.E md.k.den md.e.den md.k.dec md.k.lit md.k.ok md.e.lit md.e.z (hv θ h) M := rfl
theorem mp_one {I : Hp} {w : World} {C : List Ch} {K E : TypeId} {κ ε : Type} [DecidableEq κ] {lit : κ → Lit} {ok : κ → Bool} {elit : ε → Lit} {z : ε} {v : Value} {M : List (κ × ε)} (h : St I w0 w (Ch.mp P K E lit ok elit z v M :: C)) : v.oneCell' = true := by
  obtain ⟨h1, h2, F, ⟨G, G', rfl, ⟨b, rfl, rfl, h3⟩, e⟩, h4, h5⟩ := h
  rfl
theorem sMkM_ok (hT : TTok P tt) {T : TypeId} (ho : o.op = .makeMap T none) (h : sMkM tt s k T = some res) : Oks P w0 s o k res := by
  obtain ⟨d, hd, h⟩ := bind_some h
  obtain ⟨md, hm, h⟩ := bind_some h
  refine ⟨_, h, by simp, says_plain rfl, fun J θ hf => ?_⟩
  have h1 := @opT_makeMap P J w0 o (evL (envL θ s)) md.k.den md.e.den md.k.dec md.k.lit md.k.ok md.e.lit md.e.z T md.K md.E ho
  intro w C hs
  refine (h1 w C hs).imp fun v w' hv => ?_
  have hone := letI := md.k.dec; mp_one hv.2
  refine ⟨⟨⟨Nat.lt_succ_self _, by rw [hv_new]; exact hone⟩, hv_new, fun g hg => ?_⟩, ?_⟩
  · obtain rfl := List.mem_singleton.1 hg
    exact ⟨Nat.lt_succ_self _, Nat.lt_succ_self _, trivial⟩
  · show St J w0 w' ([toCh P (upd θ s.nxt v) (⟨s.nxt, []⟩, s.nxt, md.ck [])] ++ C)
    rw [toCh_mp, hv_new]; exact hv.2
theorem sPutM_ok (hT : TTok P tt) {T : TypeId} (ho : o.op = .mapUpdate T m x y ∨ o.op = .insert T m x y) (h : sPutM tt s k T m x y = some res) : Oks P w0 s o k res := by
  obtain ⟨d, hd, h⟩ := bind_some h
  obtain ⟨md, hm, h⟩ := bind_some h
  split at h
  · rename_i hh hx
    obtain ⟨r, hr, h⟩ := bind_some h
    obtain ⟨he, h⟩ := chkT_ok h
    obtain ⟨kv, hk, h⟩ := bind_some h
    obtain ⟨q, hq, h⟩ := bind_some h
    obtain ⟨ev, hev, h⟩ := bind_some h
    obtain ⟨i, hi, h⟩ := bind_some h
    obtain ⟨M, hM, h⟩ := bind_some h
    have hp := mpOf_ok hr
    obtain ⟨m1, m2, m3⟩ := (hT.get hd).mp _ hm
    rw [MD.beq_eq he] at m1 m2 m3
    refine ⟨_, h, perm2 hp, says_plain rfl, fun J θ hf => ?_⟩
    have hok := ent_ok hf hp
    have h1 := @opT_putMap P J w0 o (evL (envL θ s)) r.md.k.den r.md.e.den r.md.k.dec r.md.k.lit r.md.k.val r.md.k.ok r.md.e.val r.md.e.lit r.md.e.ok r.md.e.z T r.md.K r.md.E m x y (hv θ hh) q i r.m M m2 m3 m1 ho (opd_ev hx) ((opd_ev hk).trans (avKey_ok hq θ)) ((opd_ev hev).trans (avElt_ok hi θ)) hM
    refine OpT.weak h1 (fun u hu => ⟨Nat.lt_succ_self _, hv_new, fun g hg => ?_⟩) (fun u hu => ?_)
    · obtain rfl := List.mem_singleton.1 hg
      exact ⟨Nat.lt_succ_of_lt hok.1, Nat.lt_succ_self _, trivial⟩
    · show [_] = [toCh P (upd θ s.nxt u) (hh, s.nxt, r.md.ck M)]
      rw [toCh_mp, show hv (upd θ s.nxt u) hh = hv θ hh from hv_same Same.upd hok.1]
  · cases h
theorem sLookM_ok (hT : TTok P tt) {T : TypeId} {two : Bool} (ho : o.op = .lookup T m x two) (h : sLookM tt s k T m x two = some res) : Oks P w0 s o k res := by
  obtain ⟨d, hd, h⟩ := bind_some h
  obtain ⟨md, hm, h⟩ := bind_some h
  split at h
  · rename_i hh hx
    obtain ⟨r, hr, h⟩ := bind_some h
    obtain ⟨he, h⟩ := chkT_ok h
    obtain ⟨kv, hk, h⟩ := bind_some h
    obtain ⟨q, hq, h⟩ := bind_some h
    obtain ⟨hok, h⟩ := chkD_ok h
    have hp := mpOf_ok hr
    obtain ⟨m1, m2, m3⟩ := (hT.get hd).mp _ hm
    rw [MD.beq_eq he] at m1 m2 m3
    cases two with
    | true =>
      refine ⟨_, h, perm1 hp, fun _ _ _ g hg => (by cases hg), fun J θ hf => ?_⟩
      have h1 := @opT_lookMap P J w0 o (evL (envL θ s)) r.md.k.den r.md.e.den r.md.k.dec r.md.k.lit r.md.k.val r.md.k.ok r.md.e.val r.md.e.lit r.md.e.ok r.md.e.z T r.md.K r.md.E m x (hv θ hh) q r.m m2 m3 hok m1 ho (opd_ev hx) ((opd_ev hk).trans (avKey_ok hq θ))
      refine OpT.weak h1 (fun u hu => ⟨fun y hy z hz => ?_, ?_, fun g hg => by cases hg⟩) (fun u hu => rfl)
      · rcases List.mem_cons.1 hy with rfl | hy
        · obtain rfl := List.mem_singleton.1 hz; exact ME.val_one _ _
        · obtain rfl := List.mem_singleton.1 hy
          obtain rfl := List.mem_singleton.1 hz; exact Eq.refl true
      · rw [hu]; rfl
    | false =>
      refine ⟨_, h, perm1 hp, fun _ _ _ g hg => (by cases hg), fun J θ hf => ?_⟩
      have h1 := @opT_lookMap1 P J w0 o (evL (envL θ s)) r.md.k.den r.md.e.den r.md.k.dec r.md.k.lit r.md.k.val r.md.k.ok r.md.e.val r.md.e.lit r.md.e.ok r.md.e.z T r.md.K r.md.E m x (hv θ hh) q r.m m2 m3 hok m1 ho (opd_ev hx) ((opd_ev hk).trans (avKey_ok hq θ))
      refine OpT.weak h1 (fun u hu => ⟨ME.val_one _ _, ?_, fun g hg => by cases hg⟩) (fun u hu => rfl)
      rw [hu]; rfl
  · cases h
end
end Go.Proofs.YtfkjjnddefojjaaGreatDoor.R
