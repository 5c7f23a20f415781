/- A state may be cut. No program text is named here. -/
import Derived.Test.YtfkocnnphjkmfaaRL
set_option linter.unusedVariables false
set_option linter.unusedSimpArgs false
set_option linter.unnecessarySimpa false
set_option linter.unusedSectionVars false
namespace Go.Proofs.Ytfkocnnphjkmfaa.R
open Go.RowKit
open Go.Proofs.Ytfkocnnphjkmfaa.D

def NotHole : Chk → Prop
  | .hole _ _ _ _ _ _ _ _ _ _ => False
  | _ => True
theorem newK_ver {id ver : Nat} {k : Knd} {d : k.den} : ∀ e ∈ newK id ver k d, e.2.1 = ver ∧ NotHole e.2.2 := by
  cases k with
  | own E t => intro e he; obtain rfl := List.mem_singleton.1 he; exact ⟨rfl, trivial⟩
  | _ => intro e he; cases he
theorem newKs_ver {ver : Nat} : ∀ {ks : List Knd} {id : Nat} {d : denN ks}, ∀ e ∈ newKs id ver ks d, e.2.1 = ver ∧ NotHole e.2.2
  | [], _, _ => fun e he => by cases he
  | k :: ks, id, d => fun e he => by
    rcases List.mem_append.1 he with he | he
    · exact newK_ver e he
    · exact newKs_ver e he
theorem newCs_ver {ver : Nat} : ∀ {rs : List RIt} {id : Nat} {d : denN (ksOf rs)}, ∀ e ∈ newCs ver id rs d, e.2.1 = ver ∧ NotHole e.2.2
  | [], _, _ => fun e he => by cases he
  | r :: rs, id, d => fun e he => by
    rcases List.mem_append.1 he with he | he
    · cases r with
      | slot t k => exact newKs_ver e he
      | box h T ks =>
        rcases List.mem_cons.1 he with rfl | he
        · exact ⟨rfl, trivial⟩
        · exact newKs_ver e he
      | row h E u => obtain rfl := List.mem_singleton.1 he; exact ⟨rfl, trivial⟩
      | agg t k ks => exact newKs_ver e he
    · exact newCs_ver e he
theorem newEs_ver : ∀ {rs : List RIt} {id : Nat} {d : denN (ksOf rs)}, (∀ e ∈ newEs id rs d, id ≤ e.2.1 ∧ e.2.1 < id + (ksOf rs).length) ∧ (newEs id rs d).Pairwise fun a b => a.2.1 ≠ b.2.1
  | [], _, _ => ⟨fun e he => (by cases he), List.Pairwise.nil⟩
  | r :: rs, id, d => by
    have hl : (ksOf (r :: rs)).length = r.ks.length + (ksOf rs).length := List.length_append ..
    obtain ⟨k1, k2⟩ := newEs_ver (rs := rs) (id := id + r.ks.length) (d := sndN r.ks (ksOf rs) d)
    have hE : ∀ e ∈ newE id r (fstN r.ks (ksOf rs) d), e.2.1 = id ∧ 0 < r.ks.length := fun e he => by
      cases r with
      | slot t k => obtain rfl := List.mem_singleton.1 he; exact ⟨rfl, Nat.one_pos⟩
      | agg t k ks => obtain rfl := List.mem_singleton.1 he; exact ⟨rfl, Nat.succ_pos _⟩
      | box _ _ _ => cases he
      | row _ _ _ => cases he
    have hP : (newE id r (fstN r.ks (ksOf rs) d)).Pairwise fun a b => a.2.1 ≠ b.2.1 := by
      cases r with
      | slot t k => exact List.pairwise_singleton _ _
      | agg t k ks => exact List.pairwise_singleton _ _
      | box _ _ _ => exact List.Pairwise.nil
      | row _ _ _ => exact List.Pairwise.nil
    refine ⟨fun e he => ?_, List.pairwise_append.2 ⟨hP, k2, fun a ha b hb => ?_⟩⟩
    · rw [hl]
      rcases List.mem_append.1 he with he | he
      · have := hE e he; omega
      · have := k1 e he; omega
    · have := hE a ha; have := k1 b hb; omega
theorem lookV_ok {t v : Nat} : ∀ {l : List (Nat × Nat × AV)}, lookV l t = some v → ∃ x, look l t = some x ∧ (t, v, x) ∈ l
  | (u, k, x) :: l, h => by
    unfold lookV at h
    split at h
    · rename_i hu
      have : u = t := Nat.eq_of_beq_eq_true hu
      subst this
      obtain rfl := Option.some.inj h
      refine ⟨x, ?_, by simp⟩
      unfold look
      rw [if_pos (Nat.beq_refl u)]
    · rename_i hu
      obtain ⟨y, h1, h2⟩ := lookV_ok h
      refine ⟨y, ?_, by simp [h2]⟩
      unfold look
      rw [if_neg hu]; exact h1
theorem envStays_ok {env : List (Nat × Nat × AV)} : ∀ {l : List (Nat × Nat × AV)}, envStays env l = true → ∀ e ∈ l, lookV env e.1 = some e.2.1
  | e :: l, h, x, hx => by
    have h : ((match lookV env e.1 with | some v => Nat.beq v e.2.1 | none => false) && envStays env l) = true := h
    rw [Bool.and_eq_true] at h
    rcases List.mem_cons.1 hx with rfl | hx
    · have h1 := h.1
      split at h1
      · rename_i v hv
        rw [hv, Nat.eq_of_beq_eq_true h1]
      · cases h1
    · exact envStays_ok h.2 x hx
theorem chsStay_ok : ∀ {l chs rest : List Ent}, chsStay l chs = some rest → (∀ e ∈ l, ∀ e' ∈ chs, e'.1 = e.1 → e'.2.1 = e.2.1 → e' = e) → chs.Perm (l ++ rest)
  | [], chs, rest, h, _ => by obtain rfl := Option.some.inj (show some _ = some rest from h); exact List.Perm.refl _
  | e :: l, chs, rest, h, k => by
    obtain ⟨r, hr, h⟩ := bind_some (show (pull e.1 chs).bind _ = some rest from h)
    obtain ⟨hv, h⟩ := chkT_ok h
    obtain ⟨p, he⟩ := pull_ok hr
    have hre : r.1 = e := k e (by simp) r.1 (p.mem_iff.2 (by simp)) he (Nat.eq_of_beq_eq_true hv)
    rw [hre] at p
    exact p.trans ((chsStay_ok h fun x hx x' hx' => k x (by simp [hx]) x' (p.mem_iff.2 (by simp [hx']))).cons e)
theorem distinctH_ok : ∀ {l : List Ent}, distinctH l = true → ∀ a ∈ l, ∀ b ∈ l, a.1 = b.1 → a = b
  | e :: l, h, a, ha, b, hb, hab => by
    have h : (noHdr e.1 l && distinctH l) = true := h
    rw [Bool.and_eq_true] at h
    rcases List.mem_cons.1 ha with h1 | h1
    · rcases List.mem_cons.1 hb with h2 | h2
      · rw [h1, h2]
      · rw [h1] at hab; exact absurd hab.symm (noHdr_ok h.1 h2)
    · rcases List.mem_cons.1 hb with h2 | h2
      · rw [h2] at hab; exact absurd hab (noHdr_ok h.1 h1)
      · exact distinctH_ok h.2 a h1 b h2 hab
theorem pair_uniq {l : List (Nat × Nat × AV)} (h : l.Pairwise fun a b => a.2.1 ≠ b.2.1) : ∀ a ∈ l, ∀ b ∈ l, a.2.1 = b.2.1 → a = b := by
  induction l with
  | nil => intro a ha; cases ha
  | cons e l ih =>
    intro a ha b hb hab
    obtain ⟨h1, h2⟩ := List.pairwise_cons.1 h
    rcases List.mem_cons.1 ha with k1 | k1
    · rcases List.mem_cons.1 hb with k2 | k2
      · rw [k1, k2]
      · rw [k1] at hab; exact absurd hab (h1 b k2)
    · rcases List.mem_cons.1 hb with k2 | k2
      · rw [k2] at hab; exact absurd hab.symm (h1 a k1)
      · exact ih h2 a k1 b k2 hab
structure CutOk (P : Program) (w0 : World) (c : Cut) (s : Sg) (J0 : Hp) (θ0 : Th) : Prop where
  nxt : c.nxt = s.nxt
  env : ∀ e ∈ c.env, e ∈ s.env
  nd : c.env.Pairwise fun a b => a.2.1 ≠ b.2.1
  chs : ∀ e ∈ c.chs, e ∈ s.chs
  dist : distinctH s.chs = true
  hdr : ∀ h ∈ hdrsR c.its, h.id < s.nxt
  fine : Fine P w0 J0 θ0 s
section
variable {V : Env} {P : Program} {I : Hp} {w0 w : World} {F : Ch} {J J0 : Hp} {θ θ0 : Th} {s s' : Sg} {a : Act} {c : Cut}
theorem mkCut_ok {ks : List Nat} {is : List It} (h : mkCut ks is s = some c) (hf : Fine P w0 J θ s) : CutOk P w0 c s J θ := by
  obtain ⟨rs, hrs, h⟩ := bind_some h
  obtain ⟨hd, h⟩ := chkT_ok h
  obtain rfl := Option.some.inj h
  have hres : ∀ {is : List It} {rs : List RIt}, resolveL s is = some rs → ∀ h ∈ hdrsR rs, h.id < s.nxt := by
    intro is
    induction is with
    | nil => intro rs h x hx; obtain rfl := Option.some.inj (show some _ = some rs from h); cases hx
    | cons i is ih =>
      intro rs h x hx
      obtain ⟨r, hr, h⟩ := bind_some (show (resolve s i).bind _ = some rs from h)
      obtain ⟨rs', hrs', h⟩ := bind_some h
      obtain rfl := Option.some.inj h
      rcases List.mem_append.1 hx with hx | hx
      · cases i with
        | slot t k => obtain rfl := Option.some.inj (show some _ = some r from hr); cases hx
        | agg t ks =>
          cases ks with
          | nil => cases hr
          | cons k ks => obtain rfl := Option.some.inj (show some _ = some r from hr); cases hx
        | par i p E u =>
          obtain ⟨hi, hr⟩ := chkT_ok (show chkT (Nat.blt i s.nxt) _ = some r from hr)
          obtain rfl := Option.some.inj hr
          obtain rfl := List.mem_singleton.1 hx
          rw [Nat.blt_eq] at hi
          exact hi
        | box t ks =>
          obtain ⟨h0, h1, hr⟩ := bind_some (show (ptr0 (look s.env t)).bind _ = some r from hr)
          obtain ⟨b, hb, hr⟩ := bind_some hr
          obtain rfl := Option.some.inj hr
          obtain rfl := List.mem_singleton.1 hx
          exact (hf.chs _ ((blkOf_ok hb).mem_iff.2 (List.mem_cons_self ..))).1
        | row t E u =>
          obtain ⟨h0, h1, hr⟩ := bind_some (show (own0 (look s.env t)).bind _ = some r from hr)
          obtain rfl := Option.some.inj hr
          obtain rfl := List.mem_singleton.1 hx
          obtain ⟨e, he, h2⟩ := look_mem (own0_ok h1)
          have := hf.env e he
          rw [h2] at this
          exact this.1
      · exact ih hrs' x hx
  exact ⟨rfl, fun e he => (List.mem_filter.1 (firstE_sub.mem he)).1, (hf.nd.filter _).sublist firstE_sub, fun e he => (List.mem_filter.1 he).1, hd, hres hrs, hf⟩
theorem cut_ok (hC : CutOk P w0 c s J0 θ0) (hS : Sim P I w0 F V.n J θ s' a w) (hFr : Fr s θ0 s' θ) (hJ : J0.le J) {d : denN (ksOf c.its)} (h : c.of s' = some d) : ∃ θ', Sim P I w0 F V.n J θ' (c.at d) a w ∧ Fr s θ0 (c.at d) θ' := by
  unfold Cut.of at h
  obtain ⟨S1, F1⟩ := prepL_ok (hs := ritHdrs s' c.its) hS
  obtain ⟨S2, F2⟩ := prepL_ok (hs := rowHdrs c.chs) S1
  generalize hs1 : prepL (rowHdrs c.chs) (prepL (ritHdrs s' c.its) s') = s1 at h S2 F2
  simp only at h
  obtain ⟨q, hq, h⟩ := bind_some h
  obtain ⟨rest2, hrest, h⟩ := bind_some h
  obtain ⟨henv, h⟩ := chkT_ok h
  obtain rfl := Option.some.inj h
  have hfr : Fr s θ0 s1 θ := (hFr.trans F1).trans F2
  obtain ⟨hsub, vals, hvl, hcut⟩ := getIs_ok (w := w) S2.fine.env hq S2.fine.chs
  have hsame : Same s.nxt θ0 θ := hfr.same
  let θ' : Th := fun i => if i < s.nxt then θ i else vals.getD (i - s.nxt) undef
  have hθ : Same s.nxt θ θ' := fun i hi => if_pos hi
  have hθ0 : Same s.nxt θ0 θ' := hsame.trans hθ (Nat.le_refl _)
  have htop : c.top = s.nxt + (ksOf c.its).length := by unfold Cut.top; rw [hC.nxt]
  obtain ⟨e1, e2, e3⟩ := hcut θ' s.nxt c.top (c.top + 1) (fun i v hi => by
    show (if s.nxt + i < s.nxt then _ else vals.getD (s.nxt + i - s.nxt) undef) = v
    rw [if_neg (by omega), Nat.add_sub_cancel_left, List.getD_eq_getElem?_getD, hi]; rfl) (by rw [htop]; exact Nat.le_succ _) (Nat.lt_succ_self _) (fun x hx => ⟨hv_same hθ (hC.hdr x hx), by have := hC.hdr x hx; rw [htop]; omega⟩) [F] S2.st
  have hstay : ∀ e ∈ c.chs, ∀ e' ∈ q.2, e'.1 = e.1 → e'.2.1 = e.2.1 → e' = e := fun e he e' he' h1 h2 => by
    have hes := hC.chs e he
    have hek := hC.fine.chs e hes
    rcases hfr.chs e' (hsub e' he') e'.1 e'.2.1 e'.2.2 ⟨rfl, .inl ⟨rfl, rfl⟩⟩ with h3 | ⟨e0, he0, h3⟩
    · have := hek.2.1; omega
    · have := distinctH_ok hC.dist e0 he0 e hes (h3.1.trans h1)
      subst this
      rcases h3.2 with ⟨h4, h5⟩ | h4
      · obtain ⟨x1, x2, x3⟩ := e'
        obtain ⟨y1, y2, y3⟩ := e0
        simp only at h1 h2 h5
        rw [h1, h2, h5]
      · obtain ⟨y1, y2, y3⟩ := e0
        cases y3 with
        | hole over t dd u y f i k off lv =>
          have h5 := h4.1
          have h6 := hek.2.2.2.1
          have h7 : over = e'.2.1 := h5
          have h8 : over < y2 := h6
          have h9 : e'.2.1 = y2 := h2
          omega
        | _ => exact h4.elim
  have hperm := chsStay_ok hrest hstay
  have hnew : Newer s.nxt s.chs (newCs c.top s.nxt c.its q.1 ++ c.chs) := fun e he h' ver x hs => by
    rcases List.mem_append.1 he with he | he
    · obtain ⟨k1, k2⟩ := newCs_ver e he
      rcases hs.2 with ⟨h1, h2⟩ | h1
      · left; rw [← h1, k1, htop]; omega
      · obtain ⟨y1, y2, y3⟩ := e
        cases y3 with
        | hole _ _ _ _ _ _ _ _ _ _ => exact k2.elim
        | _ => exact h1.elim
    · exact .inr ⟨e, hC.chs e he, hs⟩
  have hlook : ∀ e ∈ c.env, look s1.env e.1 = some e.2.2 := fun e he => by
    obtain ⟨x, h1, h2⟩ := lookV_ok (envStays_ok henv e he)
    have hes := hC.env e he
    have := pair_uniq hC.fine.nd _ (hfr.env _ h2 (hC.fine.ver e hes)) e hes rfl
    rw [h1, ← this]
  have hat : c.at q.1 = ⟨newEs s.nxt c.its q.1 ++ c.env, newCs c.top s.nxt c.its q.1 ++ c.chs, c.top + 1⟩ := by unfold Cut.at; rw [hC.nxt]
  obtain ⟨v1, v2⟩ := newEs_ver (rs := c.its) (id := s.nxt) (d := q.1)
  refine ⟨θ', ?_, by
    rw [hat]
    refine ⟨show s.nxt ≤ c.top + 1 by rw [htop]; omega, hθ0, fun e he hv0 => ?_, hnew⟩
    rcases List.mem_append.1 he with he | he
    · have := v1 e he; omega
    · exact hC.env e he⟩
  rw [hat]
  refine ⟨S2.le, S2.agr.pick _ fun p hp => ?_, ?_, fun e he => ?_, fun e he => ?_, List.pairwise_append.2 ⟨v2, hC.nd, fun x hx y hy hxy => ?_⟩, fun e he => ?_⟩
  · obtain ⟨e, he, rfl⟩ := List.mem_map.1 hp
    rcases List.mem_append.1 he with he | he
    · obtain ⟨-, x, h1, h2⟩ := e1 e he
      show (envL θ s1).lookup e.1 = some (e.2.2.v θ')
      rw [h2]; exact look_envL h1
    · have hok := hC.fine.env e (hC.env e he)
      show (envL θ s1).lookup e.1 = some (e.2.2.v θ')
      rw [AV.v_same hθ0 hok, ← AV.v_same hsame hok]; exact look_envL (hlook e he)
  · have hch : c.chs.map (toCh P θ') = c.chs.map (toCh P θ) := List.map_congr_left fun e he => by
      have hok := hC.fine.chs e (hC.chs e he)
      rw [toCh_same hθ0 hok, toCh_same hsame hok]
    show St J w0 w ((newCs c.top s.nxt c.its q.1 ++ c.chs).map (toCh P θ') ++ [F])
    rw [List.map_append, hch]
    have h1 := e3.perm (List.Perm.append_left _ ((hperm.map (toCh P θ)).append_right [F]))
    rw [List.map_append] at h1
    refine St.left (ds := rest2.map (toCh P θ)) (h1.perm ?_)
    rw [List.append_assoc, List.append_assoc, List.append_assoc]
    exact (List.Perm.append_left _ (List.Perm.append_left _ List.perm_append_comm))
  · rcases List.mem_append.1 he with he | he
    · exact (e1 e he).1 _
    · exact AV.ok_same hθ0 (show s.nxt ≤ c.top + 1 by rw [htop]; omega) hnew (hC.fine.env e (hC.env e he)) hJ
  · rcases List.mem_append.1 he with he | he
    · have := v1 e he
      show e.2.1 < c.top + 1
      rw [htop]; omega
    · have := hC.fine.ver e (hC.env e he)
      show e.2.1 < c.top + 1
      rw [htop]; omega
  · have := v1 x hx
    have := hC.fine.ver y (hC.env y hy)
    omega
  · rcases List.mem_append.1 he with he | he
    · exact e2 _ e he
    · exact okE_same hθ0 (show s.nxt ≤ c.top + 1 by rw [htop]; omega) hnew (hC.fine.chs e (hC.chs e he)) hJ
end
end Go.Proofs.Ytfkocnnphjkmfaa.R
