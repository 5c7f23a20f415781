/- A drawn region, run on states: the words of the plan hold. No program text is named here. -/
import Derived.Test.YtfkocnnphjkmfaaRS
set_option linter.unusedVariables false
set_option linter.unusedSimpArgs false
set_option linter.unnecessarySimpa false
set_option linter.unusedSectionVars false
namespace Go.Proofs.Ytfkocnnphjkmfaa.R
open Go.RowKit
open Go.Proofs.Ytfkocnnphjkmfaa.D

theorem addN_ok {t j : Nat} {l : List Nat} : j ∈ addN t l ↔ j = t ∨ j ∈ l := by
  unfold addN
  split
  · rename_i h
    have := isIn_ok.1 h
    constructor
    · exact fun h => .inr h
    · rintro (rfl | h)
      · exact this
      · exact h
  · exact List.mem_cons
theorem addAll_ok {j : Nat} : ∀ {l acc : List Nat}, j ∈ addAll l acc ↔ j ∈ l ∨ j ∈ acc
  | [], acc => by simp [addAll]
  | t :: l, acc => by
    unfold addAll
    rw [addAll_ok (l := l), addN_ok, List.mem_cons]
    constructor
    · rintro (h | h | h) <;> simp [h]
    · rintro ((h | h) | h) <;> simp [h]
def bAt (l : List TR) (k : Nat) : List Nat := match recAt k l with
  | some y => y.b
  | none => []
theorem bOf_ok {l : List TR} {j : Nat} : ∀ {js acc : List Nat}, j ∈ bOf l js acc ↔ j ∈ acc ∨ ∃ k ∈ js, j = k ∨ j ∈ bAt l k
  | [], acc => by simp [bOf]
  | k :: js, acc => by
    unfold bOf
    rw [bOf_ok (js := js), addAll_ok, addN_ok]
    show (j ∈ bAt l k ∨ j = k ∨ j ∈ acc) ∨ _ ↔ _
    constructor
    · rintro ((h | h | h) | ⟨k', hk, h⟩)
      · exact .inr ⟨k, by simp, .inr h⟩
      · exact .inr ⟨k, by simp, .inl h⟩
      · exact .inl h
      · exact .inr ⟨k', by simp [hk], h⟩
    · rintro (h | ⟨k', hk, h⟩)
      · exact .inl (.inr (.inr h))
      · rcases List.mem_cons.1 hk with hk | hk
        · subst hk
          rcases h with h | h
          · exact .inl (.inr (.inl h))
          · exact .inl (.inl h)
        · exact .inr ⟨k', hk, h⟩
theorem recAt_some {y : TR} : ∀ {l : List TR}, y ∈ l → ∃ z, recAt y.i l = some z
  | x :: l, h => by
    unfold recAt
    split
    · exact ⟨_, rfl⟩
    · rename_i hx
      rcases List.mem_cons.1 h with h | h
      · rw [h] at hx; exact absurd (Nat.beq_refl _) hx
      · exact recAt_some h
section
variable {P : Program} {w0 : World} {n : Nat} {s0 : Sg} {ops : List Oper} {l : List TR} {J : Hp} {θ : Th} {vs : Nat → Value}
/-- what comes before what comes before, comes before -/
theorem AllOk.closed (ha : AllOk P w0 n s0 ops l) (hlt : ∀ x ∈ l, ∀ j ∈ x.b, j < x.i) : ∀ x ∈ l, ∀ y ∈ l, y.i ∈ x.b → ∀ k ∈ y.b, k ∈ x.b := by
  have main : ∀ m, ∀ x ∈ l, x.i = m → ∀ y ∈ l, y.i ∈ x.b → ∀ k ∈ y.b, k ∈ x.b := by
    intro m
    induction m using Nat.strongRecOn with
    | _ m ih =>
      intro x hx hxm y hy hyb k hk
      obtain ⟨l1, h1, h2, h3, h4⟩ := ha.get hx
      have hyl := hlt x hx _ hyb
      have hy1 := h4 y hy hyl
      rw [h1.hb, bOf_ok] at hyb ⊢
      rcases hyb with hyb | ⟨q, hq, hyb | hyb⟩
      · cases hyb
      · refine .inr ⟨q, hq, .inr ?_⟩
        subst hyb
        obtain ⟨z, hz⟩ := recAt_some hy1
        unfold bAt
        rw [hz]
        obtain ⟨hz1, hz2⟩ := recAt_ok hz
        obtain rfl := ha.uniq z (h3 z hz1) y hy hz2
        exact hk
      · refine .inr ⟨q, hq, .inr ?_⟩
        unfold bAt at hyb ⊢
        split at hyb
        · rename_i z hz
          obtain ⟨hz1, hz2⟩ := recAt_ok hz
          have hzl := h2.lt z hz1
          rw [← h1.hi] at hzl
          exact ih z.i (by omega) z (h3 z hz1) rfl y hy hyb k hk
        · cases hyb
  exact fun x hx => main x.i x hx rfl
theorem env_nd (hf : Fine P w0 J θ s0) : AllOk P w0 n s0 ops l → (envOf s0.nxt s0.env l).Pairwise fun a b => a.2.1 ≠ b.2.1 := by
  induction l with
  | nil => intro _; exact hf.nd
  | cons x l ih =>
    rintro ⟨h1, h2⟩
    refine nd_go x.o.dst (ih h2) fun e he => ?_
    rcases env_mem he with h | ⟨y, hy, k1, k2, k3⟩
    · have := hf.ver e h; omega
    · have := h2.lt y hy
      have := h1.hi
      omega
where nd_go {env : List (Nat × Nat × AV)} {k : Nat} {av : AV} (d : Option Nat) (h : env.Pairwise fun a b => a.2.1 ≠ b.2.1) (hv : ∀ e ∈ env, e.2.1 < k) : (putE d k av env).Pairwise fun a b => a.2.1 ≠ b.2.1 := nd_put h hv
/-- all of an operation's words, out of those of what comes before -/
theorem words (hB : distinctB s0.chs = true) (hK : distinctK (tabOf s0.nxt s0.chs l) = true) (hf : Fine P w0 J θ s0) (ha : AllOk P w0 n s0 ops l) (hc : ∀ x ∈ l, recChk s0.nxt x = true) (hlt : ∀ x ∈ l, ∀ j ∈ x.b, j < x.i)
    (B : List Nat) (hcl : ∀ y ∈ l, y.i ∈ B → ∀ k ∈ y.b, k ∈ B) (hfact : ∀ y ∈ l, y.i ∈ B → RawF P w0 J (thOf θ s0.nxt vs) s0.nxt y (vs y.i)) :
    ∀ x ∈ l, (∀ k ∈ x.b, k ∈ B) → Fine P w0 J (thOf θ s0.nxt vs) x.s ∧ (∀ e ∈ givesOf s0.nxt x, ∀ h ver c, Says e h ver c → Orig s0 l h ver c) ∧ ∀ e ∈ x.r.chs (s0.nxt + x.i), ∀ h ver c, Says e h ver c → Orig s0 l h ver c := by
  have main : ∀ m, ∀ x ∈ l, x.i = m → (∀ k ∈ x.b, k ∈ B) → Fine P w0 J (thOf θ s0.nxt vs) x.s ∧ (∀ e ∈ givesOf s0.nxt x, ∀ h ver c, Says e h ver c → Orig s0 l h ver c) ∧ ∀ e ∈ x.r.chs (s0.nxt + x.i), ∀ h ver c, Says e h ver c → Orig s0 l h ver c := by
    intro m
    induction m using Nat.strongRecOn with
    | _ m ih =>
      intro x hx hxm hxB
      obtain ⟨l1, h1, h2, h3, h4⟩ := ha.get hx
      have IH : ∀ y ∈ l, y.i ∈ x.b → _ := fun y hy hyb => ih y.i (by have := hlt x hx _ hyb; omega) y hy rfl (hcl y hy (hxB _ hyb))
      have hF : Fine P w0 J (thOf θ s0.nxt vs) x.s := by
        rw [h1.hs]
        exact fine_sub hB hK hf ha hc l1 h3 x.b x.i (hlt x hx) (fun y hy hyb => hfact y hy (hxB _ hyb)) (fun y hy hyb => (IH y hy hyb).2.1) (fun y hy hyb => (IH y hy hyb).2.2) (env_nd hf h2)
      have hsub : ∀ e ∈ x.s.chs, ∀ h ver c, Says e h ver c → Orig s0 l h ver c := by
        intro e he h ver c hs
        rw [h1.hs] at he
        obtain ⟨k1, k2⟩ := sub_chs he
        rcases tab_mem.1 k1 with k1 | ⟨y, hy, k1⟩
        · exact .inl ⟨e, k1, hs⟩
        · have hv := (gives_ver k1).1
          rcases k2 with k2 | k2
          · omega
          · rw [hv, Nat.add_sub_cancel_left] at k2
            exact (IH y (h3 y hy) k2).2.1 e k1 h ver c hs
      have hgv : ∀ e ∈ givesOf s0.nxt x, ∀ h ver c, Says e h ver c → Orig s0 l h ver c := by
        intro e he h ver c hs
        cases hr : x.run with
        | true =>
          obtain ⟨g1, g2⟩ := h1.good hr
          obtain ⟨hv, hg⟩ := gives_ver he
          obtain ⟨k1, k2⟩ := hs
          rcases k2 with ⟨k2, k3⟩ | k2
          · refine .inr ⟨x, hx, ?_⟩
            have : e = (h, ver, c) := by rw [k3, ← k1, ← k2]
            rw [← this]; exact he
          · obtain ⟨e0, he0, k⟩ := g1.says J _ hF _ hg ver c k2
            simp only at k
            rw [k1] at k
            exact hsub e0 he0 h ver c k
        | false =>
          have := h1.skip hr
          unfold givesOf at he
          rw [this] at he
          cases he
      refine ⟨hF, hgv, fun e he h ver c hs => ?_⟩
      unfold Res.chs at he
      rcases List.mem_append.1 he with he | he
      · exact hgv e he h ver c hs
      · refine hsub e ?_ h ver c hs
        cases hr : x.run with
        | true =>
          obtain ⟨g1, g2⟩ := h1.good hr
          exact g1.perm.mem_iff.2 (by rcases List.mem_append.1 he with he | he <;> simp [he])
        | false =>
          rw [h1.skip hr] at he
          simpa using he
  exact fun x hx hxB => main x.i x hx rfl hxB
theorem verOf_look {t : Nat} {av : AV} : ∀ {env : List (Nat × Nat × AV)}, look env t = some av → ∃ v, verOf env t = some v ∧ (t, v, av) ∈ env
  | (u, k, x) :: l, h => by
    unfold look at h
    unfold verOf
    split at h
    · rename_i hu
      obtain rfl := Option.some.inj h
      rw [if_pos hu, Nat.eq_of_beq_eq_true hu]
      exact ⟨k, rfl, by simp⟩
    · rename_i hu
      rw [if_neg hu]
      obtain ⟨v, h1, h2⟩ := verOf_look h
      exact ⟨v, h1, by simp [h2]⟩
/-- what was known at the start is found there -/
theorem look_base {t v : Nat} {av : AV} {f : Nat × Nat × AV → Bool} (hf : ∀ e ∈ s0.env, f e = true) : look ((envOf s0.nxt s0.env l).filter f) t = some av → verOf ((envOf s0.nxt s0.env l).filter f) t = some v → v < s0.nxt → look s0.env t = some av := by
  induction l with
  | nil =>
    intro h1 h2 h3
    rw [show (envOf s0.nxt s0.env []).filter f = s0.env from List.filter_eq_self.2 hf] at h1
    exact h1
  | cons x l ih =>
    intro h1 h2 h3
    unfold envOf putE at h1 h2
    split at h1
    · rename_i d hd
      rw [hd] at h2
      simp only at h2
      rw [List.filter_cons] at h1 h2
      split at h1
      · rename_i hk
        rw [if_pos hk] at h2
        unfold look at h1
        unfold verOf at h2
        split at h1
        · rename_i hu
          rw [if_pos hu] at h2
          have := Option.some.inj h2
          omega
        · rename_i hu
          rw [if_neg hu] at h2
          exact ih h1 h2 h3
      · rename_i hk
        rw [if_neg hk] at h2
        exact ih h1 h2 h3
    · rename_i hd
      rw [hd] at h2
      exact ih h1 h2 h3
/-- a slot's value, out of what made it -/
theorem valAt (hf : Fine P w0 J θ s0) {b : List Nat} {i : Nat} {L1 : List TR} (hL : ∀ y ∈ L1, y ∈ l) (hfact : ∀ y ∈ l, y.i ∈ b → RawF P w0 J (thOf θ s0.nxt vs) s0.nxt y (vs y.i)) {t v : Nat} {av : AV}
    (h1 : look (subS s0 L1 i b).env t = some av) (h2 : verOf (subS s0 L1 i b).env t = some v) : (match opOf s0.nxt v with | some j => vs j | none => ((envL θ s0).lookup t).getD undef) = av.v (thOf θ s0.nxt vs) := by
  obtain ⟨v', h3, h4⟩ := verOf_look h1
  obtain rfl := Option.some.inj (h2.symm.trans h3)
  unfold opOf
  by_cases hv : v < s0.nxt
  · rw [if_pos (nblt.2 hv)]
    have hb := look_base (fun e he => inB_ok.2 (.inl (hf.ver e he))) h1 h2 hv
    obtain ⟨e, he, rfl⟩ := look_mem hb
    rw [AV.v_same (thOf_same (vs := vs)) (hf.env e he)]
    simp only
    rw [show (envL θ s0).lookup t = _ from look_envL hb]; rfl
  · rw [if_neg (fun h => hv (nblt.1 h))]
    obtain ⟨h5, h6⟩ := sub_env h4
    rcases env_mem h5 with h5 | ⟨y, hy, k1, k2, k3⟩
    · exact absurd (hf.ver _ h5) hv
    · rcases h6 with h6 | h6
      · exact absurd h6 hv
      · have k2 : v = s0.nxt + y.i := k2
        have k3 : av = y.r.av := k3
        have h6 : v - s0.nxt ∈ b := h6
        rw [k2, Nat.add_sub_cancel_left] at h6
        rw [k2, Nat.add_sub_cancel_left, k3]
        exact (hfact y (hL y hy) h6).2.1.symm
end
end Go.Proofs.Ytfkocnnphjkmfaa.R
