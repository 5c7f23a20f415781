/- Code run on states. No program text is named here. -/
import Derived.Test.YtfkocnnphjkmfaaRM
import Derived.Test.YtfkocnnphjkmfaaRU
set_option linter.unusedVariables false
set_option linter.unusedSimpArgs false
set_option linter.unnecessarySimpa false
set_option linter.unusedSectionVars false
namespace Go.Proofs.Ytfkocnnphjkmfaa.R
open Go.RowKit
open Go.Proofs.Ytfkocnnphjkmfaa.D

inductive Ann
  | no
  | two (a b : Ann)
  | loop (sh : List It) (a : Ann)
  | join (sh : List It) (a b : Ann)
  | joinX (sh : List It) (a b : Ann)
def Ann.l : Ann → Ann
  | .two a _ => a
  | _ => .no
def Ann.r : Ann → Ann
  | .two _ b => b
  | _ => .no
/-- the slots that are written -/
def kills : Code → List Nat
  | .region _ ops _ => ops.toList.filterMap (·.dst)
  | .seq a b => kills a ++ kills b
  | .cond _ a b => kills a ++ kills b
  | .block _ a => kills a
  | .loop a => kills a
  | .scope a => kills a
  | _ => []
def kxOf {Y : Type} (i : Nat) (kb : Sg → Option Y) (kx : Nat → Sg → Option Y) : Nat → Sg → Option Y := fun j s => if Nat.beq j i then kb s else kx j s
def interp (V : Env) {R : Type} (rt : Sg → Option R) : (c : Code) → {Y : Type} → Ann → (R → Option Y) → (Nat → Sg → Option Y) → (Sg → Option Y) → Sg → Option Y
  | .skip, _, _, kr, kx, kn, s => kn s
  | .ret, _, _, kr, kx, kn, s => (rt s).bind kr
  | .region _ ops false, _, _, kr, kx, kn, s => runSeq V ops.toList kn ops.toList s
  | .region _ ops true, _, _, kr, kx, kn, s => drawS V ops.toList kn s
  | .seq a b, Y, n, kr, kx, kn, s => match n with
    | .join sh n1 n2 => (mkCut (kills a) sh s).bind fun q => Option.bind (interp V rt a n1 (Y := denK (ksOf q.its)) (fun _ => none) (fun _ _ => none) (fun s' => (q.of s').bind fun d => some (ofN _ d)) s) fun d => interp V rt b n2 kr kx kn (q.at (toN _ d))
    | .joinX sh n1 n2 => (mkCut (kills a) sh s).bind fun q => bindJ (interp V rt a n1 (Y := Y ⊕ denK (ksOf q.its)) (fun r => (kr r).bind fun t => some (.inl t)) (fun i s' => (kx i s').bind fun t => some (.inl t)) (fun s' => (q.of s').bind fun d => some (.inr (ofN _ d))) s) fun d => interp V rt b n2 kr kx kn (q.at (toN _ d))
    | n => interp V rt a n.l kr kx (fun s' => interp V rt b n.r kr kx kn s') s
  | .cond c a b, _, n, kr, kx, kn, s => (opd s c).bind fun v => onB v (interp V rt a n.l kr kx kn s) (interp V rt b n.r kr kx kn s)
  | .block i c, _, n, kr, kx, kn, s => match n, c with
    | .loop sh n, .loop c => (mkCut (kills c) sh s).bind fun q => (q.of s).bind fun d0 =>
        bindL (loopM (fun d => interp V rt c n (Y := Out R (denK (ksOf q.its))) (fun r => some (.ret r)) (kxOf i (fun s' => (q.of s').bind fun d => some (.brk (ofN _ d))) fun _ _ => none) (fun s' => (q.of s').bind fun d => some (.nxt (ofN _ d))) (q.at (toN _ d))) FUEL (ofN _ d0)) kr (fun d => kn (q.at (toN _ d)))
    | n, c => interp V rt c n kr (kxOf i kn kx) kn s
  | .exit i, _, _, kr, kx, kn, s => kx i s
  | _, _, _, _, _, _, _ => none

section
variable {V : Env} {P : Program} {I : Hp} {w0 : World} {F : Ch} {R : Type} {rt : Sg → Option R}
def IOk (V : Env) (P : Program) (I : Hp) (w0 : World) (F : Ch) {R : Type} (rt : Sg → Option R) (c : Code) : Prop := ∀ {Y : Type} (n : Ann) {kr : R → Option Y} {kx : Nat → Sg → Option Y} {kn : Sg → Option Y} {s : Sg} {y : Y} {Q : Exit → Act → World → Prop} {J : Hp} {θ : Th} {a : Act} {w : World},
    interp V rt c n kr kx kn s = some y → Sim P I w0 F V.n J θ s a w →
    (∀ J' θ' s' a' w', kn s' = some y → Sim P I w0 F V.n J' θ' s' a' w' → J.le J' → Fr s θ s' θ' → Q .normal a' w') →
    (∀ i J' θ' s' a' w', kx i s' = some y → Sim P I w0 F V.n J' θ' s' a' w' → J.le J' → Fr s θ s' θ' → Q (.exit i) a' w') →
    (∀ r J' θ' s' a' w', rt s' = some r → kr r = some y → Sim P I w0 F V.n J' θ' s' a' w' → J.le J' → Fr s θ s' θ' → Q .ret a' w') → c.wp P Q a w
theorem interp_both (hT : TTok P V.tt) (hF : FTok P V.ft) (hm : P.follows .mixedOrders = true) : ∀ c : Code, IOk V P I w0 F rt c ∧ ∀ c', c = .loop c' → IOk V P I w0 F rt c' := by
  intro c
  induction c with
  | skip =>
    refine ⟨?_, fun c' e => (by cases e)⟩
    intro Y n kr kx kn s y Q J θ a w h hS HN HX HR
    exact wp_skip (HN J θ s a w h hS Hp.le.rfl Fr.rfl)
  | ret =>
    refine ⟨?_, fun c' e => (by cases e)⟩
    intro Y n kr kx kn s y Q J θ a w h hS HN HX HR
    obtain ⟨r, h1, h2⟩ := bind_some (show (rt s).bind kr = some y from h)
    exact wp_ret (HR r J θ s a w h1 h2 hS Hp.le.rfl Fr.rfl)
  | exit i =>
    refine ⟨?_, fun c' e => (by cases e)⟩
    intro Y n kr kx kn s y Q J θ a w h hS HN HX HR
    exact wp_exit (HX i J θ s a w h hS Hp.le.rfl Fr.rfl)
  | region id ops dr =>
    refine ⟨?_, fun c' e => (by cases e)⟩
    intro Y n kr kx kn s y Q J θ a w h hS HN HX HR
    cases dr with
    | true =>
      have h : drawS V ops.toList kn s = some y := h
      have := drawS_ok (id := id) hT hF hm h hS fun s' θ' a' w' hk hS' hFr => HN J θ' s' a' w' hk hS' Hp.le.rfl hFr
      rwa [Array.toArray_toList] at this
    | false =>
      have h : runSeq V ops.toList kn ops.toList s = some y := h
      exact wp_region_lit (l := ops.toList) (runSeq_ok hT hF h hS fun s' θ' a' w' hk hS' hFr => HN J θ' s' a' w' hk hS' Hp.le.rfl hFr)
  | cond c x y ihx ihy =>
    refine ⟨?_, fun c' e => (by cases e)⟩
    intro Y n kr kx kn s r Q J θ a w h hS HN HX HR
    obtain ⟨v, hv', h⟩ := bind_some (show (opd s c).bind _ = some r from h)
    obtain ⟨b, hb, h⟩ := onB_ok h
    have hk : knows (envL θ s) c = true := by
      cases c with
      | tmp t =>
        have := look_envL (θ := θ) (show look s.env t = some v from hv')
        show ((envL θ s).lookup t).isSome = true
        rw [show (envL θ s).lookup t = _ from this]; rfl
      | _ => rfl
    have hev : evL (envL θ s) c = .bool b := (opd_ev hv').trans (hb θ)
    cases b with
    | true => exact cnd_true hS.agr hk hev rfl (ihx.1 n.l h hS HN HX HR)
    | false => exact cnd_false hS.agr hk hev rfl (ihy.1 n.r h hS HN HX HR)
  | seq x z ihx ihz =>
    refine ⟨?_, fun c' e => (by cases e)⟩
    intro Y n kr kx kn s y Q J θ a w h hS HN HX HR
    have plain : interp V rt x n.l kr kx (fun s' => interp V rt z n.r kr kx kn s') s = some y → (Code.seq x z).wp P Q a w := fun h =>
      wp_seq (ihx.1 n.l h hS (fun J' θ' s' a' w' hk hS' hJ hFr => ihz.1 n.r hk hS' (fun J2 θ2 s2 a2 w2 k2 S2 L2 F2 => HN J2 θ2 s2 a2 w2 k2 S2 (hJ.trans L2) (hFr.trans F2)) (fun i J2 θ2 s2 a2 w2 k2 S2 L2 F2 => HX i J2 θ2 s2 a2 w2 k2 S2 (hJ.trans L2) (hFr.trans F2)) (fun r J2 θ2 s2 a2 w2 q1 q2 S2 L2 F2 => HR r J2 θ2 s2 a2 w2 q1 q2 S2 (hJ.trans L2) (hFr.trans F2)))
        (fun i J' θ' s' a' w' hk hS' hJ hFr => thenX (HX i J' θ' s' a' w' hk hS' hJ hFr)) (fun r J' θ' s' a' w' q1 q2 hS' hJ hFr => thenR (HR r J' θ' s' a' w' q1 q2 hS' hJ hFr)))
    cases n with
    | join sh n1 n2 =>
      obtain ⟨q, hq, h⟩ := bind_some (show (mkCut (kills x) sh s).bind _ = some y from h)
      obtain ⟨d, h1, h2⟩ := bind_some h
      have hC := mkCut_ok hq hS.fine
      refine wp_seq (ihx.1 n1 h1 hS (fun J' θ' s' a' w' hk hS' hJ hFr => ?_) (fun i J' θ' s' a' w' hk hS' hJ hFr => by cases hk) (fun r J' θ' s' a' w' q1 q2 hS' hJ hFr => by cases q2))
      obtain ⟨d', hd, hk⟩ := bind_some hk
      obtain rfl := Option.some.inj hk
      obtain ⟨θ2, S2, F2⟩ := cut_ok hC hS' hFr hJ hd
      rw [toN_ofN] at h2
      exact ihz.1 n2 h2 S2 (fun J3 θ3 s3 a3 w3 k3 S3 L3 F3 => HN J3 θ3 s3 a3 w3 k3 S3 (hJ.trans L3) (F2.trans F3)) (fun i J3 θ3 s3 a3 w3 k3 S3 L3 F3 => HX i J3 θ3 s3 a3 w3 k3 S3 (hJ.trans L3) (F2.trans F3)) (fun r J3 θ3 s3 a3 w3 q1 q2 S3 L3 F3 => HR r J3 θ3 s3 a3 w3 q1 q2 S3 (hJ.trans L3) (F2.trans F3))
    | joinX sh n1 n2 =>
      obtain ⟨q, hq, h⟩ := bind_some (show (mkCut (kills x) sh s).bind _ = some y from h)
      obtain ⟨o, h1, h2⟩ := bindJ_some h
      have hC := mkCut_ok hq hS.fine
      refine wp_seq (ihx.1 n1 h1 hS (fun J' θ' s' a' w' hk hS' hJ hFr => ?_) (fun i J' θ' s' a' w' hk hS' hJ hFr => ?_) (fun r J' θ' s' a' w' q1 q2 hS' hJ hFr => ?_))
      · obtain ⟨d', hd, hk⟩ := bind_some hk
        obtain rfl := Option.some.inj hk
        obtain ⟨θ2, S2, F2⟩ := cut_ok hC hS' hFr hJ hd
        rcases h2 with ⟨d, e, h2⟩ | h2
        · obtain rfl := Sum.inr.inj e
          rw [toN_ofN] at h2
          exact ihz.1 n2 h2 S2 (fun J3 θ3 s3 a3 w3 k3 S3 L3 F3 => HN J3 θ3 s3 a3 w3 k3 S3 (hJ.trans L3) (F2.trans F3)) (fun i J3 θ3 s3 a3 w3 k3 S3 L3 F3 => HX i J3 θ3 s3 a3 w3 k3 S3 (hJ.trans L3) (F2.trans F3)) (fun r J3 θ3 s3 a3 w3 q1 q2 S3 L3 F3 => HR r J3 θ3 s3 a3 w3 q1 q2 S3 (hJ.trans L3) (F2.trans F3))
        · cases h2
      · obtain ⟨t, ht, hk⟩ := bind_some hk
        obtain rfl := Option.some.inj hk
        rcases h2 with ⟨d, e, h2⟩ | h2
        · cases e
        · obtain rfl := Sum.inl.inj h2
          exact thenX (HX i J' θ' s' a' w' ht hS' hJ hFr)
      · obtain ⟨t, ht, hk⟩ := bind_some q2
        obtain rfl := Option.some.inj hk
        rcases h2 with ⟨d, e, h2⟩ | h2
        · cases e
        · obtain rfl := Sum.inl.inj h2
          exact thenR (HR r J' θ' s' a' w' q1 ht hS' hJ hFr)
    | no => exact plain h
    | two _ _ => exact plain h
    | loop _ _ => exact plain h
  | block i x ih =>
    refine ⟨?_, fun c' e => (by cases e)⟩
    intro Y n kr kx kn s y Q J θ a w h hS HN HX HR
    have plain : interp V rt x n kr (kxOf i kn kx) kn s = some y → (Code.block i x).wp P Q a w := fun h =>
      wp_block (ih.1 n h hS (fun J' θ' s' a' w' hk hS' hJ hFr => nrmB (HN J' θ' s' a' w' hk hS' hJ hFr))
        (fun j J' θ' s' a' w' hk hS' hJ hFr => by
          unfold kxOf at hk
          split at hk
          · rename_i hj
            have : j = i := Nat.eq_of_beq_eq_true hj
            subst this
            exact ex_in (HN J' θ' s' a' w' hk hS' hJ hFr)
          · rename_i hj
            exact ex_out (fun e => hj (by rw [e]; exact Nat.beq_refl i)) (HX j J' θ' s' a' w' hk hS' hJ hFr))
        (fun r J' θ' s' a' w' q1 q2 hS' hJ hFr => blkR (HR r J' θ' s' a' w' q1 q2 hS' hJ hFr)))
    cases n with
    | loop sh n =>
      cases x with
      | loop x =>
        obtain ⟨q, hq, h⟩ := bind_some (show (mkCut (kills x) sh s).bind _ = some y from h)
        obtain ⟨d0, hd0, h⟩ := bind_some h
        obtain ⟨o, ho, hc⟩ := bindL_some h
        have hC := mkCut_ok hq hS.fine
        have hx : IOk V P I w0 F rt x := ih.2 x rfl
        refine wp_block (wp_loopM (fun d a w => ∃ J' θ', J.le J' ∧ Sim P I w0 F V.n J' θ' (q.at (toN _ d)) a w ∧ Fr s θ (q.at (toN _ d)) θ') ho ?_ ?_)
        · obtain ⟨θ1, S1, F1⟩ := cut_ok hC hS Fr.rfl Hp.le.rfl hd0
          exact ⟨J, θ1, Hp.le.rfl, by rw [toN_ofN]; exact S1, by rw [toN_ofN]; exact F1⟩
        · rintro d o' hf hlast a w ⟨J1, θ1, L1, S1, F1⟩
          refine hx n hf S1 (fun J' θ' s' a' w' hk hS' hJ hFr => ?_) (fun j J' θ' s' a' w' hk hS' hJ hFr => ?_) (fun r J' θ' s' a' w' q1 q2 hS' hJ hFr => ?_)
          · obtain ⟨d', hd, hk⟩ := bind_some hk
            obtain rfl := Option.some.inj hk
            obtain ⟨θ2, S2, F2⟩ := cut_ok hC hS' (F1.trans hFr) (L1.trans hJ) hd
            exact nrm ⟨_, rfl, J', θ2, L1.trans hJ, by rw [toN_ofN]; exact S2, by rw [toN_ofN]; exact F2⟩
          · unfold kxOf at hk
            split at hk
            · rename_i hj
              have : j = i := Nat.eq_of_beq_eq_true hj
              subst this
              obtain ⟨d', hd, hk⟩ := bind_some hk
              obtain rfl := Option.some.inj hk
              have ho2 := hlast (by simp)
              obtain ⟨θ2, S2, F2⟩ := cut_ok hC hS' (F1.trans hFr) (L1.trans hJ) hd
              rcases hc with ⟨d2, e, hc⟩ | ⟨r, e, hc⟩
              · obtain rfl := Out.brk.inj (ho2.trans e)
                rw [toN_ofN] at hc
                exact thenX (ex_in (HN J' θ2 _ a' w' hc S2 (L1.trans hJ) F2))
              · cases ho2.trans e
            · cases hk
          · obtain rfl := Option.some.inj q2
            have ho2 := hlast (by simp)
            rcases hc with ⟨d2, e, hc⟩ | ⟨r', e, hc⟩
            · cases ho2.trans e
            · obtain rfl := Out.ret.inj (ho2.trans e)
              exact thenR (blkR (HR r J' θ' s' a' w' q1 hc hS' (L1.trans hJ) (F1.trans hFr)))
      | _ => exact plain h
    | _ => exact plain h
  | loop x ih =>
    refine ⟨?_, fun c' e => ?_⟩
    · intro Y n kr kx kn s y Q J θ a w h hS HN HX HR
      cases h
    · cases e
      exact ih.1
  | _ =>
    refine ⟨?_, fun c' e => (by cases e)⟩
    intro Y n kr kx kn s y Q J θ a w h hS HN HX HR
    cases h
end
end Go.Proofs.Ytfkocnnphjkmfaa.R
