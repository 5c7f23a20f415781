/- FnExactReplayLog: for every input the law returns true and changes nothing that was there. Part 7 of 9. -/
import Derived.Test.YtfkjjnddefojjaaGreatDoorEC5
set_option linter.unusedVariables false
set_option linter.unusedSimpArgs false
set_option linter.unnecessarySimpa false
set_option linter.unusedSectionVars false
/- Code run on states. No program text is named here. -/
set_option linter.unusedVariables false
set_option linter.unusedSimpArgs false
set_option linter.unnecessarySimpa false
set_option linter.unusedSectionVars false
namespace Go.Proofs.YtfkjjnddefojjaaGreatDoor.R
open Go.RowKit
open Go.Proofs.YtfkjjnddefojjaaGreatDoor.D

inductive Ann
  | no
  | two (a b : Ann)
  | loop (sh : List It) (a : Ann)
  | join (sh : List It) (a b : Ann)
  | joinX (sh : List It) (a b : Ann)
  | at (sh : List It) (a : Ann)
  | atX (sh : List It) (a : Ann)
def Ann.l : Ann → Ann
  | .two a _ => a
  | _ => .no
def Ann.r : Ann → Ann
  | .two _ b => b
  | _ => .no
def kills : Code → List Nat
  | .region _ ops _ => ops.toList.filterMap (·.dst)
  | .seq a b => kills a ++ kills b
  | .cond _ a b => kills a ++ kills b
  | .block _ a => kills a
  | .loop a => kills a
  | .scope a => kills a
  | _ => []
def slotsI : List It → List Nat
  | [] => []
  | .slot t _ :: is => t :: slotsI is
  | _ :: is => slotsI is
def killI (c : Code) (is : List It) : List Nat := kills c ++ slotsI is
def kxOf {Y : Type} (i : Nat) (kb : Sg → Option Y) (kx : Nat → Sg → Option Y) : Nat → Sg → Option Y := fun j s => if Nat.beq j i then kb s else kx j s
def cutA (V : Env) {R Y : Type} (c : Code) (n : Ann) (kr : R → Option Y) (kx : Nat → Sg → Option Y) (kn : Sg → Option Y) (s : Sg) (run : (Z : Type) → Ann → (R → Option Z) → (Nat → Sg → Option Z) → (Sg → Option Z) → Sg → Option Z) : Option Y := match n with
  | .at sh n => (mkCut (killI c sh) sh s).bind fun q => Option.bind (run (denK (ksOf q.its)) n (fun _ => none) (fun _ _ => none) (fun s' => (q.of s').bind fun d => some (ofN _ d)) s) fun d => kn (q.at (toN _ d))
  | .atX sh n => (mkCut (killI c sh) sh s).bind fun q => bindJ (run (Y ⊕ denK (ksOf q.its)) n (fun r => (kr r).bind fun t => some (.inl t)) (fun i s' => (kx i s').bind fun t => some (.inl t)) (fun s' => (q.of s').bind fun d => some (.inr (ofN _ d))) s) fun d => kn (q.at (toN _ d))
  | n => run Y n kr kx kn s
noncomputable def interp (V : Env) {R : Type} (rt : Sg → Option R) : (c : Code) → {Y : Type} → Ann → (R → Option Y) → (Nat → Sg → Option Y) → (Sg → Option Y) → Sg → Option Y
  | .skip, _, _, kr, kx, kn, s => kn s
  | .ret, _, _, kr, kx, kn, s => (rt s).bind kr
  | .region id ops dr, _, n, kr, kx, kn, s => cutA V (.region id ops dr) n kr kx kn s fun Z n kr kx kn s => match dr with
    | false => runSeq V ops.toList (fun s => kn (endA s)) ops.toList s
    | true => drawS V ops.toList (fun s => kn (endA s)) s
  | .seq a b, Y, n, kr, kx, kn, s => match n with
    | .join sh n1 n2 => (mkCut (killI a sh) sh s).bind fun q => Option.bind (interp V rt a n1 (Y := denK (ksOf q.its)) (fun _ => none) (fun _ _ => none) (fun s' => (q.of s').bind fun d => some (ofN _ d)) s) fun d => interp V rt b n2 kr kx kn (q.at (toN _ d))
    | .joinX sh n1 n2 => (mkCut (killI a sh) sh s).bind fun q => bindJ (interp V rt a n1 (Y := Y ⊕ denK (ksOf q.its)) (fun r => (kr r).bind fun t => some (.inl t)) (fun i s' => (kx i s').bind fun t => some (.inl t)) (fun s' => (q.of s').bind fun d => some (.inr (ofN _ d))) s) fun d => interp V rt b n2 kr kx kn (q.at (toN _ d))
    | n => interp V rt a n.l kr kx (fun s' => interp V rt b n.r kr kx kn s') s
  | .cond c a b, _, n, kr, kx, kn, s => cutA V (.cond c a b) n kr kx kn s fun Z n kr kx kn s => (opd s c).bind fun v => onB v (interp V rt a n.l kr kx kn s) (interp V rt b n.r kr kx kn s)
  | .block i (.loop c), _, n, kr, kx, kn, s => cutA V (.block i (.loop c)) n kr kx kn s fun Z n kr kx kn s => match n with
    | .loop sh n => (mkCut (killI c sh) sh s).bind fun q => (q.of s).bind fun d0 =>
        bindL (loopM (fun d => interp V rt c n (Y := Out R (denK (ksOf q.its))) (fun r => some (.ret r)) (kxOf i (fun s' => (q.of s').bind fun d => some (.brk (ofN _ d))) fun _ _ => none) (fun s' => (q.of s').bind fun d => some (.nxt (ofN _ d))) (q.at (toN _ d))) FUEL (ofN _ d0)) kr (fun d => kn (q.at (toN _ d)))
    | _ => none
  | .block i c, _, n, kr, kx, kn, s => cutA V (.block i c) n kr kx kn s fun Z n kr kx kn s => interp V rt c n kr (kxOf i kn kx) kn s
  | .exit i, _, _, kr, kx, kn, s => kx i s
  | _, _, _, _, _, _, _ => none

section
variable {V : Env} {P : Program} {I : Hp} {w0 : World} {F : Ch} {R : Type} {rt : Sg → Option R}
def IOk (V : Env) (P : Program) (I : Hp) (w0 : World) (F : Ch) {R : Type} (rt : Sg → Option R) (c : Code) : Prop := ∀ {Y : Type} (n : Ann) {kr : R → Option Y} {kx : Nat → Sg → Option Y} {kn : Sg → Option Y} {s : Sg} {y : Y} {Q : Exit → Act → World → Prop} {J : Hp} {θ : Th} {a : Act} {w : World},
    interp V rt c n kr kx kn s = some y → Sim P I w0 F V.n J θ s a w →
    (∀ J' θ' s' a' w', kn s' = some y → Sim P I w0 F V.n J' θ' s' a' w' → J.le J' → Fr s θ s' θ' → Q .normal a' w') →
    (∀ i J' θ' s' a' w', kx i s' = some y → Sim P I w0 F V.n J' θ' s' a' w' → J.le J' → Fr s θ s' θ' → Q (.exit i) a' w') →
    (∀ r J' θ' s' a' w', rt s' = some r → kr r = some y → Sim P I w0 F V.n J' θ' s' a' w' → J.le J' → Fr s θ s' θ' → Q .ret a' w') → c.wp P Q a w
def ROk (V : Env) (P : Program) (I : Hp) (w0 : World) (F : Ch) {R : Type} (rt : Sg → Option R) (c : Code) (run : (Z : Type) → Ann → (R → Option Z) → (Nat → Sg → Option Z) → (Sg → Option Z) → Sg → Option Z) : Prop := ∀ {Y : Type} (n : Ann) {kr : R → Option Y} {kx : Nat → Sg → Option Y} {kn : Sg → Option Y} {s : Sg} {y : Y} {Q : Exit → Act → World → Prop} {J : Hp} {θ : Th} {a : Act} {w : World},
    run Y n kr kx kn s = some y → Sim P I w0 F V.n J θ s a w →
    (∀ J' θ' s' a' w', kn s' = some y → Sim P I w0 F V.n J' θ' s' a' w' → J.le J' → Fr s θ s' θ' → Q .normal a' w') →
    (∀ i J' θ' s' a' w', kx i s' = some y → Sim P I w0 F V.n J' θ' s' a' w' → J.le J' → Fr s θ s' θ' → Q (.exit i) a' w') →
    (∀ r J' θ' s' a' w', rt s' = some r → kr r = some y → Sim P I w0 F V.n J' θ' s' a' w' → J.le J' → Fr s θ s' θ' → Q .ret a' w') → c.wp P Q a w
theorem cutA_ok {c : Code} {run : (Z : Type) → Ann → (R → Option Z) → (Nat → Sg → Option Z) → (Sg → Option Z) → Sg → Option Z} (hr : ROk V P I w0 F rt c run) {Y : Type} (n : Ann) {kr : R → Option Y} {kx : Nat → Sg → Option Y} {kn : Sg → Option Y} {s : Sg} {y : Y} {Q : Exit → Act → World → Prop} {J : Hp} {θ : Th} {a : Act} {w : World}
    (h : cutA V c n kr kx kn s run = some y) (hS : Sim P I w0 F V.n J θ s a w)
    (HN : ∀ J' θ' s' a' w', kn s' = some y → Sim P I w0 F V.n J' θ' s' a' w' → J.le J' → Fr s θ s' θ' → Q .normal a' w')
    (HX : ∀ i J' θ' s' a' w', kx i s' = some y → Sim P I w0 F V.n J' θ' s' a' w' → J.le J' → Fr s θ s' θ' → Q (.exit i) a' w')
    (HR : ∀ r J' θ' s' a' w', rt s' = some r → kr r = some y → Sim P I w0 F V.n J' θ' s' a' w' → J.le J' → Fr s θ s' θ' → Q .ret a' w') : c.wp P Q a w := by
  have plain : ∀ n, run Y n kr kx kn s = some y → c.wp P Q a w := fun n h => hr n h hS HN HX HR
  cases n with
  | «at» sh n =>
    obtain ⟨q, hq, h⟩ := bind_some (show (mkCut (killI c sh) sh s).bind _ = some y from h)
    obtain ⟨d, h1, h2⟩ := bind_some h
    have hC := mkCut_ok hq hS.fine
    refine hr n h1 hS (fun J' θ' s' a' w' hk hS' hJ hFr => ?_) (fun i J' θ' s' a' w' hk hS' hJ hFr => by cases hk) (fun r J' θ' s' a' w' q1 q2 hS' hJ hFr => by cases q2)
    obtain ⟨d', hd, hk⟩ := bind_some hk
    obtain rfl := Option.some.inj hk
    obtain ⟨θ2, S2, F2⟩ := cut_ok hC hS' hFr hJ hd
    rw [toN_ofN] at h2
    exact HN J' θ2 _ a' w' h2 S2 hJ F2
  | atX sh n =>
    obtain ⟨q, hq, h⟩ := bind_some (show (mkCut (killI c sh) sh s).bind _ = some y from h)
    obtain ⟨o, h1, h2⟩ := bindJ_some h
    have hC := mkCut_ok hq hS.fine
    refine hr n h1 hS (fun J' θ' s' a' w' hk hS' hJ hFr => ?_) (fun i J' θ' s' a' w' hk hS' hJ hFr => ?_) (fun r J' θ' s' a' w' q1 q2 hS' hJ hFr => ?_)
    · obtain ⟨d', hd, hk⟩ := bind_some hk
      obtain rfl := Option.some.inj hk
      obtain ⟨θ2, S2, F2⟩ := cut_ok hC hS' hFr hJ hd
      rcases h2 with ⟨d, e, h2⟩ | h2
      · obtain rfl := Sum.inr.inj e
        rw [toN_ofN] at h2
        exact HN J' θ2 _ a' w' h2 S2 hJ F2
      · cases h2
    · obtain ⟨t, ht, hk⟩ := bind_some hk
      obtain rfl := Option.some.inj hk
      rcases h2 with ⟨d, e, h2⟩ | h2
      · cases e
      · obtain rfl := Sum.inl.inj h2
        exact HX i J' θ' s' a' w' ht hS' hJ hFr
    · obtain ⟨t, ht, hk⟩ := bind_some q2
      obtain rfl := Option.some.inj hk
      rcases h2 with ⟨d, e, h2⟩ | h2
      · cases e
      · obtain rfl := Sum.inl.inj h2
        exact HR r J' θ' s' a' w' q1 ht hS' hJ hFr
  | no => exact plain _ h
  | two _ _ => exact plain _ h
  | loop _ _ => exact plain _ h
  | join _ _ _ => exact plain _ h
  | joinX _ _ _ => exact plain _ h
theorem interp_both (hT : TTok P V.tt) (hF : FTok P V.ft) (hm : P.follows .mixedOrders = true) : ∀ c : Code, IOk V P I w0 F rt c ∧ ∀ c', c = .loop c' → IOk V P I w0 F rt c' := by
  intro c
  induction c with
  | skip =>
    refine ⟨?_, fun c' e => (by cases e)⟩
    intro Y n kr kx kn s y Q J θ a w h hS HN HX HR
    exact wp_skip (HN J θ s a w h hS Hp.le.rfl Fr.rfl)
  | ret =>
    refine ⟨?_, fun c' e => (by cases e)⟩
    intro Y n kr kx kn s y Q J θ a w h hS HN HX HR
    obtain ⟨r, h1, h2⟩ := bind_some (show (rt s).bind kr = some y from h)
    exact wp_ret (HR r J θ s a w h1 h2 hS Hp.le.rfl Fr.rfl)
  | exit i =>
    refine ⟨?_, fun c' e => (by cases e)⟩
    intro Y n kr kx kn s y Q J θ a w h hS HN HX HR
    exact wp_exit (HX i J θ s a w h hS Hp.le.rfl Fr.rfl)
  | region id ops dr =>
    refine ⟨?_, fun c' e => (by cases e)⟩
    intro Y n kr kx kn s y Q J θ a w h hS HN HX HR
    refine cutA_ok (fun {Y} n {kr kx kn s y Q J θ a w} h hS HN HX HR => ?_) n h hS HN HX HR
    cases dr with
    | true =>
      have h : drawS V ops.toList (fun s => kn (endA s)) s = some y := h
      have := drawS_ok (id := id) hT hF hm h hS fun s' J' θ' a' w' hk hS' hJ hFr => by
        obtain ⟨θ2, S2, F2⟩ := endA_ok hS'
        exact HN J' θ2 (endA s') a' w' hk S2 hJ (hFr.trans F2)
      rwa [Array.toArray_toList] at this
    | false =>
      have h : runSeq V ops.toList (fun s => kn (endA s)) ops.toList s = some y := h
      exact wp_region_lit (l := ops.toList) (runSeq_ok hT hF h hS fun s' J' θ' a' w' hk hS' hJ hFr => by
        obtain ⟨θ2, S2, F2⟩ := endA_ok hS'
        exact HN J' θ2 (endA s') a' w' hk S2 hJ (hFr.trans F2))
  | cond c x y ihx ihy =>
    refine ⟨?_, fun c' e => (by cases e)⟩
    intro Y n kr kx kn s r Q J θ a w h hS HN HX HR
    refine cutA_ok (fun {Y} n {kr kx kn s r Q J θ a w} h hS HN HX HR => ?_) n h hS HN HX HR
    obtain ⟨v, hv', h⟩ := bind_some (show (opd s c).bind _ = some r from h)
    obtain ⟨b, hb, h⟩ := onB_ok h
    have hk : knows (envL θ s) c = true := by
      cases c with
      | tmp t =>
        have := look_envL (θ := θ) (show look s.env t = some v from hv')
        show ((envL θ s).lookup t).isSome = true
        rw [show (envL θ s).lookup t = _ from this]; rfl
      | _ => rfl
    have hev : evL (envL θ s) c = .bool b := (opd_ev hv').trans (hb θ)
    cases b with
    | true => exact cnd_true hS.agr hk hev rfl (ihx.1 n.l h hS HN HX HR)
    | false => exact cnd_false hS.agr hk hev rfl (ihy.1 n.r h hS HN HX HR)
  | seq x z ihx ihz =>
    refine ⟨?_, fun c' e => (by cases e)⟩
    intro Y n kr kx kn s y Q J θ a w h hS HN HX HR
    have plain : interp V rt x n.l kr kx (fun s' => interp V rt z n.r kr kx kn s') s = some y → (Code.seq x z).wp P Q a w := fun h =>
      wp_seq (ihx.1 n.l h hS (fun J' θ' s' a' w' hk hS' hJ hFr => ihz.1 n.r hk hS' (fun J2 θ2 s2 a2 w2 k2 S2 L2 F2 => HN J2 θ2 s2 a2 w2 k2 S2 (hJ.trans L2) (hFr.trans F2)) (fun i J2 θ2 s2 a2 w2 k2 S2 L2 F2 => HX i J2 θ2 s2 a2 w2 k2 S2 (hJ.trans L2) (hFr.trans F2)) (fun r J2 θ2 s2 a2 w2 q1 q2 S2 L2 F2 => HR r J2 θ2 s2 a2 w2 q1 q2 S2 (hJ.trans L2) (hFr.trans F2)))
        (fun i J' θ' s' a' w' hk hS' hJ hFr => thenX (HX i J' θ' s' a' w' hk hS' hJ hFr)) (fun r J' θ' s' a' w' q1 q2 hS' hJ hFr => thenR (HR r J' θ' s' a' w' q1 q2 hS' hJ hFr)))
    cases n with
    | join sh n1 n2 =>
      obtain ⟨q, hq, h⟩ := bind_some (show (mkCut (killI x sh) sh s).bind _ = some y from h)
      obtain ⟨d, h1, h2⟩ := bind_some h
      have hC := mkCut_ok hq hS.fine
      refine wp_seq (ihx.1 n1 h1 hS (fun J' θ' s' a' w' hk hS' hJ hFr => ?_) (fun i J' θ' s' a' w' hk hS' hJ hFr => by cases hk) (fun r J' θ' s' a' w' q1 q2 hS' hJ hFr => by cases q2))
      obtain ⟨d', hd, hk⟩ := bind_some hk
      obtain rfl := Option.some.inj hk
      obtain ⟨θ2, S2, F2⟩ := cut_ok hC hS' hFr hJ hd
      rw [toN_ofN] at h2
      exact ihz.1 n2 h2 S2 (fun J3 θ3 s3 a3 w3 k3 S3 L3 F3 => HN J3 θ3 s3 a3 w3 k3 S3 (hJ.trans L3) (F2.trans F3)) (fun i J3 θ3 s3 a3 w3 k3 S3 L3 F3 => HX i J3 θ3 s3 a3 w3 k3 S3 (hJ.trans L3) (F2.trans F3)) (fun r J3 θ3 s3 a3 w3 q1 q2 S3 L3 F3 => HR r J3 θ3 s3 a3 w3 q1 q2 S3 (hJ.trans L3) (F2.trans F3))
    | joinX sh n1 n2 =>
      obtain ⟨q, hq, h⟩ := bind_some (show (mkCut (killI x sh) sh s).bind _ = some y from h)
      obtain ⟨o, h1, h2⟩ := bindJ_some h
      have hC := mkCut_ok hq hS.fine
      refine wp_seq (ihx.1 n1 h1 hS (fun J' θ' s' a' w' hk hS' hJ hFr => ?_) (fun i J' θ' s' a' w' hk hS' hJ hFr => ?_) (fun r J' θ' s' a' w' q1 q2 hS' hJ hFr => ?_))
      · obtain ⟨d', hd, hk⟩ := bind_some hk
        obtain rfl := Option.some.inj hk
        obtain ⟨θ2, S2, F2⟩ := cut_ok hC hS' hFr hJ hd
        rcases h2 with ⟨d, e, h2⟩ | h2
        · obtain rfl := Sum.inr.inj e
          rw [toN_ofN] at h2
          exact ihz.1 n2 h2 S2 (fun J3 θ3 s3 a3 w3 k3 S3 L3 F3 => HN J3 θ3 s3 a3 w3 k3 S3 (hJ.trans L3) (F2.trans F3)) (fun i J3 θ3 s3 a3 w3 k3 S3 L3 F3 => HX i J3 θ3 s3 a3 w3 k3 S3 (hJ.trans L3) (F2.trans F3)) (fun r J3 θ3 s3 a3 w3 q1 q2 S3 L3 F3 => HR r J3 θ3 s3 a3 w3 q1 q2 S3 (hJ.trans L3) (F2.trans F3))
        · cases h2
      · obtain ⟨t, ht, hk⟩ := bind_some hk
        obtain rfl := Option.some.inj hk
        rcases h2 with ⟨d, e, h2⟩ | h2
        · cases e
        · obtain rfl := Sum.inl.inj h2
          exact thenX (HX i J' θ' s' a' w' ht hS' hJ hFr)
      · obtain ⟨t, ht, hk⟩ := bind_some q2
        obtain rfl := Option.some.inj hk
        rcases h2 with ⟨d, e, h2⟩ | h2
        · cases e
        · obtain rfl := Sum.inl.inj h2
          exact thenR (HR r J' θ' s' a' w' q1 ht hS' hJ hFr)
    | no => exact plain h
    | two _ _ => exact plain h
    | loop _ _ => exact plain h
    | «at» _ _ => exact plain h
    | atX _ _ => exact plain h
  | block i x ih =>
    refine ⟨?_, fun c' e => (by cases e)⟩
    intro Y n kr kx kn s y Q J θ a w h hS HN HX HR
    have plain : ROk V P I w0 F rt (.block i x) (fun Z n kr kx kn s => interp V rt x n kr (kxOf i kn kx) kn s) := fun {Y} n {kr kx kn s y Q J θ a w} h hS HN HX HR =>
      wp_block (ih.1 n h hS (fun J' θ' s' a' w' hk hS' hJ hFr => nrmB (HN J' θ' s' a' w' hk hS' hJ hFr))
        (fun j J' θ' s' a' w' hk hS' hJ hFr => by
          unfold kxOf at hk
          split at hk
          · rename_i hj
            have : j = i := Nat.eq_of_beq_eq_true hj
            subst this
            exact ex_in (HN J' θ' s' a' w' hk hS' hJ hFr)
          · rename_i hj
            exact ex_out (fun e => hj (by rw [e]; exact Nat.beq_refl i)) (HX j J' θ' s' a' w' hk hS' hJ hFr))
        (fun r J' θ' s' a' w' q1 q2 hS' hJ hFr => blkR (HR r J' θ' s' a' w' q1 q2 hS' hJ hFr)))
    cases x with
    | loop x =>
      clear plain
      refine cutA_ok (fun {Y} n {kr kx kn s y Q J θ a w} h hS HN HX HR => ?_) n h hS HN HX HR
      cases n with
      | loop sh n =>
        obtain ⟨q, hq, h⟩ := bind_some (show (mkCut (killI x sh) sh s).bind _ = some y from h)
        obtain ⟨d0, hd0, h⟩ := bind_some h
        obtain ⟨o, ho, hc⟩ := bindL_some h
        have hC := mkCut_ok hq hS.fine
        have hx : IOk V P I w0 F rt x := ih.2 x rfl
        refine wp_block (wp_loopM (fun d a w => ∃ J' θ', J.le J' ∧ Sim P I w0 F V.n J' θ' (q.at (toN _ d)) a w ∧ Fr s θ (q.at (toN _ d)) θ') ho ?_ ?_)
        · obtain ⟨θ1, S1, F1⟩ := cut_ok hC hS Fr.rfl Hp.le.rfl hd0
          exact ⟨J, θ1, Hp.le.rfl, by rw [toN_ofN]; exact S1, by rw [toN_ofN]; exact F1⟩
        · rintro d o' hf hlast a w ⟨J1, θ1, L1, S1, F1⟩
          refine hx n hf S1 (fun J' θ' s' a' w' hk hS' hJ hFr => ?_) (fun j J' θ' s' a' w' hk hS' hJ hFr => ?_) (fun r J' θ' s' a' w' q1 q2 hS' hJ hFr => ?_)
          · obtain ⟨d', hd, hk⟩ := bind_some hk
            obtain rfl := Option.some.inj hk
            obtain ⟨θ2, S2, F2⟩ := cut_ok hC hS' (F1.trans hFr) (L1.trans hJ) hd
            exact nrm ⟨_, rfl, J', θ2, L1.trans hJ, by rw [toN_ofN]; exact S2, by rw [toN_ofN]; exact F2⟩
          · unfold kxOf at hk
            split at hk
            · rename_i hj
              have : j = i := Nat.eq_of_beq_eq_true hj
              subst this
              obtain ⟨d', hd, hk⟩ := bind_some hk
              obtain rfl := Option.some.inj hk
              have ho2 := hlast (by simp)
              obtain ⟨θ2, S2, F2⟩ := cut_ok hC hS' (F1.trans hFr) (L1.trans hJ) hd
              rcases hc with ⟨d2, e, hc⟩ | ⟨r, e, hc⟩
              · obtain rfl := Out.brk.inj (ho2.trans e)
                rw [toN_ofN] at hc
                exact thenX (ex_in (HN J' θ2 _ a' w' hc S2 (L1.trans hJ) F2))
              · cases ho2.trans e
            · cases hk
          · obtain rfl := Option.some.inj q2
            have ho2 := hlast (by simp)
            rcases hc with ⟨d2, e, hc⟩ | ⟨r', e, hc⟩
            · cases ho2.trans e
            · obtain rfl := Out.ret.inj (ho2.trans e)
              exact thenR (blkR (HR r J' θ' s' a' w' q1 hc hS' (L1.trans hJ) (F1.trans hFr)))
      | _ => cases h
    | _ => exact cutA_ok plain n h hS HN HX HR
  | loop x ih =>
    refine ⟨?_, fun c' e => ?_⟩
    · intro Y n kr kx kn s y Q J θ a w h hS HN HX HR
      cases h
    · cases e
      exact ih.1
  | _ =>
    refine ⟨?_, fun c' e => (by cases e)⟩
    intro Y n kr kx kn s y Q J θ a w h hS HN HX HR
    cases h
end
end Go.Proofs.YtfkjjnddefojjaaGreatDoor.R
/- A function's start and its results; what is known of it. No program text is named here. -/
set_option linter.unusedVariables false
set_option linter.unusedSimpArgs false
set_option linter.unnecessarySimpa false
set_option linter.unusedSectionVars false
namespace Go.Proofs.YtfkjjnddefojjaaGreatDoor.R
open Go.RowKit
open Go.Proofs.YtfkjjnddefojjaaGreatDoor.D

/-! ### The start -/
def startA (i : Nat) : (p : PM) → p.den → AV
  | .rd t, d => avRd i t d
  | .ow t, d => oneAv (partAv i [] t d)
  | .fn a b, d => .one (.fn ⟨i, []⟩ a b d)
  | .cap T t, d => .one (.fz ⟨i, []⟩ T t d 0)
  | .capf T a b, d => .one (.fzf ⟨i, []⟩ T a b d)
  | .ptr _ _, _ => .one (.ptr ⟨i, []⟩ 0)
  | .eat t, d => oneAv (partAv i [] t d)
  | .fk g, _ => .one (.val (.func (.func g) #[] #[]))
  | .crs _ _, _ => .one (.ptr ⟨i, []⟩ 0)
  | .kb _ _ _, _ => .one (.own ⟨i, []⟩)
  | .kc _, _ => .one (.own ⟨i, []⟩)
def startG (q i : Nat) : (p : PM) → p.den → List (Hdr × Chk)
  | .ow t, d => partChs i [] t d
  | .ptr T t, d => [(⟨i, []⟩, .box T t d)]
  | .eat t, d => partChs i [] t d
  | .crs T E, d => [(⟨i, []⟩, .blk T [.rd ⟨q, []⟩ (.sl E (.int .u8)) d.1, .val (.int .i64 d.2.1), .val (.int .i64 d.2.2)])]
  | .kb g T t, d => [(⟨i, []⟩, .clo g [] [.ptr ⟨q, []⟩ 0]), (⟨q, []⟩, .box T t d)]
  | .kc g, _ => [(⟨i, []⟩, .clo g [] [.ptr ⟨q, []⟩ 0])]
  | _, _ => []
def startE : (i : Nat) → (ps : List PM) → denP ps → List (Nat × Nat × AV)
  | _, [], _ => []
  | i, p :: ps, d => (i, i, startA i p d.1) :: startE (i + 1) ps d.2
def startC (q : Nat) : (i : Nat) → (ps : List PM) → denP ps → List Ent
  | _, [], _ => []
  | i, p :: ps, d => (startG q i p d.1).map (fun g => (g.1, i, g.2)) ++ startC q (i + 1) ps d.2
def startS (ps : List PM) (d : denP ps) : Sg := ⟨startE 0 ps d, startC ps.length 0 ps d, ps.length + 1⟩
def StF1 (P : Program) (w0 : World) (J : Hp) (θ : Th) (n i : Nat) : (p : PM) → Value → p.den → Prop
  | .ow t, v, d => (partAv i [] t d).2.map (·.v θ) = vcells t.isProd v ∧ ∀ x ∈ (partAv i [] t d).2, x.ok P w0 J θ n
  | .ptr _ _, v, _ => hv θ ⟨i, []⟩ = v ∧ i < n
  | .crs _ _, v, _ => hv θ ⟨i, []⟩ = v ∧ i < n
  | _, _, _ => True
def StF (P : Program) (w0 : World) (J : Hp) (θ : Th) (n : Nat) : (i : Nat) → (ps : List PM) → List Value → denP ps → Prop
  | i, p :: ps, v :: vs, d => StF1 P w0 J θ n i p v d.1 ∧ StF P w0 J θ n (i + 1) ps vs d.2
  | _, _, _, _ => True
section
variable {P : Program} {w0 w : World} {J : Hp} {θ : Th} {n : Nat} {C : List Ch}
theorem partChs_easy {id : Nat} {pre : List Nat} {t : Ty} {d : t.den} : ∀ g ∈ partChs id pre t d, Easy g.2 := chsOwn_easy t d 0
theorem startA_ok {p : PM} {i : Nat} {v : Value} {d : p.den} {ps : List PM} {vs : List Value} {e : denP ps} {γ : Value} {q : Nat} (hi : i < n) (hq : q < n) (hγ : θ q = γ) (hθ : θ i = v) (h : PArg P w0 J γ p v d) (hS : St J w0 w (owCh γ (p :: ps) (v :: vs) (d, e) ++ C)) :
    (∀ chs, (startA i p d).ok P w0 J θ n chs) ∧ (startA i p d).v θ = v ∧ St J w0 w ((startG q i p d).map (fun g => toCh P θ (g.1, i, g.2)) ++ (owCh γ ps vs e ++ C)) ∧ (∀ g ∈ startG q i p d, ∀ chs, okE P w0 J θ n chs (g.1, i, g.2)) ∧ StF1 P w0 J θ n i p v d := by
  cases p with
  | rd t =>
    obtain ⟨cs, h1, h2⟩ := h
    have hav := fun chs => avRd_fine (P := P) (w0 := w0) (J := J) (chs := chs) hi hθ t d cs h2 h1
    exact ⟨fun chs => (hav chs).1, (hav []).2, hS, fun g hg => (by cases hg), trivial⟩
  | fn a b =>
    have hh : hv θ ⟨i, []⟩ = v := hθ
    exact ⟨fun chs => ⟨hi, by rw [hh]; exact h⟩, hh, hS, fun g hg => (by cases hg), trivial⟩
  | cap T t =>
    obtain ⟨b, rfl, cells, h1, h2⟩ := h
    have hh : hv θ ⟨i, []⟩ = .pointer (some ⟨b, 0, none⟩) := hθ
    refine ⟨fun chs => ⟨hi, cells, by rw [hh]; exact h1, h2⟩, ?_, hS, fun g hg => (by cases hg), trivial⟩
    show Value.pointer (some ⟨bk (hv θ ⟨i, []⟩), 0, none⟩) = _
    rw [hh]; rfl
  | capf T x y =>
    obtain ⟨b, rfl, u, h1, h2⟩ := h
    have hh : hv θ ⟨i, []⟩ = .pointer (some ⟨b, 0, none⟩) := hθ
    refine ⟨fun chs => ⟨hi, u, by rw [hh]; exact h1, h2⟩, ?_, hS, fun g hg => (by cases hg), trivial⟩
    show Value.pointer (some ⟨bk (hv θ ⟨i, []⟩), 0, none⟩) = _
    rw [hh]; rfl
  | ptr T t =>
    obtain ⟨b, rfl⟩ := h
    have hh : hv θ ⟨i, []⟩ = .pointer (some ⟨b, 0, none⟩) := hθ
    refine ⟨fun chs => hi, ?_, ?_, fun g hg chs => by obtain rfl := List.mem_singleton.1 hg; exact easy_ok trivial hi hi, hh, hi⟩
    · show Value.pointer (some ⟨bk (hv θ ⟨i, []⟩), 0, none⟩) = _
      rw [hh]; rfl
    · show St J w0 w (Ch.box (bk (hv θ ⟨i, []⟩)) T t.rep d :: _)
      rw [hh]; exact hS
  | ow t =>
    have hS : St J w0 w (Ch.own t.rep (vcells t.isProd v) d :: (owCh γ ps vs e ++ C)) := hS
    obtain ⟨k1, k2, k3, k4, k5⟩ := part_fine (P := P) (m := i) (pre := []) (id := i) (n := n) hi (show hv θ ⟨i, []⟩ = v from hθ) h hS
    have q := fun chs => oneAv_ok (P := P) (w0 := w0) (J := J) (θ := θ) (n := n) (chs := chs) (partAv i [] t d) (fun e => cellsOwn_one e) k1
    exact ⟨fun chs => (q chs).1, (q []).2.trans k3, k5, fun g hg chs => easy_ok (partChs_easy g hg) (by rw [k4 g hg]; exact hi) hi, k2, k1⟩
  | eat t =>
    have hS : St J w0 w (Ch.own t.rep (vcells t.isProd v) d :: (owCh γ ps vs e ++ C)) := hS
    obtain ⟨k1, k2, k3, k4, k5⟩ := part_fine (P := P) (m := i) (pre := []) (id := i) (n := n) hi (show hv θ ⟨i, []⟩ = v from hθ) h hS
    have q := fun chs => oneAv_ok (P := P) (w0 := w0) (J := J) (θ := θ) (n := n) (chs := chs) (partAv i [] t d) (fun e => cellsOwn_one e) k1
    exact ⟨fun chs => (q chs).1, (q []).2.trans k3, k5, fun g hg chs => easy_ok (partChs_easy g hg) (by rw [k4 g hg]; exact hi) hi, trivial⟩
  | fk g =>
    obtain rfl := h
    exact ⟨fun chs => rfl, rfl, hS, fun g hg => (by cases hg), trivial⟩
  | crs T E =>
    obtain ⟨⟨b, rfl⟩, hrd⟩ := h
    have hh : hv θ ⟨i, []⟩ = .pointer (some ⟨b, 0, none⟩) := hθ
    have hg0 : hv θ ⟨q, []⟩ = γ := hγ
    refine ⟨fun chs => hi, ?_, ?_, fun g hg chs => ?_, hh, hi⟩
    · show Value.pointer (some ⟨bk (hv θ ⟨i, []⟩), 0, none⟩) = _
      rw [hh]; rfl
    · show St J w0 w (Ch.blk (bk (hv θ ⟨i, []⟩)) [hv θ ⟨q, []⟩, .int .i64 d.2.1, .int .i64 d.2.2] T :: _)
      rw [hh, hg0]; exact hS
    · obtain rfl := List.mem_singleton.1 hg
      refine ⟨hi, hi, fun z hz => ?_⟩
      rcases List.mem_cons.1 hz with rfl | hz
      · exact ⟨hq, by rw [hg0]; exact hrd⟩
      · rcases List.mem_cons.1 hz with rfl | hz
        · exact Eq.refl true
        · obtain rfl := List.mem_singleton.1 hz
          exact Eq.refl true
  | kb g T t =>
    obtain ⟨rfl, b, hb⟩ := h
    have hh : hv θ ⟨i, []⟩ = .func (.func g) #[] #[γ] := hθ
    have hg0 : hv θ ⟨q, []⟩ = γ := hγ
    have hp : Value.pointer (some ⟨bk (hv θ ⟨q, []⟩), 0, none⟩) = γ := by rw [hg0, hb]; rfl
    refine ⟨fun chs => ⟨hi, by rw [hh]; rfl⟩, hh, ?_, fun g' hg chs => ?_, trivial⟩
    · show St J w0 w (Ch.emp :: Ch.box (bk (hv θ ⟨q, []⟩)) T t.rep d :: _)
      rw [hg0]
      exact St.emp.2 hS
    · rcases List.mem_cons.1 hg with rfl | hg
      · refine ⟨hi, hi, fun y hy => (by cases hy), fun x hx => ?_, ?_⟩
        · obtain rfl := List.mem_singleton.1 hx
          exact hq
        · show hv θ ⟨i, []⟩ = .func (.func g) #[] #[Value.pointer (some ⟨bk (hv θ ⟨q, []⟩), 0, none⟩)]
          rw [hh, hp]
      · obtain rfl := List.mem_singleton.1 hg
        exact easy_ok trivial hq hi
  | kc g =>
    obtain ⟨rfl, b, hb⟩ := h
    have hh : hv θ ⟨i, []⟩ = .func (.func g) #[] #[γ] := hθ
    have hg0 : hv θ ⟨q, []⟩ = γ := hγ
    have hp : Value.pointer (some ⟨bk (hv θ ⟨q, []⟩), 0, none⟩) = γ := by rw [hg0, hb]; rfl
    refine ⟨fun chs => ⟨hi, by rw [hh]; rfl⟩, hh, ?_, fun g' hg chs => ?_, trivial⟩
    · show St J w0 w (Ch.emp :: _)
      exact St.emp.2 hS
    · obtain rfl := List.mem_singleton.1 hg
      refine ⟨hi, hi, fun y hy => (by cases hy), fun x hx => ?_, ?_⟩
      · obtain rfl := List.mem_singleton.1 hx
        exact hq
      · show hv θ ⟨i, []⟩ = .func (.func g) #[] #[Value.pointer (some ⟨bk (hv θ ⟨q, []⟩), 0, none⟩)]
        rw [hh, hp]
theorem start_ok {γ : Value} {q : Nat} (hq : q < n) (hγ : θ q = γ) : ∀ {ps : List PM} {i : Nat} {vs : List Value} {d : denP ps} {C : List Ch}, PArgs P w0 J γ ps vs d → (∀ j v, vs[j]? = some v → θ (i + j) = v) → i + ps.length ≤ n → St J w0 w (owCh γ ps vs d ++ C) →
    (∀ e ∈ startE i ps d, (∀ chs, e.2.2.ok P w0 J θ n chs) ∧ i ≤ e.1 ∧ e.2.1 = e.1 ∧ e.1 < i + ps.length ∧ vs[e.1 - i]? = some (e.2.2.v θ)) ∧ ((startE i ps d).Pairwise fun a b => a.2.1 ≠ b.2.1) ∧ St J w0 w ((startC q i ps d).map (toCh P θ) ++ C) ∧ (∀ e ∈ startC q i ps d, ∀ chs, okE P w0 J θ n chs e) ∧ StF P w0 J θ n i ps vs d
  | [], i, vs, d, C, h, _, _, hS => by
    have h : vs = [] := h
    subst h
    exact ⟨fun e he => (by cases he), List.Pairwise.nil, hS, fun e he => (by cases he), trivial⟩
  | p :: ps, i, vs, d, C, h, hθ, hn, hS => by
    obtain ⟨v, r, rfl, h1, h3⟩ := h
    rw [List.length_cons] at hn
    obtain ⟨a1, a2, a3, a4, a5⟩ := startA_ok (n := n) (i := i) (θ := θ) (e := d.2) (show i < n by omega) hq hγ (hθ 0 v rfl) h1 hS
    obtain ⟨k1, k2, k3, k4, k5⟩ := start_ok hq hγ (i := i + 1) h3 (fun j u hj => by
      have := hθ (j + 1) u hj
      rwa [show i + (j + 1) = i + 1 + j from by omega] at this) (by omega) (a3.perm (List.perm_append_comm_assoc _ _ _))
    refine ⟨fun e he => ?_, List.pairwise_cons.2 ⟨fun e he hh => ?_, k2⟩, ?_, fun e he chs => ?_, a5, k5⟩
    · rcases List.mem_cons.1 he with rfl | he
      · exact ⟨a1, Nat.le_refl _, rfl, by rw [List.length_cons]; show i < _; omega, by show (v :: r)[i - i]? = _; rw [Nat.sub_self, a2]; rfl⟩
      · obtain ⟨q1, q2, q3, q4, q5⟩ := k1 e he
        refine ⟨q1, by omega, q3, by rw [List.length_cons]; omega, ?_⟩
        rw [show e.1 - i = (e.1 - (i + 1)) + 1 from by omega]; exact q5
    · have := k1 e he
      have hh : i = e.2.1 := hh
      omega
    · show St J w0 w (((startG q i p d.1).map _ ++ startC q (i + 1) ps d.2).map (toCh P θ) ++ C)
      rw [List.map_append, List.map_map]
      refine k3.perm ?_
      rw [List.append_assoc]
      exact List.perm_append_comm_assoc _ _ _
    · rcases List.mem_append.1 he with he | he
      · obtain ⟨g, hg, rfl⟩ := List.mem_map.1 he
        exact a4 g hg chs
      · exact k4 e he chs
theorem pargs_len {γ : Value} : ∀ {ps : List PM} {vs : List Value} {d : denP ps}, PArgs P w0 J γ ps vs d → vs.length = ps.length
  | [], vs, d, h => by
    have h : vs = [] := h
    subst h; rfl
  | p :: ps, vs, d, h => by
    obtain ⟨v, r, rfl, h1, h3⟩ := h
    simpa using pargs_len h3
end

/-! ### Results -/
def retAv (tt : TT) (s : Sg) : ResultVar → Option AV
  | .tmp t => look s.env t
  | .cell p T => (ptr0 (look s.env p)).bind fun h => (td tt T).bind fun d => (blkOf h s.chs).bind fun b => chkT (Nat.beq b.cells.length d.n) (avOf d.agg b.cells)
theorem ptr0_ok {v : Option AV} {h : Hdr} (k : ptr0 v = some h) : v = some (.one (.ptr h 0)) := by
  unfold ptr0 at k
  split at k
  · rename_i h' off
    split at k
    · rename_i ho
      rw [Nat.eq_of_beq_eq_true ho, Option.some.inj k]
    · cases k
  · cases k
section
variable {P : Program} {I : Hp} {w0 w : World} {F : Ch} {J : Hp} {θ : Th} {n : Nat} {s : Sg} {a : Act} {tt : TT}
theorem res_one (ha : Agr n a (envL θ s)) {t g : Nat} {T E : TypeId} {v : Value} {cs : List Ch} (h : (envL θ s).lookup t = some (.pointer (some ⟨g, 0, none⟩))) (hs : St J w0 w cs) (i : Nat) (hi : cs[i]? = some (Ch.blk g [v] E)) (hT : TI P T false 1) : resOf P a w (.cell t T) v := by
  refine ⟨_, ha.2.2 t _ h, ?_⟩
  have hg := hs.heap i hi
  have hc : w.cell? ⟨g, 0, none⟩ = some v := by simp [World.cell?, hg]
  simp [loadVar, Sem.run_bind, hT.run_agg, load, Sem.run, hc, Result.andThen]
theorem retAv_ok (hT : TTok P tt) (hS : Sim P I w0 F n J θ s a w) {r : ResultVar} {v : AV} (h : retAv tt s r = some v) : resOf P a w r (v.v θ) ∧ v.ok P w0 J θ s.nxt s.chs := by
  cases r with
  | tmp t => exact ⟨res_tmp hS.agr (look_envL h), opd_ok (x := .tmp t) hS.fine h⟩
  | cell p T =>
    obtain ⟨hh, h1, h⟩ := bind_some (show (ptr0 (look s.env p)).bind _ = some v from h)
    obtain ⟨d, hd, h⟩ := bind_some h
    obtain ⟨b, hb, h⟩ := bind_some h
    obtain ⟨hl, h⟩ := chkT_ok h
    have hl := Nat.eq_of_beq_eq_true hl
    have hp := blkOf_ok hb
    have hok := hS.fine.chs _ (hp.mem_iff.2 (List.mem_cons_self ..))
    obtain ⟨k1, k2⟩ := avOf_ok (chs := s.chs) h hok.2.2
    refine ⟨?_, k1⟩
    have hlk : (envL θ s).lookup p = some (.pointer (some ⟨bk (hv θ hh), 0, none⟩)) := look_envL (ptr0_ok h1)
    have hst := hS.st.perm ((hp.map (toCh P θ)).append_right [F])
    have hti := (hT.get hd).ti
    cases hagg : d.agg with
    | true =>
      rw [hagg] at k2 hti
      rw [← k2]
      exact res_cell hS.agr hlk hst 0 rfl hti (by rw [List.length_map]; exact hl)
    | false =>
      rw [hagg] at k2 hti h
      have h1' : d.n = 1 := by
        have := (hT.get hd).one
        rw [hagg] at this
        simpa using this
      obtain ⟨x, hx⟩ := List.length_eq_one_iff.1 (hl.trans h1')
      rw [h1'] at hti
      rw [hx] at k2
      rw [← k2]
      have hst2 : St J w0 w (Ch.blk (bk (hv θ hh)) [x.v θ] b.T :: (b.rest.map (toCh P θ) ++ [F])) := by
        have : (toCh P θ (b.ent hh)) = Ch.blk (bk (hv θ hh)) (b.cells.map (·.v θ)) b.T := rfl
        rw [hx] at this
        rw [← show toCh P θ (b.ent hh) = Ch.blk (bk (hv θ hh)) [x.v θ] b.T from this]
        exact hst
      exact res_one hS.agr hlk hst2 0 rfl hti
end

def takeRes : (ts : List Ty) → List AV → List Ent → Option (denH ts × List Ent × List Ent)
  | [], [], chs => some ((), [], chs)
  | t :: ts, v :: vs, chs => chkT (isAggA v == t.isProd) ((avCells v).bind fun cs => (takeData t cs chs).bind fun q => chkT q.cells.isEmpty ((takeRes ts vs q.rest).bind fun r => some ((q.d, r.1), q.used ++ r.2.1, r.2.2)))
  | _, _, _ => none
def resList : (ts : List Ty) → List Value → denH ts → List Ch
  | t :: ts, v :: vs, d => Ch.own t.rep (vcells t.isProd v) d.1 :: resList ts vs d.2
  | _, _, _ => []
theorem takeRes_ok {P : Program} {w0 : World} {J : Hp} {θ : Th} {n : Nat} {chs0 : List Ent} : ∀ {ts : List Ty} {vs : List AV} {chs : List Ent} {r : denH ts × List Ent × List Ent}, takeRes ts vs chs = some r → (∀ v ∈ vs, v.ok P w0 J θ n chs0) →
    chs.Perm (r.2.1 ++ r.2.2) ∧ vs.length = ts.length ∧ SepTo J (r.2.1.map (toCh P θ)) (resList ts (vs.map (·.v θ)) r.1) ∧ ∀ (i : Nat) t v, ts[i]? = some t → vs[i]? = some v → isAggV (v.v θ) = t.isProd
  | [], [], chs, r, h, _ => by
    obtain rfl := Option.some.inj (show some _ = some r from h)
    exact ⟨List.Perm.refl _, rfl, sepTo_nil, fun i t v ht => by simp at ht⟩
  | t :: ts, v :: vs, chs, r, h, hv' => by
    obtain ⟨ha, h⟩ := chkT_ok (show chkT (isAggA v == t.isProd) _ = some r from h)
    have ha : isAggA v = t.isProd := by simpa using ha
    obtain ⟨cs, hcs, h⟩ := bind_some h
    obtain ⟨q, hq, h⟩ := bind_some h
    obtain ⟨he, h⟩ := chkT_ok h
    obtain ⟨r', hr, h⟩ := bind_some h
    obtain rfl := Option.some.inj h
    obtain ⟨c1, c2⟩ := avCells_ok hcs (hv' v (by simp))
    obtain ⟨p, cc, e1, e2⟩ := takeData_ok (J := J) (θ := θ) hq c1
    rw [List.isEmpty_iff.1 he, List.append_nil] at e1
    subst e1
    obtain ⟨k1, k2, k3, k4⟩ := takeRes_ok hr fun x hx => hv' x (by simp [hx])
    have hcell : vcells t.isProd (v.v θ) = cs.map (·.v θ) ∧ isAggV (v.v θ) = t.isProd := by
      rw [← ha]
      cases v with
      | agg xs =>
        obtain rfl := Option.some.inj (show some xs = some cs from hcs)
        exact ⟨rfl, rfl⟩
      | one x =>
        obtain rfl := Option.some.inj (show some [x] = some cs from hcs)
        refine ⟨rfl, ?_⟩
        have h1 : (x.v θ).oneCell' = true := LV.one (show LV.ok P w0 J θ n x from hv' (.one x) (by simp))
        show isAggV (x.v θ) = false
        generalize x.v θ = u at h1
        cases u <;> first | rfl | cases h1
      | _ => cases hcs
    refine ⟨by rw [List.append_assoc]; exact p.trans (k1.append_left _), by rw [List.length_cons, List.length_cons, k2], ?_, fun i t' v' ht hv0 => ?_⟩
    · show SepTo J ((q.used ++ r'.2.1).map _) (Ch.own t.rep (vcells t.isProd (v.v θ)) q.d :: resList ts (vs.map _) r'.1)
      rw [List.map_append, hcell.1]
      exact sepTo_bun e2 k3
    · cases i with
      | zero =>
        obtain rfl : t = t' := by simpa using ht
        obtain rfl : v = v' := by simpa using hv0
        exact hcell.2
      | succ i => exact k4 i t' v' (by simpa using ht) (by simpa using hv0)
  | [], _ :: _, chs, r, h, _ => by cases h
  | _ :: _, [], chs, r, h, _ => by cases h

/-! ### The way out -/
def retV : List Value → Value
  | [v] => v
  | vs => .tuple vs.toArray
def AllRes (P : Program) (a : Act) (w : World) : List ResultVar → List Value → Prop
  | [], vs => vs = []
  | r :: rs, vs => ∃ v us, vs = v :: us ∧ resOf P a w r v ∧ AllRes P a w rs us
theorem run_mapM_res {P : Program} {a : Act} {w : World} {f : ResultVar → Sem Value} (hf : ∀ r v, resOf P a w r v → (f r).run P w = .ok v w) : ∀ {l : List ResultVar} {vs : List Value}, AllRes P a w l vs → (l.mapM f).run P w = .ok vs w
  | [], vs, h => by
    have h : vs = [] := h
    subst h
    rw [List.mapM_nil]; rfl
  | r :: l, vs, h => by
    obtain ⟨v, us, rfl, h1, h2⟩ := h
    rw [List.mapM_cons, Sem.run_bind, hf r v h1]
    simp only [Result.andThen_ok, Sem.run_bind, run_mapM_res hf h2]
    rfl
def resF (a : Act) (r : ResultVar) : Sem Value := match r with
  | .tmp t => pure (a.tmps.getD t undef)
  | .cell p t => do loadVar t (← asAddr (a.tmps.getD p undef))
theorem resF_ok {P : Program} {a : Act} {w : World} {r : ResultVar} {v : Value} (h : resOf P a w r v) : (resF a r).run P w = .ok v w := by
  cases r with
  | tmp t =>
    have h : a.tmps.getD t undef = v := h
    show (pure (a.tmps.getD t undef) : Sem Value).run P w = _
    rw [h]; rfl
  | cell p T =>
    obtain ⟨A, h1, h2⟩ := h
    show ((asAddr (a.tmps.getD p undef)) >>= fun x => loadVar T x).run P w = _
    rw [h1, Sem.run_bind]
    show Result.andThen (.ok A w) _ = _
    rw [Result.andThen_ok]; exact h2
theorem ret_n {P : Program} {n : Nat} {a : Act} {w : World} {L : List (Nat × Value)} {fn : Func} {R : Ending → World → Prop} {vs : List Value} (ha : Agr n a L) (h : AllRes P a w fn.results.toList vs) (hR : R (.returned (retV vs)) w) : bodyPost P fn R .ret a w := by
  refine ⟨ha.1, retV vs, ?_, hR⟩
  have hr : ((fn.results.mapM (resF a)) : Sem (Array Value)).run P w = .ok vs.toArray w := by
    rw [Array.mapM_eq_mapM_toList]
    have := run_mapM_res (f := resF a) (fun r v => resF_ok) h
    simp [this, Sem.run_map]
  show ((fn.results.mapM (resF a)) >>= fun vs => pure (if h : vs.size = 1 then vs[0] else .tuple vs) : Sem Value).run P w = _
  rw [Sem.run_bind, hr, Result.andThen_ok]
  match vs with
  | [] => rfl
  | [v] => rfl
  | _ :: _ :: _ => rfl

/-! ### What was handed over, given back -/
def takeOuts (g0 : Nat) : (i : Nat) → (ps : List PM) → denP ps → List Ent → Option (denH (outs ps) × List Ent × List Ent)
  | _, [], _, chs => some ((), [], chs)
  | i, .ow t :: ps, d, chs => (takeData t (partAv i [] t d.1).2 chs).bind fun q => chkT q.cells.isEmpty ((takeOuts g0 (i + 1) ps d.2 q.rest).bind fun r => some ((q.d, r.1), q.used ++ r.2.1, r.2.2))
  | i, .ptr T t :: ps, d, chs => (pullBox ⟨i, []⟩ T t chs).bind fun q => (takeOuts g0 (i + 1) ps d.2 q.2.2).bind fun r => some ((q.1, r.1), q.2.1 ++ r.2.1, r.2.2)
  | i, .rd _ :: ps, d, chs => takeOuts g0 (i + 1) ps d.2 chs
  | i, .fn _ _ :: ps, d, chs => takeOuts g0 (i + 1) ps d.2 chs
  | i, .eat _ :: ps, d, chs => takeOuts g0 (i + 1) ps d.2 chs
  | i, .cap _ _ :: ps, d, chs => takeOuts g0 (i + 1) ps d.2 chs
  | i, .capf _ _ _ :: ps, d, chs => takeOuts g0 (i + 1) ps d.2 chs
  | i, .fk _ :: ps, d, chs => takeOuts g0 (i + 1) ps d.2 chs
  | i, .kc _ :: ps, d, chs => takeOuts g0 (i + 1) ps d.2 chs
  | i, .kb _ T t :: ps, d, chs => (pullBox ⟨g0, []⟩ T t chs).bind fun q => (takeOuts g0 (i + 1) ps d.2 q.2.2).bind fun r => some ((q.1, r.1), q.2.1 ++ r.2.1, r.2.2)
  | i, .crs T E :: ps, d, chs => (pullCur ⟨i, []⟩ T E chs).bind fun q => chkT (Hdr.beq q.g ⟨g0, []⟩) ((takeOuts g0 (i + 1) ps d.2 q.rest).bind fun r => some ((q.d.2, r.1), q.ent :: r.2.1, r.2.2))
theorem takeOuts_ok {P : Program} {w0 : World} {J J' : Hp} {θ θ' : Th} {n n' : Nat} {chs0 : List Ent} (hJ : J.le J') (hs : Same n θ θ') {γ : Value} {g0 : Nat} (hg0 : g0 < n) (hγ : θ g0 = γ) : ∀ {ps : List PM} {i : Nat} {d : denP ps} {chs : List Ent} {vs : List Value} {r : denH (outs ps) × List Ent × List Ent}, takeOuts g0 i ps d chs = some r → vs.length = ps.length → StF P w0 J θ n i ps vs d → (∀ e ∈ chs, okE P w0 J' θ' n' chs0 e) →
    chs.Perm (r.2.1 ++ r.2.2) ∧ SepTo J' (r.2.1.map (toCh P θ')) (outCh γ ps vs r.1)
  | [], i, d, chs, vs, r, h, _, _, _ => by
    obtain rfl := Option.some.inj (show some _ = some r from h)
    exact ⟨List.Perm.refl _, sepTo_nil⟩
  | p :: ps, i, d, chs, [], r, h, hl, _, _ => by cases hl
  | .ow t :: ps, i, d, chs, v :: vs, r, h, hl, hF, hc => by
    obtain ⟨q, hq, h⟩ := bind_some (show (takeData t (partAv i [] t d.1).2 chs).bind _ = some r from h)
    obtain ⟨he, h⟩ := chkT_ok h
    obtain ⟨r', hr, h⟩ := bind_some h
    obtain rfl := Option.some.inj h
    obtain ⟨⟨k1, k2⟩, k3⟩ := hF
    obtain ⟨p, cc, e1, e2⟩ := takeData_ok (P := P) (w0 := w0) (J := J') (θ := θ') (n := n) hq fun x hx => LV.ok_same hs (Nat.le_refl _) (k2 x hx) hJ
    rw [List.isEmpty_iff.1 he, List.append_nil] at e1
    subst e1
    rw [map_v_same hs k2, k1] at e2
    obtain ⟨q1, q2⟩ := takeOuts_ok hJ hs hg0 hγ hr (by simpa using hl) k3 fun e he => hc e (p.mem_iff.2 (by simp [he]))
    refine ⟨by rw [List.append_assoc]; exact p.trans (q1.append_left _), ?_⟩
    show SepTo J' ((q.used ++ r'.2.1).map _) (Ch.own t.rep (vcells t.isProd v) q.d :: outCh γ ps vs r'.1)
    rw [List.map_append]
    exact sepTo_bun e2 q2
  | .ptr T t :: ps, i, d, chs, v :: vs, r, h, hl, hF, hc => by
    obtain ⟨q, hq, h⟩ := bind_some (show (pullBox ⟨i, []⟩ T t chs).bind _ = some r from h)
    obtain ⟨r', hr, h⟩ := bind_some h
    obtain rfl := Option.some.inj h
    obtain ⟨⟨k1, k2⟩, k3⟩ := hF
    obtain ⟨p, hb⟩ := pullBox_ok (P := P) (w0 := w0) (J := J') (J' := J') (θ := θ') hq Hp.le.rfl hc
    obtain ⟨q1, q2⟩ := takeOuts_ok hJ hs hg0 hγ hr (by simpa using hl) k3 fun e he => hc e (p.mem_iff.2 (by simp [he]))
    refine ⟨by rw [List.append_assoc]; exact p.trans (q1.append_left _), ?_⟩
    show SepTo J' ((q.2.1 ++ r'.2.1).map _) (Ch.box (bk v) T t.rep q.1 :: outCh γ ps vs r'.1)
    rw [List.map_append]
    have hh : hv θ' ⟨i, []⟩ = v := (hv_same hs (show (⟨i, []⟩ : Hdr).id < n from k2)).trans k1
    rw [hh] at hb
    intro w F hsp
    obtain ⟨G, K, rfl, h1, h2⟩ := hsp.split
    exact ⟨G, K, rfl, hb w G h1, q2 w K h2⟩
  | .rd t :: ps, i, d, chs, v :: vs, r, h, hl, hF, hc => takeOuts_ok (ps := ps) hJ hs hg0 hγ (show takeOuts g0 (i + 1) ps d.2 chs = some r from h) (by simpa using hl) hF.2 hc
  | .fn _ _ :: ps, i, d, chs, v :: vs, r, h, hl, hF, hc => takeOuts_ok (ps := ps) hJ hs hg0 hγ (show takeOuts g0 (i + 1) ps d.2 chs = some r from h) (by simpa using hl) hF.2 hc
  | .eat _ :: ps, i, d, chs, v :: vs, r, h, hl, hF, hc => takeOuts_ok (ps := ps) hJ hs hg0 hγ (show takeOuts g0 (i + 1) ps d.2 chs = some r from h) (by simpa using hl) hF.2 hc
  | .cap _ _ :: ps, i, d, chs, v :: vs, r, h, hl, hF, hc => takeOuts_ok (ps := ps) hJ hs hg0 hγ (show takeOuts g0 (i + 1) ps d.2 chs = some r from h) (by simpa using hl) hF.2 hc
  | .capf _ _ _ :: ps, i, d, chs, v :: vs, r, h, hl, hF, hc => takeOuts_ok (ps := ps) hJ hs hg0 hγ (show takeOuts g0 (i + 1) ps d.2 chs = some r from h) (by simpa using hl) hF.2 hc
  | .kc _ :: ps, i, d, chs, v :: vs, r, h, hl, hF, hc => takeOuts_ok (ps := ps) hJ hs hg0 hγ (show takeOuts g0 (i + 1) ps d.2 chs = some r from h) (by simpa using hl) hF.2 hc
  | .kb _ T t :: ps, i, d, chs, v :: vs, r, h, hl, hF, hc => by
    obtain ⟨q, hq, h⟩ := bind_some (show (pullBox ⟨g0, []⟩ T t chs).bind _ = some r from h)
    obtain ⟨r', hr, h⟩ := bind_some h
    obtain rfl := Option.some.inj h
    obtain ⟨-, k3⟩ := hF
    obtain ⟨p, hb⟩ := pullBox_ok (P := P) (w0 := w0) (J := J') (J' := J') (θ := θ') hq Hp.le.rfl hc
    obtain ⟨q1, q2⟩ := takeOuts_ok hJ hs hg0 hγ hr (by simpa using hl) k3 fun e he => hc e (p.mem_iff.2 (by simp [he]))
    refine ⟨by rw [List.append_assoc]; exact p.trans (q1.append_left _), ?_⟩
    show SepTo J' ((q.2.1 ++ r'.2.1).map _) (Ch.box (bk γ) T t.rep q.1 :: outCh γ ps vs r'.1)
    rw [List.map_append]
    have hh : hv θ' ⟨g0, []⟩ = γ := by
      show vg (θ' g0) [] = γ
      rw [hs g0 hg0, hγ]; rfl
    rw [hh] at hb
    intro w F hsp
    obtain ⟨G, K, rfl, h1, h2⟩ := hsp.split
    exact ⟨G, K, rfl, hb w G h1, q2 w K h2⟩
  | .fk _ :: ps, i, d, chs, v :: vs, r, h, hl, hF, hc => takeOuts_ok (ps := ps) hJ hs hg0 hγ (show takeOuts g0 (i + 1) ps d.2 chs = some r from h) (by simpa using hl) hF.2 hc
  | .crs T E :: ps, i, d, chs, v :: vs, r, h, hl, hF, hc => by
    obtain ⟨q, hq, h⟩ := bind_some (show (pullCur ⟨i, []⟩ T E chs).bind _ = some r from h)
    obtain ⟨hb, h⟩ := chkT_ok h
    obtain ⟨r', hr, h⟩ := bind_some h
    obtain rfl := Option.some.inj h
    obtain ⟨⟨k1, k2⟩, k3⟩ := hF
    obtain ⟨p, ver, he⟩ := pullCur_ok hq
    obtain ⟨q1, q2⟩ := takeOuts_ok hJ hs hg0 hγ hr (by simpa using hl) k3 fun e he => hc e (p.mem_iff.2 (by simp [he]))
    refine ⟨p.trans (q1.cons _), ?_⟩
    have hh : hv θ' ⟨i, []⟩ = v := (hv_same hs (show (⟨i, []⟩ : Hdr).id < n from k2)).trans k1
    have hg : hv θ' q.g = γ := by
      rw [Hdr.beq_eq hb]
      show vg (θ' g0) [] = γ
      rw [hs g0 hg0, hγ]; rfl
    show SepTo J' (toCh P θ' q.ent :: r'.2.1.map _) (Ch.blk (bk v) [γ, .int .i64 q.d.2.1, .int .i64 q.d.2.2] T :: outCh γ ps vs r'.1)
    rw [he]
    intro w F hsp
    obtain ⟨G, K, rfl, h1, h2⟩ := hsp
    have h1 : (Ch.blk (bk (hv θ' ⟨i, []⟩)) [hv θ' q.g, .int .i64 q.d.2.1, .int .i64 q.d.2.2] T).holds J' w G := h1
    rw [hh, hg] at h1
    exact ⟨G, K, rfl, h1, q2 w K h2⟩
def ofH : (ts : List Ty) → denH ts → dens ts
  | [], _ => ()
  | [_], d => d.1
  | _ :: u :: ts, d => (d.1, ofH (u :: ts) d.2)
theorem toH_ofH : ∀ (ts : List Ty) (d : denH ts), toH ts (ofH ts d) = d
  | [], _ => rfl
  | [_], _ => rfl
  | _ :: u :: ts, d => congrArg (Prod.mk d.1) (toH_ofH (u :: ts) d.2)
def happ : (ts us : List Ty) → denH ts → denH us → denH (ts ++ us)
  | [], _, _, e => e
  | _ :: ts, us, d, e => (d.1, happ ts us d.2 e)
theorem hFst_app : ∀ (ts us : List Ty) (d : denH ts) (e : denH us), hFst ts us (happ ts us d e) = d
  | [], _, _, _ => rfl
  | _ :: ts, us, d, e => congrArg (Prod.mk d.1) (hFst_app ts us d.2 e)
theorem hSnd_app : ∀ (ts us : List Ty) (d : denH ts) (e : denH us), hSnd ts us (happ ts us d e) = e
  | [], _, _, _ => rfl
  | _ :: ts, us, d, e => hSnd_app ts us d.2 e
def retAvs (tt : TT) (s : Sg) : List ResultVar → Option (List AV)
  | [] => some []
  | r :: rs => (retAv tt s r).bind fun v => (retAvs tt s rs).bind fun vs => some (v :: vs)
def retHdrs (s : Sg) : List AV → List Hdr
  | [] => []
  | v :: vs => avHdrs v ++ retHdrs s vs
def holeHdrs : List Ent → List Hdr
  | [] => []
  | e :: l => match e.2.2 with
    | .hole _ _ _ _ _ _ _ _ _ _ => e.1 :: holeHdrs l
    | _ => holeHdrs l
def frzAs : List AV → List (Bool × Hdr)
  | [] => []
  | v :: vs => frzA true v ++ frzAs vs
def prepRF (tr : Trs) (vs : List AV) (s : Sg) : Sg := match tr with
  | [] => s
  | _ => frzL (noRows tr) (frzAs vs) s
def prepR (tr : Trs) (vs : List AV) (s0 : Sg) : Sg := match prepRF tr vs s0 with
  | s => prepL (retHdrs s0 vs ++ holeHdrs s.chs) s
def nlN : List AV → (ts : List Ty) → denH ts → Int
  | [.one (.own _)], [.sl _ t], d => ((List.length (α := t.den) d.1 : Nat) : Int)
  | [.one (.val v)], [.sl _ _], _ => match isNil v with
    | true => 1
    | false => 0
  | _, _, _ => 0
def nlChk (an : List (Nat × Ty)) (vs : List AV) (ts : List Ty) (d : denH ts) : Option Unit := match hasAnL 1000000 an with
  | true => chk (0 < nlN vs ts d)
  | false => some ()
theorem nlN_ok {vs : List AV} {ts : List Ty} {d : denH ts} {θ : Th} (h : 0 < nlN vs ts d) {v : Value} (hv : vs.map (·.v θ) = [v]) : NilIff ts d v := by
  unfold nlN at h
  split at h
  · intro h0
    omega
  · split at h
    · rename_i h1
      intro _
      have := isNil_ok h1
      subst this
      simpa [AV.v, LV.v] using hv.symm
    · omega
  · omega
def rtOf (V : Env) (rvs : List ResultVar) (rs : List Ty) (ps : List PM) (d : denP ps) (s00 : Sg) : Option (dens (rs ++ outs ps)) := (retAvs V.tt s00 rvs).bind fun vs00 => viewL vs00 s00 fun s0 => (retAvs V.tt s0 rvs).bind fun vs0 => match prepR V.tr vs0 s0 with
  | s => (retAvs V.tt s rvs).bind fun vs => (takeRes rs vs s.chs).bind fun r => (takeOuts ps.length 0 ps d r.2.2).bind fun o => (nlChk V.an vs rs r.1).bind fun _ => some (ofH _ (happ rs (outs ps) r.1 o.1))
end Go.Proofs.YtfkjjnddefojjaaGreatDoor.R
/- What a function's model says of the function. No program text is named here. -/
set_option linter.unusedVariables false
set_option linter.unusedSimpArgs false
set_option linter.unnecessarySimpa false
set_option linter.unusedSectionVars false
namespace Go.Proofs.YtfkjjnddefojjaaGreatDoor.R
open Go.RowKit
open Go.Proofs.YtfkjjnddefojjaaGreatDoor.D

theorem resGo_list {vs : List Value} : ∀ {ts : List Ty} {i : Nat} {us : List Value} {d : denH ts}, us.length = ts.length → (∀ j v, us[j]? = some v → vs[i + j]? = some v) → resGo i ts d (.tuple vs.toArray) = resList ts us d
  | [], i, us, d, h, _ => by
    cases us with
    | nil => rfl
    | cons _ _ => cases h
  | t :: ts, i, [], d, h, _ => by cases h
  | t :: ts, i, u :: us, d, h, k => by
    have h0 : vg (.tuple vs.toArray) [i] = u := by
      show vs.toArray.getD i undef = u
      have := k 0 u rfl
      rw [Nat.add_zero] at this
      simp [Array.getD_eq_getD_getElem?, this]
    show Ch.own t.rep (vcells t.isProd (vg (.tuple vs.toArray) [i])) d.1 :: resGo (i + 1) ts d.2 _ = Ch.own t.rep (vcells t.isProd u) d.1 :: resList ts us d.2
    rw [h0, resGo_list (us := us) (by simpa using h) fun j v hj => by
      have := k (j + 1) v (by simpa using hj)
      rwa [show i + (j + 1) = i + 1 + j from by omega] at this]
theorem resGv_list {ts : List Ty} {vs : List Value} {d : denH ts} (h : vs.length = ts.length) : resGv ts d (retV vs) = resList ts vs d := by
  match ts, vs, d, h with
  | [], [], d, _ => rfl
  | [t], [v], d, _ => rfl
  | t :: u :: ts, v :: w :: vs, d, h =>
    show resGo 0 _ d (.tuple (v :: w :: vs).toArray) = _
    exact resGo_list h fun j x hj => by rw [Nat.zero_add]; exact hj
theorem resFa_ok {ts : List Ty} {vs : List Value} (h : vs.length = ts.length) (k : ∀ (i : Nat) t v, ts[i]? = some t → vs[i]? = some v → isAggV v = t.isProd) : resFa ts (retV vs) := by
  match ts, vs, h with
  | [], [], _ => exact ⟨#[], rfl, rfl, fun i t ht => by simp at ht⟩
  | [t], [v], _ => exact k 0 t v rfl rfl
  | t :: u :: ts, v :: w :: vs, h =>
    refine ⟨(v :: w :: vs).toArray, rfl, by simpa using h, fun i t' ht => ?_⟩
    have hlt : i < (v :: w :: vs).length := by rw [h]; exact (List.getElem?_eq_some_iff.1 ht).1
    have := k i t' ((v :: w :: vs)[i]) ht (List.getElem?_eq_getElem hlt)
    rw [← this, Array.getD_eq_getD_getElem?, List.getElem?_toArray, List.getElem?_eq_getElem hlt]; rfl

theorem retAvs_ok {P : Program} {I : Hp} {w0 w : World} {F : Ch} {J : Hp} {θ : Th} {n : Nat} {s : Sg} {a : Act} {tt : TT} (hT : TTok P tt) (hS : Sim P I w0 F n J θ s a w) : ∀ {rs : List ResultVar} {vs : List AV}, retAvs tt s rs = some vs → AllRes P a w rs (vs.map (·.v θ)) ∧ ∀ v ∈ vs, v.ok P w0 J θ s.nxt s.chs
  | [], vs, h => by
    obtain rfl := Option.some.inj (show some [] = some vs from h)
    exact ⟨rfl, fun v hv => by cases hv⟩
  | r :: rs, vs, h => by
    obtain ⟨v, hv', h⟩ := bind_some (show (retAv tt s r).bind _ = some vs from h)
    obtain ⟨us, hus, h⟩ := bind_some h
    obtain rfl := Option.some.inj h
    obtain ⟨k1, k2⟩ := retAv_ok hT hS hv'
    obtain ⟨q1, q2⟩ := retAvs_ok hT hS hus
    refine ⟨⟨_, _, rfl, k1, q1⟩, fun x hx => ?_⟩
    rcases List.mem_cons.1 hx with rfl | hx
    · exact k2
    · exact q2 x hx
theorem sepTo_app {J : Hp} {a b c d : List Ch} (h : SepTo J a b) (k : SepTo J c d) : SepTo J (a ++ c) (b ++ d) := fun w F hs => by
  obtain ⟨G, K, rfl, e1, e2⟩ := hs.split
  exact (h w G e1).append (k w K e2)
theorem St.sepTo {J : Hp} {w0 w : World} {a b C : List Ch} (h : St J w0 w (a ++ C)) (k : SepTo J a b) : St J w0 w (b ++ C) := by
  obtain ⟨h1, h2, F, h3, h4, h5⟩ := h
  obtain ⟨G, K, rfl, e1, e2⟩ := h3.split
  exact ⟨h1, h2, G ++ K, (k w G e1).append e2, h4, h5⟩
theorem con_of_wp' {P : Program} {n : Nat} {I : Hp} {w0 : World} {k : FuncId} {fn : Func} {c : Code} {args : Array Value} {rn : List Ch} {fact : Value → Prop} {gv : Value → List Ch} (L : List (Nat × Value)) (hf : P.funcs[k]? = some fn) (hb : fn.body = some c) (hn : fn.ntmps = n) (hm : args.size ≤ n) (hL : ∀ p ∈ L, args[p.1]? = some p.2)
    (h : ∀ F w a, Agr n a L → St I w0 w (rn ++ [F]) → c.wp P (bodyPost P fn fun e w' => ∃ v, e = .returned v ∧ fact v ∧ ∃ J, I.le J ∧ St J w0 w' (gv v ++ [F])) a w) (hd : ∀ v, Ch.back (gv v)) : Con P k args I w0 rn fact gv := by
  intro w C hs
  have hs' : St I w0 w (rn ++ [Ch.fr I C]) := by
    obtain ⟨hb, hi, F, h1, h2, h3⟩ := hs
    obtain ⟨G, K, rfl, e1, e2⟩ := h1.split
    exact ⟨hb, hi, G ++ K, e1.append ⟨K, [], by simp, e2, rfl⟩, h2, h3⟩
  have := h (Ch.fr I C) w { tmps := args ++ Array.replicate (fn.ntmps - args.size) undef, defers := [] } (Agr.start L (by omega) hL) hs'
  refine (calls_of_wp hf hb this).mono ?_
  rintro e w' ⟨v, rfl, hv, J, hJ, hs⟩
  exact ⟨v, rfl, hv, hs.back hJ (hd v)⟩
theorem prepR_ok {P : Program} {I : Hp} {w0 w : World} {F : Ch} {n : Nat} {J : Hp} {θ : Th} {s : Sg} {a : Act} {tr : Trs} {vs : List AV} (hS : Sim P I w0 F n J θ s a w) : ∃ J' θ', J.le J' ∧ Sim P I w0 F n J' θ' (prepR tr vs s) a w ∧ Fr s θ (prepR tr vs s) θ' := by
  have key : ∃ J' θ', J.le J' ∧ Sim P I w0 F n J' θ' (prepRF tr vs s) a w ∧ Fr s θ (prepRF tr vs s) θ' := by
    unfold prepRF
    split
    · exact ⟨J, θ, Hp.le.rfl, hS, Fr.rfl⟩
    · exact frzL_ok hS
  obtain ⟨J', θ', h1, h2, h3⟩ := key
  obtain ⟨S2, F2⟩ := prepL_ok (V := ⟨[], [], [], n, []⟩) (hs := retHdrs s vs ++ holeHdrs (prepRF tr vs s).chs) h2
  exact ⟨J', θ', h1, S2, h3.trans F2⟩
theorem ret_ok {V : Env} {P : Program} {w0 : World} {F : Ch} {J : Hp} {θ : Th} (hT : TTok P V.tt) {fn : Func} {rs : List Ty} {ps : List PM} {d : denP ps} {vs : List Value} {s0 : Sg} (k0 : vs.length = ps.length) (k5 : StF P w0 J θ (ps.length + 1) 0 ps vs d) (hn0 : ps.length + 1 ≤ s0.nxt) {γ : Value} (hγ : θ ps.length = γ) : ∀ r J' θ' s' a' w', rtOf V fn.results.toList rs ps d s' = some r → Sim P J w0 F V.n J' θ' s' a' w' → J.le J' → Fr s0 θ s' θ' →
    bodyPost P fn (fun e w' => ∃ v, e = .returned v ∧ (resFa rs v ∧ (hasAnL 1000000 V.an = true → NilIff rs (hFst rs (outs ps) (toH _ r)) v)) ∧ ∃ J2, J.le J2 ∧ St J2 w0 w' ((resGv rs (hFst rs (outs ps) (toH _ r)) v ++ outCh γ ps vs (hSnd rs (outs ps) (toH _ r))) ++ [F])) .ret a' w' := by
  intro r J' θ' s' a' w' hrt hS' hJ hFr
  obtain ⟨vs00, hv00, hrt⟩ := bind_some (show (retAvs V.tt s' fn.results.toList).bind _ = some r from hrt)
  obtain ⟨s0', hrt, S0, N0⟩ := viewL_ok hrt (retAvs_ok hT hS' hv00).2 hS'
  obtain ⟨vs0, hv0, hrt⟩ := bind_some hrt
  obtain ⟨J1, θ1, hJ1, S1, F1⟩ := prepR_ok (tr := V.tr) (vs := vs0) S0
  generalize prepR V.tr vs0 s0' = s1 at hrt S1 F1
  have hle : s0.nxt ≤ s'.nxt := hFr.1
  have hsame : Same (ps.length + 1) θ θ1 := fun i hi => (F1.same i (by omega)).trans (hFr.same i (by omega))
  replace hJ := hJ.trans hJ1
  clear hJ1 F1 hS' S0 hFr
  revert J1 θ1
  clear J' θ'
  intro J' θ' S1 hsame hJ
  obtain ⟨us, hus, hrt⟩ := bind_some hrt
  obtain ⟨q, hq, hrt⟩ := bind_some hrt
  obtain ⟨o, ho, hrt⟩ := bind_some hrt
  obtain ⟨u0, hnl, hrt⟩ := bind_some hrt
  obtain rfl := Option.some.inj hrt
  obtain ⟨r1, r2⟩ := retAvs_ok hT S1 hus
  obtain ⟨t1, t2, t3, t4⟩ := takeRes_ok (J := J') (θ := θ') hq r2
  obtain ⟨o1, o2⟩ := takeOuts_ok (P := P) (J := J) (J' := J') (θ := θ) (θ' := θ') (vs := vs) (n := ps.length + 1) (n' := s1.nxt) (chs0 := s1.chs) hJ hsame (Nat.lt_succ_self _) hγ ho k0 k5 fun e he => S1.fine.chs e (t1.mem_iff.2 (by simp [he]))
  have hl : (us.map (·.v θ')).length = rs.length := by rw [List.length_map]; exact t2
  refine ret_n S1.agr r1 ⟨_, rfl, ⟨resFa_ok hl fun i t v ht hv1 => ?_, fun han => ?_⟩, J', hJ, ?_⟩
  · rw [List.getElem?_map] at hv1
    obtain ⟨x, hx, rfl⟩ := Option.map_eq_some_iff.1 hv1
    exact t4 i t x ht hx
  · rw [toH_ofH, hFst_app]
    unfold nlChk at hnl
    rw [han] at hnl
    have hnl : 0 < nlN us rs q.1 := chk_some hnl
    rcases us with _ | ⟨x, us⟩
    · cases hnl
    · cases us with
      | nil => exact nlN_ok (θ := θ') hnl rfl
      | cons y us => unfold nlN at hnl; split at hnl <;> first | omega | simp_all
  · rw [toH_ofH, hFst_app, hSnd_app, resGv_list hl]
    have hp := t1.trans (o1.append_left _)
    have h1 := S1.st.perm ((hp.map (toCh P θ')).append_right [F])
    have h2 : St J' w0 w' ((q.2.1.map (toCh P θ') ++ o.2.1.map (toCh P θ')) ++ (o.2.2.map (toCh P θ') ++ [F])) := by
      simpa [List.map_append, List.append_assoc] using h1
    have h3 := St.sepTo h2 (sepTo_app t3 o2)
    refine St.left (ds := o.2.2.map (toCh P θ')) (h3.perm ?_)
    simp only [List.append_assoc]
    exact List.Perm.append_left _ (List.Perm.append_left _ List.perm_append_comm)
theorem fok_con {V : Env} {P : Program} (hT : TTok P V.tt) (hF : FTok P V.ft) (hmx : P.follows .mixedOrders = true) {k : FuncId} {fn : Func} {c : Code} {f : FS} (hf : P.funcs[k]? = some fn) (hb : fn.body = some c) (hn : fn.ntmps = V.n) (hen : Enters P k) (hm : f.ps.length ≤ V.n) (hdp : (backR f.rs && outDp f.ps) = true) (ann : Ann)
    (hmod : ∀ d, appP f.ps f.m d = interp V (rtOf V fn.results.toList f.rs f.ps d) c ann (fun r => some r) (fun _ _ => none) (rtOf V fn.results.toList f.rs f.ps d) (openA (startS f.ps d))) : ∀ w0 J γ vs (d : denP f.ps) r, Lay P J → PArgs P w0 J γ f.ps vs d → appP f.ps f.m d = some r → Con P k vs.toArray J w0 (owCh γ f.ps vs d) (fun v => resFa f.rs v ∧ (hasAnL 1000000 V.an = true → NilIff f.rs (hFst f.rs (outs f.ps) (toH _ r)) v)) (fun v => resGv f.rs (hFst f.rs (outs f.ps) (toH _ r)) v ++ outCh γ f.ps vs (hSnd f.rs (outs f.ps) (toH _ r))) := by
  rw [Bool.and_eq_true] at hdp
  intro w0 J γ vs d r hlay ha hr
  rw [hmod] at hr
  have k0 := pargs_len ha
  let θ : Th := fun i => if i = vs.length then γ else vs.getD i undef
  have hθ : ∀ j v, vs[j]? = some v → θ (0 + j) = v := fun j v hj => by
    show (if 0 + j = vs.length then γ else vs.getD (0 + j) undef) = v
    rw [Nat.zero_add, if_neg (Nat.ne_of_lt (List.getElem?_eq_some_iff.1 hj).1), List.getD_eq_getElem?_getD, hj]; rfl
  have hθg : θ f.ps.length = γ := by
    show (if f.ps.length = vs.length then γ else _) = γ
    rw [if_pos k0.symm]
  have hzip : ∀ p ∈ (vs.zipIdx.map fun q => (q.2, q.1)), vs.toArray[p.1]? = some p.2 := fun p hp => by
    obtain ⟨q, hq, rfl⟩ := List.mem_map.1 hp
    obtain ⟨v, j⟩ := q
    have := (List.mk_mem_zipIdx_iff_getElem? (x := v) (i := j)).1 hq
    simpa using this
  refine con_of_wp' (n := V.n) (vs.zipIdx.map fun q => (q.2, q.1)) hf hb hn (by rw [List.size_toArray, k0]; exact hm) hzip (fun F w a hA hst => ?_) (fun v => resGv_back (outCh_deep _ _ _ hdp.2) _ _ hdp.1)
  · obtain ⟨k1, k2, k3, k4, k5⟩ := start_ok (n := f.ps.length + 1) (q := f.ps.length) (C := [F]) (Nat.lt_succ_self _) hθg ha hθ (by omega) hst
    have hfine : Fine P w0 J θ (startS f.ps d) := ⟨fun e he => (k1 e he).1 _, fun e he => by have := k1 e he; show e.2.1 < f.ps.length + 1; omega, k2, fun e he => k4 e he _, hlay⟩
    have hA' : Agr V.n a (envL θ (startS f.ps d)) := hA.pick _ fun p hp => by
      obtain ⟨e, he, rfl⟩ := List.mem_map.1 hp
      have h5 := (k1 e he).2.2.2.2
      rw [Nat.sub_zero] at h5
      have key : ∀ (l : List Value) (k : Nat) (i : Nat) (v : Value), k ≤ i → l[i - k]? = some v → ((l.zipIdx k).map fun q => (q.2, q.1)).lookup i = some v := by
        intro l
        induction l with
        | nil => intro k i v _ h; simp at h
        | cons x l ih =>
          intro k i v hk h
          simp only [List.zipIdx_cons, List.map_cons, List.lookup_cons]
          by_cases e : i = k
          · subst e
            simp at h
            simp [h]
          · have : (i == k) = false := by simpa using e
            rw [this]
            refine ih (k + 1) i v (by omega) ?_
            rw [show i - k = (i - (k + 1)) + 1 from by omega] at h
            simpa using h
      exact key vs 0 e.1 _ (Nat.zero_le _) h5
    have hS : Sim P J w0 F V.n J θ (startS f.ps d) a w := ⟨Hp.le.rfl, hA', k3, hfine⟩
    have fin := ret_ok (rs := f.rs) (fn := fn) (F := F) hT k0 k5 (Nat.le_refl (startS f.ps d).nxt) hθg
    obtain ⟨θ0, hS0, hFr0⟩ := openA_ok hS
    exact (interp_both (I := J) (w0 := w0) (F := F) hT hF hmx c).1 ann hr hS0 (fun J' θ' s' a' w' hk S' hJ hFr => fin r J' θ' s' a' w' hk S' hJ (hFr0.trans hFr)) (fun i J' θ' s' a' w' hk => by cases hk) (fun r' J' θ' s' a' w' hrt hrr hS' hJ hFr => by
      obtain rfl := Option.some.inj hrr
      exact fin _ J' θ' s' a' w' hrt hS' hJ (hFr0.trans hFr))
theorem fok {V : Env} {P : Program} (hT : TTok P V.tt) (hF : FTok P V.ft) (hmx : P.follows .mixedOrders = true) {k : FuncId} {fn : Func} {c : Code} {f : FS} (hf : P.funcs[k]? = some fn) (hb : fn.body = some c) (hn : fn.ntmps = V.n) (hen : Enters P k) (hcl : f.cl = none) (hm : f.ps.length ≤ V.n) (hdp : (backR f.rs && outDp f.ps) = true) (ann : Ann)
    (hmod : ∀ d, appP f.ps f.m d = interp V (rtOf V fn.results.toList f.rs f.ps d) c ann (fun r => some r) (fun _ _ => none) (rtOf V fn.results.toList f.rs f.ps d) (openA (startS f.ps d))) : FOk P k f :=
  ⟨fun q hq => by (rw [hcl] at hq; cases hq), fun _ => hen, fun _ w0 J γ vs d r hlay ha hr w C hs => (fok_con hT hF hmx hf hb hn hen hm hdp ann hmod w0 J γ vs d r hlay ha hr w C hs).mono fun e w' ⟨v, h1, h2, h3⟩ => ⟨v, h1, h2.1, h3⟩⟩
/-! ### Elements of some cells, whatever lies in them -/
def rawsT : Nat → Ty
  | 0 => .raw
  | n + 1 => .prod .raw (rawsT n)
def cellsR : (n : Nat) → (rawsT n).den → List Value
  | 0, p => [p.1]
  | n + 1, p => p.1.1 :: cellsR n p.2
theorem raws_size : ∀ n, (rawsT n).rep.size = n + 1
  | 0 => rfl
  | n + 1 => by
    show 1 + (rawsT n).rep.size = _
    rw [raws_size n]; omega
theorem raws_own {I : Hp} {w : World} : ∀ (n : Nat) {cs : List Value} {p : (rawsT n).den} {F : List Nat}, (rawsT n).rep.own I w cs p F → F = [] ∧ cs = cellsR n p
  | 0, cs, p, F, h => by
    obtain ⟨h1, h2⟩ := h
    exact ⟨h1, h2⟩
  | n + 1, cs, p, F, ⟨c, d, G, K, h1, h2, h3, h4⟩ => by
    obtain ⟨rfl, h5⟩ := h3
    obtain ⟨rfl, h6⟩ := raws_own n h4
    have h5 : c = [p.1.1] := h5
    subst h1; subst h2; subst h5
    exact ⟨rfl, by rw [h6]; rfl⟩
theorem raws_ex : ∀ (n : Nat) (cs : List Value), cs.length = n + 1 → (∀ u ∈ cs, u.oneCell' = true) → ∃ p : (rawsT n).den, cellsR n p = cs
  | 0, cs, hl, h1 => by
    obtain ⟨u, rfl⟩ := List.length_eq_one_iff.1 hl
    exact ⟨⟨u, h1 u (by simp)⟩, rfl⟩
  | n + 1, u :: cs, hl, h1 => by
    obtain ⟨p, hp⟩ := raws_ex n cs (by simpa using hl) (fun v hv => h1 v (by simp [hv]))
    exact ⟨(⟨u, h1 u (by simp)⟩, p), by show u :: cellsR n p = _; rw [hp]⟩
end Go.Proofs.YtfkjjnddefojjaaGreatDoor.R
/- Functions over rows, whatever lies in their elements. No program text is named here. -/
set_option linter.unusedVariables false
set_option linter.unusedSimpArgs false
set_option linter.unnecessarySimpa false
set_option linter.unusedSectionVars false
namespace Go.Proofs.YtfkjjnddefojjaaGreatDoor.R
open Go.RowKit
open Go.Proofs.YtfkjjnddefojjaaGreatDoor.D

theorem els_raws {n : Nat} {α : Type} {R : Rep α} (hR : R.Sh) (h1 : R.size = n + 1) {I : Hp} {w : World} : ∀ {xs : List α} {cur : List Value} {K : List Nat}, OwnEls R I w cur xs K → ∃ ps : List (rawsT n).den, K = [] ∧ OwnEls (rawsT n).rep I w cur ps [] ∧ All2 (fun p x => R.rd I (cellsR n p) x) ps xs
  | [], cur, K, h => ⟨[], h, rfl, .nil⟩
  | x :: xs, cur, K, ⟨c, rest, G, K1, e1, e2, e3, e4, e5⟩ => by
    obtain ⟨rfl, hrd⟩ := hR e4
    obtain ⟨p, rfl⟩ := raws_ex n c (e2.trans h1) (R.rd_one hrd)
    obtain ⟨ps, rfl, k2, k3⟩ := els_raws hR h1 e5
    have hraw : ∀ (m : Nat) (q : (rawsT m).den), (rawsT m).rep.own I w (cellsR m q) q [] := by
      intro m
      induction m with
      | zero => intro q; exact ⟨rfl, rfl⟩
      | succ m ih => intro q; exact ⟨[q.1.1], cellsR m q.2, [], [], rfl, rfl, ⟨rfl, rfl⟩, ih q.2⟩
    exact ⟨p :: ps, e3, ⟨cellsR n p, rest, [], [], e1, by rw [e2, h1, raws_size], rfl, hraw n p, k2⟩, .cons hrd k3⟩
theorem row_raws {n : Nat} {α : Type} {E : TypeId} {R : Rep α} (hR : R.Sh) (h1 : R.size = n + 1) {I : Hp} {w0 w : World} {C : List Ch} {v : Value} {xs : List α} (h : St I w0 w (Ch.own (rSlice E R) [v] xs :: C)) : ∃ ps : List (rawsT n).den, All2 (fun p x => R.rd I (cellsR n p) x) ps xs ∧ St I w0 w (Ch.own (rSlice E (rawsT n).rep) [v] ps :: C) := by
  obtain ⟨a1, a2, F, ⟨G, K, rfl, ⟨hl, k⟩, e⟩, a4, a5⟩ := h
  rcases k with ⟨hv', rfl, rfl⟩ | ⟨g, ofs, cap, cur, K1, hv', k1, k2, k3, k4, rfl, k5⟩
  · exact ⟨[], .nil, a1, a2, [] ++ K, ⟨[], K, rfl, ⟨Nat.zero_le _, .inl ⟨hv', rfl, rfl⟩⟩, e⟩, a4, a5⟩
  · obtain ⟨ps, rfl, q1, q2⟩ := els_raws hR h1 k5
    have hlen := q2.length_eq
    exact ⟨ps, q2, a1, a2, [g] ++ K, ⟨[g], K, rfl, ⟨by rw [hlen]; exact hl, .inr ⟨g, ofs, cap, cur, [], by rw [hlen]; exact hv', k1, by rw [hlen]; exact k2, k3, by rw [h1] at k4; rw [raws_size]; exact k4, rfl, q1⟩⟩, e⟩, a4, a5⟩
theorem raws_elsC {n : Nat} {α : Type} {R : Rep α} (hC : Cpy R R) (h1 : R.size = n + 1) {I : Hp} {w : World} : ∀ {ps : List (rawsT n).den} {xs : List α} {cur : List Value} {F : List Nat}, OwnEls (rawsT n).rep I w cur ps F → All2 (fun p x => R.rd I (cellsR n p) x) ps xs → OwnEls R I w cur xs F
  | [], [], _, _, h, _ => h
  | p :: ps, x :: xs, cur, F, ⟨c, rest, G, K, e1, e2, e3, e4, e5⟩, hh => by
    cases hh with
    | cons hp hps =>
      obtain ⟨rfl, rfl⟩ := raws_own n e4
      exact ⟨cellsR n p, rest, [], K, e1, by rw [e2, raws_size]; exact h1.symm, e3, hC hp, raws_elsC hC h1 e5 hps⟩
  | [], _ :: _, _, _, _, hh => by cases hh
  | _ :: _, [], _, _, _, hh => by cases hh
theorem raws_rowC {n : Nat} {α : Type} {E : TypeId} {R : Rep α} (hC : Cpy R R) (h1 : R.size = n + 1) {I : Hp} {w0 w : World} {C : List Ch} {v : Value} {xs : List α} {ps : List (rawsT n).den} (hp : All2 (fun p x => R.rd I (cellsR n p) x) ps xs) (h : St I w0 w (Ch.own (rSlice E (rawsT n).rep) [v] ps :: C)) : St I w0 w (Ch.own (rSlice E R) [v] xs :: C) := by
  obtain ⟨a1, a2, F, ⟨G, K, rfl, ⟨hl, k⟩, e⟩, a4, a5⟩ := h
  have hlen := hp.length_eq
  rcases k with ⟨hv', rfl, rfl⟩ | ⟨g, ofs, cap, cur, K1, hv', k1, k2, k3, k4, rfl, k5⟩
  · cases hp
    exact ⟨a1, a2, [] ++ K, ⟨[], K, rfl, ⟨Nat.zero_le _, .inl ⟨hv', rfl, rfl⟩⟩, e⟩, a4, a5⟩
  · exact ⟨a1, a2, (g :: K1) ++ K, ⟨g :: K1, K, rfl, ⟨by rw [← hlen]; exact hl, .inr ⟨g, ofs, cap, cur, K1, by rw [← hlen]; exact hv', k1, by rw [← hlen]; exact k2, k3, by rw [raws_size] at k4; rw [h1]; exact k4, rfl, raws_elsC hC h1 k5 hp⟩⟩, e⟩, a4, a5⟩
theorem all2_take {α β : Type} {p : α → β → Prop} : ∀ {xs : List α} {ys : List β} (n : Nat), All2 p xs ys → All2 p (xs.take n) (ys.take n)
  | _, _, 0, _ => .nil
  | _, _, n + 1, .nil => .nil
  | _, _, n + 1, .cons h k => .cons h (all2_take n k)
theorem all2_app {α β : Type} {p : α → β → Prop} : ∀ {xs : List α} {ys : List β} {xs' : List α} {ys' : List β}, All2 p xs ys → All2 p xs' ys' → All2 p (xs ++ xs') (ys ++ ys')
  | _, _, _, _, .nil, h => h
  | _, _, _, _, .cons h k, h' => .cons h (all2_app k h')

/-! ### Delete -/
def delI {α : Type} (xs : List α) (i j : Int) : Option (List α) := (chk (0 ≤ i ∧ i ≤ j ∧ j ≤ (xs.length : Int))).bind fun _ => some (xs.take i.toNat ++ xs.drop j.toNat)
def delM {α : Type} (z : α) (p0s : List α) (p1i p2j : Int) : Option (List α) :=
  (chk (And (0 ≤ p1i) (And (p1i ≤ p2j) (And (p2j ≤ (p0s.length : Int)) ((0 + (p0s.length : Int)) ≤ (p0s.length : Int)))))).bind fun _ => if p1i == p2j then (some p0s) else ((chk (And ((0 : Int) ≤ 0) (And (0 ≤ p1i) ((0 + p1i) ≤ (p0s.length : Int))))).bind fun _ => (chk (And (0 ≤ p2j) (And (p2j ≤ ((p0s.length : Int) - 0)) ((0 + ((p0s.length : Int) - 0)) ≤ (p0s.length : Int))))).bind fun _ => (chk (And ((0 + 0 : Int) = 0) (And ((0 + p1i) ≤ (0 + p2j)) (And ((0 + p2j) ≤ (0 + ((p0s.length : Int) - 0))) ((0 + ((p0s.length : Int) - 0)) ≤ (p0s.length : Int)))))).bind fun _ => (chk (And (0 ≤ (((0 + p1i) + ((0 + ((p0s.length : Int) - 0)) - (0 + p2j))) - 0)) (And ((((0 + p1i) + ((0 + ((p0s.length : Int) - 0)) - (0 + p2j))) - 0) ≤ (p0s.length : Int)) ((0 + (p0s.length : Int)) ≤ ((slideM p0s ((0 + p1i).toNat) ((0 + p2j).toNat) ((0 + ((p0s.length : Int) - 0)).toNat)).length : Int))))).bind fun _ => (chk (And ((0 + (((0 + p1i) + ((0 + ((p0s.length : Int) - 0)) - (0 + p2j))) - 0)) ≤ (0 + (p0s.length : Int))) ((0 + (p0s.length : Int)) ≤ ((slideM p0s ((0 + p1i).toNat) ((0 + p2j).toNat) ((0 + ((p0s.length : Int) - 0)).toNat)).length : Int)))).bind fun _ => some (((zeroM (slideM p0s ((0 + p1i).toNat) ((0 + p2j).toNat) ((0 + ((p0s.length : Int) - 0)).toNat)) ((0 + (((0 + p1i) + ((0 + ((p0s.length : Int) - 0)) - (0 + p2j))) - 0)).toNat) ((0 + (p0s.length : Int)).toNat) z).take (((0 + p1i) + ((0 + ((p0s.length : Int) - 0)) - (0 + p2j))).toNat)).drop ((0 : Int).toNat)))
theorem chk_of {α : Type} {p : Prop} [Decidable p] {k : Unit → Option α} (h : p) : (chk p).bind k = k () := by
  unfold chk
  rw [if_pos h]; rfl
theorem delM_eq {α : Type} {z : α} {xs : List α} {i j : Int} (h1 : 0 ≤ i) (h2 : i ≤ j) (h3 : j ≤ (xs.length : Int)) : delM z xs i j = some (xs.take i.toNat ++ xs.drop j.toNat) := by
  have hsl : (slideM xs ((0 + i).toNat) ((0 + j).toNat) ((0 + ((xs.length : Int) - 0)).toNat)).length = xs.length := slideM_length (by omega) (by omega) (by omega)
  unfold delM
  rw [chk_of (by omega)]
  by_cases hij : i = j
  · subst hij
    rw [if_pos (by simp), List.take_append_drop]
  · rw [if_neg (by simpa using hij), chk_of (by omega), chk_of (by omega), chk_of (by omega), chk_of (by rw [hsl]; omega), chk_of (by rw [hsl]; omega)]
    have hzl : (zeroM (slideM xs ((0 + i).toNat) ((0 + j).toNat) ((0 + ((xs.length : Int) - 0)).toNat)) ((0 + (((0 + i) + ((0 + ((xs.length : Int) - 0)) - (0 + j))) - 0)).toNat) ((0 + (xs.length : Int)).toNat) z).length = xs.length := by
      rw [zeroM_length (by omega) (by rw [hsl]; omega), hsl]
    congr 1
    rw [show ((0 : Int).toNat) = 0 from rfl, List.drop_zero]
    apply List.ext_getElem?
    intro q
    have hi : (xs.take i.toNat).length = i.toNat := by rw [List.length_take]; omega
    rw [List.getElem?_take]
    by_cases c : q < ((0 + i) + ((0 + ((xs.length : Int) - 0)) - (0 + j))).toNat
    · rw [if_pos c, zeroM_get (by omega) (by rw [hsl]; omega), if_neg (by omega), slideM_get (by omega) (by omega) (by omega)]
      by_cases c1 : q < i.toNat
      · rw [if_neg (by omega), List.getElem?_append_left (by omega), List.getElem?_take, if_pos c1]
      · rw [if_pos (by omega), List.getElem?_append_right (by omega), hi, List.getElem?_drop]
        congr 1; omega
    · rw [if_neg c, List.getElem?_append_right (by omega), List.getElem?_drop, List.getElem?_eq_none (by omega)]
theorem fok_del {P : Program} {k : FuncId} {E n : Nat} {u : Ty} {z : (rawsT n).den} (hu : u.sh = true) (hs : u.size = n + 1) (h : FOk P k ⟨[.eat (.sl E (rawsT n)), .rd (.int .i64), .rd (.int .i64)], [.sl E (rawsT n)], delM z, none⟩) : FOk P k ⟨[.eat (.sl E u), .rd (.int .i64), .rd (.int .i64)], [.sl E u], delI, none⟩ := by
  refine ⟨fun q hq => (by cases hq), fun _ => h.en rfl, fun _ w0 J γ vs d r hlay ha happ => ?_⟩
  obtain ⟨v, vs1, rfl, hd, v2, vs2, rfl, hd2, v3, vs3, rfl, hd3, hnil⟩ := ha
  obtain rfl : vs3 = [] := hnil
  obtain ⟨xs0, i0, j0, un⟩ := d
  let xs : List u.den := xs0
  let i : Int := i0
  let j : Int := j0
  let zs : List u.den := r
  have happ : delI xs i j = some zs := happ
  obtain ⟨u1, hc, hz⟩ := Option.bind_eq_some_iff.1 happ
  obtain ⟨c1, c2, c3⟩ := chk_some hc
  have hz := Option.some.inj hz
  have hsz : u.rep.size = n + 1 := (Ty.rep_size u).trans hs
  intro w C hst
  have hst : St J w0 w (Ch.own (rSlice E u.rep) [v] xs :: C) := hst
  obtain ⟨ps, hp, hst2⟩ := row_raws (Ty.sh_ok hu) hsz hst
  have hlen := hp.length_eq
  have hm : delM z ps i j = some (ps.take i.toNat ++ ps.drop j.toNat) := delM_eq c1 c2 (by rw [hlen]; exact c3)
  have key := h.con rfl w0 J undef [v, v2, v3] (ps, i, j, ()) (show dens ([Ty.sl E (rawsT n)] ++ []) from ps.take i.toNat ++ ps.drop j.toNat) hlay ⟨v, _, rfl, hd, v2, _, rfl, hd2, v3, _, rfl, hd3, rfl⟩ hm
  refine (key w C hst2).mono fun e w' ⟨r, a1, a2, a3⟩ => ⟨r, a1, a2, ?_⟩
  have a3 : St J w0 w' (Ch.own (rSlice E (rawsT n).rep) [r] (ps.take i.toNat ++ ps.drop j.toNat) :: C) := a3
  show St J w0 w' (Ch.own (rSlice E u.rep) [r] zs :: C)
  rw [← hz]
  exact raws_rowC (Ty.cpy hu) hsz (all2_app (all2_take _ hp) (forall2_drop _ hp)) a3

/-! ### Insert -/
def insG {α : Type} (b : Nat) (z : α) (xs : List α) (i : Int) (v : List α) (c : Nat) : Option (List α × List α) :=
  (chk ((0 : Int) ≤ 0 ∧ 0 ≤ i ∧ 0 + i ≤ (xs.length : Int))).bind fun _ =>
  (chk ((0 + 0 : Int) = 0 ∧ 0 + i ≤ (xs.length : Int) ∧ 0 < IntKind.i64.wrap (IntKind.i64.wrap ((xs.length : Int) + (v.length : Int)) - i) ∧ (c : Int) < (0 + i) + IntKind.i64.wrap (IntKind.i64.wrap ((xs.length : Int) + (v.length : Int)) - i) ∧ ((0 + i) + IntKind.i64.wrap (IntKind.i64.wrap ((xs.length : Int) + (v.length : Int)) - i)) * (b : Int) ≤ 140737488355328)).bind fun _ =>
  (fun s2 : List α => (chk (0 ≤ i ∧ i ≤ (s2.length : Int) - 0 ∧ 0 + ((s2.length : Int) - 0) ≤ (s2.length : Int))).bind fun _ =>
    (chk ((0 : Int) ≤ 0 ∧ 0 ≤ min ((v.length : Int) - 0) ((0 + ((s2.length : Int) - 0)) - (0 + i)) ∧ 0 + min ((v.length : Int) - 0) ((0 + ((s2.length : Int) - 0)) - (0 + i)) ≤ (v.length : Int) ∧ 0 ≤ 0 + i ∧ 0 + i ≤ (s2.length : Int) ∧ 0 + ((s2.length : Int) - 0) ≤ (s2.length : Int))).bind fun _ =>
    (fun s3 : List α => (chk (0 ≤ IntKind.i64.wrap (i + (v.length : Int)) ∧ IntKind.i64.wrap (i + (v.length : Int)) ≤ (s3.length : Int) - 0 ∧ 0 + ((s3.length : Int) - 0) ≤ (s3.length : Int))).bind fun _ =>
      (chk (0 ≤ i ∧ i ≤ (xs.length : Int) - 0 ∧ 0 + ((xs.length : Int) - 0) ≤ (xs.length : Int))).bind fun _ =>
      (chk (0 ≤ 0 + i ∧ 0 ≤ min ((0 + ((xs.length : Int) - 0)) - (0 + i)) ((0 + ((s3.length : Int) - 0)) - (0 + IntKind.i64.wrap (i + (v.length : Int)))) ∧ (0 + i) + min ((0 + ((xs.length : Int) - 0)) - (0 + i)) ((0 + ((s3.length : Int) - 0)) - (0 + IntKind.i64.wrap (i + (v.length : Int)))) ≤ (xs.length : Int) ∧ 0 ≤ 0 + IntKind.i64.wrap (i + (v.length : Int)) ∧ 0 + IntKind.i64.wrap (i + (v.length : Int)) ≤ (s3.length : Int) ∧ 0 + ((s3.length : Int) - 0) ≤ (s3.length : Int))).bind fun _ =>
      some (cpyW s3 (0 + IntKind.i64.wrap (i + (v.length : Int))).toNat (srcL xs (0 + i) (min ((0 + ((xs.length : Int) - 0)) - (0 + i)) ((0 + ((s3.length : Int) - 0)) - (0 + IntKind.i64.wrap (i + (v.length : Int)))))), v))
    (cpyW s2 (0 + i).toNat (srcL v 0 (min ((v.length : Int) - 0) ((0 + ((s2.length : Int) - 0)) - (0 + i))))))
  (xs.take (0 + i).toNat ++ List.replicate (IntKind.i64.wrap (IntKind.i64.wrap ((xs.length : Int) + (v.length : Int)) - i)).toNat z)
def insS {α : Type} (xs : List α) (i : Int) (v : List α) (c : Nat) : Option (List α × List α) :=
  (fun w0 w : Int => (chk ((xs.length : Int) ≤ w0 ∧ w0 ≤ (c : Int))).bind fun _ =>
    (chk (0 ≤ w ∧ w ≤ w0 - 0 ∧ w0 - 0 ≤ w0 - 0)).bind fun _ =>
    (chk (0 < v.length ∧ 0 + w < 0 + (w0 - 0))).bind fun _ =>
    (chk (0 ≤ w ∧ w ≤ w0 - 0 ∧ w0 - 0 ≤ w0 - 0)).bind fun _ =>
    (chk (0 ≤ i ∧ i ≤ w0 - 0 ∧ w0 - 0 ≤ w0 - 0)).bind fun _ =>
    (chk (0 ≤ 0 + i ∧ 0 ≤ min ((0 + (w0 - 0)) - (0 + i)) ((0 + (w0 - 0)) - (0 + w)) ∧ (0 + i) + min ((0 + (w0 - 0)) - (0 + i)) ((0 + (w0 - 0)) - (0 + w)) ≤ (xs.length : Int) ∧ 0 ≤ 0 + w ∧ 0 + w ≤ (xs.length : Int))).bind fun _ =>
    (chk ((0 + w) + min ((0 + (w0 - 0)) - (0 + i)) ((0 + (w0 - 0)) - (0 + w)) = w0 ∧ (xs.length : Int) ≤ w0)).bind fun _ =>
    (fun s2 : List α => (chk (0 ≤ i ∧ i ≤ (s2.length : Int) - 0 ∧ 0 + ((s2.length : Int) - 0) ≤ (s2.length : Int))).bind fun _ =>
      (chk ((0 : Int) ≤ 0 ∧ 0 ≤ min ((v.length : Int) - 0) ((0 + ((s2.length : Int) - 0)) - (0 + i)) ∧ 0 + min ((v.length : Int) - 0) ((0 + ((s2.length : Int) - 0)) - (0 + i)) ≤ (v.length : Int) ∧ 0 ≤ 0 + i ∧ 0 + i ≤ (s2.length : Int) ∧ 0 + ((s2.length : Int) - 0) ≤ (s2.length : Int))).bind fun _ =>
      some (cpyW s2 (0 + i).toNat (srcL v 0 (min ((v.length : Int) - 0) ((0 + ((s2.length : Int) - 0)) - (0 + i)))), v))
    (cpyW xs (0 + w).toNat (srcL xs (0 + i) (min ((0 + (w0 - 0)) - (0 + i)) ((0 + (w0 - 0)) - (0 + w))))))
  (IntKind.i64.wrap ((xs.length : Int) + (v.length : Int))) (IntKind.i64.wrap (i + (v.length : Int)))
noncomputable def insM {α : Type} (b : Nat) (z : α) (xs : List α) (i : Int) (v : List α) : Option (List α × List α) :=
  (chk (0 ≤ i ∧ i ≤ (xs.length : Int) - 0 ∧ 0 + ((xs.length : Int) - 0) ≤ (xs.length : Int))).bind fun _ =>
  if (v.length : Int) == 0 then some (xs, v) else if i == (xs.length : Int) then (appI b xs v).bind fun zs => some (zs, v) else
  capAll xs.length fun c => if cmpI .gtr (IntKind.i64.wrap ((xs.length : Int) + (v.length : Int))) (c : Int) then insG b z xs i v c else insS xs i v c
def insI {α : Type} (b : Nat) (xs : List α) (i : Int) (v : List α) : Option (List α × List α) :=
  (chk (0 ≤ i ∧ i ≤ (xs.length : Int) ∧ v.length = 1 ∧ 1 ≤ b ∧ (xs.length + 1) * b ≤ 140737488355328)).bind fun _ => some (xs.take i.toNat ++ (v ++ xs.drop i.toNat), v)
theorem ins_get {α : Type} {xs v : List α} {i q : Nat} (hi : i ≤ xs.length) (hv : v.length = 1) : (xs.take i ++ (v ++ xs.drop i))[q]? = if q < i then xs[q]? else if q = i then v[0]? else xs[q - 1]? := by
  have hl : (xs.take i).length = i := by rw [List.length_take]; omega
  by_cases c1 : q < i
  · rw [if_pos c1, List.getElem?_append_left (by omega), List.getElem?_take, if_pos c1]
  · rw [if_neg c1, List.getElem?_append_right (by omega), hl]
    by_cases c2 : q = i
    · rw [if_pos c2, List.getElem?_append_left (by omega), c2, Nat.sub_self]
    · rw [if_neg c2, List.getElem?_append_right (by omega), hv, List.getElem?_drop]; congr 1; omega
set_option maxHeartbeats 1000000 in
theorem insM_eq {α : Type} {b : Nat} {z : α} {xs v : List α} {i : Int} {r : List α × List α} (h : insI b xs i v = some r) : insM b z xs i v = some r := by
  obtain ⟨u, hc, h⟩ := Option.bind_eq_some_iff.1 h
  obtain ⟨h1, h2, hv, hb, hbig⟩ := chk_some hc
  obtain rfl := Option.some.inj h
  have hn : xs.length + 1 ≤ 140737488355328 := by
    have : (xs.length + 1) * 1 ≤ (xs.length + 1) * b := Nat.mul_le_mul_left _ hb
    omega
  obtain ⟨k, rfl⟩ : ∃ k : Nat, i = (k : Int) := ⟨i.toNat, by omega⟩
  have hk : k ≤ xs.length := by omega
  have w1 : IntKind.i64.wrap ((xs.length : Int) + (v.length : Int)) = ((xs.length + 1 : Nat) : Int) := by rw [hv, IntKind.wrap_i64]; omega
  have w2 : IntKind.i64.wrap ((k : Int) + (v.length : Int)) = ((k + 1 : Nat) : Int) := by rw [hv, IntKind.wrap_i64]; omega
  have w3 : IntKind.i64.wrap (((xs.length + 1 : Nat) : Int) - (k : Int)) = ((xs.length + 1 - k : Nat) : Int) := by rw [IntKind.wrap_i64]; omega
  unfold insM
  rw [chk_of (by omega)]
  rw [if_neg (by rw [hv]; decide)]
  by_cases hkn : k = xs.length
  · subst hkn
    rw [if_pos (by simp)]
    have : appI b xs v = some (xs ++ v) := by unfold appI; rw [if_pos (by rw [hv]; exact hbig)]
    rw [this]
    simp
  · rw [if_neg (by simp; omega)]
    have tk : ((k : Int)).toNat = k := rfl
    have t0 : (0 + (k : Int)).toNat = k := by omega
    have t1 : (0 + ((k + 1 : Nat) : Int)).toNat = k + 1 := by omega
    have sv : srcL v 0 1 = v := by
      unfold srcL
      rw [show ((0 : Int) + 1).toNat = 1 from rfl, show ((0 : Int)).toNat = 0 from rfl, List.drop_zero, List.take_of_length_le (by omega)]
    have sx : srcL xs (0 + (k : Int)) ((xs.length : Int) - (k : Int)) = xs.drop k := by
      unfold srcL
      rw [t0, show (0 + (k : Int) + ((xs.length : Int) - (k : Int))).toNat = xs.length from by omega, List.take_length]
    have hdl : (xs.drop k).length = xs.length - k := List.length_drop
    refine capAll_eq (by unfold maxLen; omega) fun c c1 c2 => ?_
    have hcmp : cmpI .gtr (IntKind.i64.wrap ((xs.length : Int) + (v.length : Int))) (c : Int) = decide (((xs.length + 1 : Nat) : Int) > (c : Int)) := by rw [w1]; rfl
    rw [hcmp]
    by_cases hg : xs.length + 1 > c
    · rw [if_pos (by simp; omega)]
      unfold insG
      rw [w1, w2, w3]
      generalize hs2 : xs.take (0 + (k : Int)).toNat ++ List.replicate (((xs.length + 1 - k : Nat) : Int)).toNat z = s2
      have l2 : s2.length = xs.length + 1 := by rw [← hs2, t0, List.length_append, List.length_take, List.length_replicate]; omega
      have m1 : min ((v.length : Int) - 0) ((0 + ((s2.length : Int) - 0)) - (0 + (k : Int))) = 1 := by rw [hv, l2]; omega
      simp only [m1, sv, t0]
      have lc : (cpyW s2 k v).length = xs.length + 1 := by rw [cpyW_length (by omega), l2, hv]; omega
      have m2 : min ((0 + ((xs.length : Int) - 0)) - (0 + (k : Int))) ((0 + (((cpyW s2 k v).length : Int) - 0)) - (0 + ((k + 1 : Nat) : Int))) = (xs.length : Int) - (k : Int) := by rw [lc]; omega
      simp only [m2, sx, t1]
      have hbi : ((xs.length + 1 : Nat) : Int) * (b : Int) ≤ 140737488355328 := by rw [← Int.natCast_mul]; omega
      rw [chk_of (by omega), chk_of (by
        refine ⟨by omega, by omega, by omega, by omega, ?_⟩
        rw [show (0 + (k : Int)) + ((xs.length + 1 - k : Nat) : Int) = ((xs.length + 1 : Nat) : Int) from by omega]
        exact hbi), chk_of (by rw [l2]; omega), chk_of (by rw [l2, hv]; omega), chk_of (by rw [lc]; omega), chk_of (by omega), chk_of (by rw [lc]; omega)]
      congr 2
      apply List.ext_getElem?
      intro q
      rw [cpyW_get (by rw [lc]; omega), hdl, tk, ins_get hk hv]
      by_cases q1 : k + 1 ≤ q ∧ q < k + 1 + (xs.length - k)
      · rw [if_pos q1, if_neg (by omega), if_neg (by omega), List.getElem?_drop]; congr 1; omega
      · rw [if_neg q1, cpyW_get (by omega), hv]
        by_cases q2 : q < k
        · rw [if_neg (by omega), if_pos q2, ← hs2, t0, List.getElem?_append_left (by rw [List.length_take]; omega), List.getElem?_take, if_pos q2]
        · by_cases q3 : q = k
          · rw [if_pos (by omega), if_neg q2, if_pos q3, q3, Nat.sub_self]
          · rw [if_neg (by omega), if_neg q2, if_neg q3, List.getElem?_eq_none (by omega), List.getElem?_eq_none (by omega)]
    · rw [if_neg (by simp; omega)]
      unfold insS
      simp only
      rw [w1, w2]
      have m3 : min ((0 + ((((xs.length + 1 : Nat) : Int)) - 0)) - (0 + (k : Int))) ((0 + ((((xs.length + 1 : Nat) : Int)) - 0)) - (0 + ((k + 1 : Nat) : Int))) = (xs.length : Int) - (k : Int) := by omega
      simp only [m3, sx, t0, t1]
      have lc : (cpyW xs (k + 1) (xs.drop k)).length = xs.length + 1 := by rw [cpyW_length (by omega), hdl]; omega
      have m4 : min ((v.length : Int) - 0) ((0 + (((cpyW xs (k + 1) (xs.drop k)).length : Int) - 0)) - (0 + (k : Int))) = 1 := by rw [lc, hv]; omega
      simp only [m4, sv]
      rw [chk_of (by omega), chk_of (by omega), chk_of (by rw [hv]; omega), chk_of (by omega), chk_of (by omega), chk_of (by omega), chk_of (by omega), chk_of (by rw [lc]; omega), chk_of (by rw [lc, hv]; omega)]
      congr 2
      apply List.ext_getElem?
      intro q
      rw [cpyW_get (by rw [lc]; omega), hv, tk, ins_get hk hv]
      by_cases q3 : q = k
      · rw [if_pos (by omega), if_neg (by omega), if_pos q3, q3, Nat.sub_self]
      · rw [if_neg (by omega), cpyW_get (by omega), hdl]
        by_cases q2 : q < k
        · rw [if_neg (by omega), if_pos q2]
        · rw [if_neg q2, if_neg q3]
          by_cases q4 : q < k + 1 + (xs.length - k)
          · rw [if_pos (by omega), List.getElem?_drop]; congr 1; omega
          · rw [if_neg (by omega), List.getElem?_eq_none (by omega), List.getElem?_eq_none (by omega)]
theorem fok_ov {P : Program} {k : FuncId} {E : TypeId} (h : OvOk P k) : FOk P k ⟨[], [], none, some (E, 0)⟩ :=
  ⟨fun q hq => (by obtain rfl := Option.some.inj hq; exact ⟨⟨fun _ => h, fun e => (by cases e), fun e => (by cases e)⟩, fun e => (by cases e), fun e => (by cases e)⟩), fun e => (by cases e), fun e => (by cases e)⟩
theorem fok_ins {P : Program} {k : FuncId} {E n b : Nat} {u : Ty} {z : (rawsT n).den} (hu : u.sh = true) (hs : u.size = n + 1) (h : FOk P k ⟨[.eat (.sl E (rawsT n)), .rd (.int .i64), .ow (.sl E (rawsT n))], [.sl E (rawsT n)], insM b z, none⟩) : FOk P k ⟨[.eat (.sl E u), .rd (.int .i64), .ow (.sl E u)], [.sl E u], insI b, none⟩ := by
  refine ⟨fun q hq => (by cases hq), fun _ => h.en rfl, fun _ w0 J γ vs d r hlay ha happ => ?_⟩
  obtain ⟨v, vs1, rfl, hd, v2, vs2, rfl, hd2, v3, vs3, rfl, hd3, hnil⟩ := ha
  obtain rfl : vs3 = [] := hnil
  obtain ⟨xs0, i0, y0, un⟩ := d
  let xs : List u.den := xs0
  let i : Int := i0
  let ys : List u.den := y0
  let zs : List u.den × List u.den := r
  have happ : insI b xs i ys = some zs := happ
  obtain ⟨u1, hc, hz⟩ := Option.bind_eq_some_iff.1 happ
  have hc := chk_some hc
  have hz := Option.some.inj hz
  have hsz : u.rep.size = n + 1 := (Ty.rep_size u).trans hs
  intro w C hst
  have hst : St J w0 w (Ch.own (rSlice E u.rep) [v] xs :: Ch.own (rSlice E u.rep) [v3] ys :: C) := hst
  obtain ⟨ps, hp, hst2⟩ := row_raws (Ty.sh_ok hu) hsz hst
  obtain ⟨qs, hq, hst3⟩ := row_raws (Ty.sh_ok hu) hsz (hst2.perm (List.Perm.swap _ _ _))
  have hst4 := hst3.perm (List.Perm.swap _ _ _)
  have hlen := hp.length_eq
  have hlen2 := hq.length_eq
  have hi : insI b ps i qs = some (ps.take i.toNat ++ (qs ++ ps.drop i.toNat), qs) := by
    unfold insI
    rw [chk_of (by rw [hlen, hlen2]; exact hc)]
  have hm := insM_eq (z := z) hi
  have key := h.con rfl w0 J undef [v, v2, v3] (ps, i, qs, ()) (show dens ([Ty.sl E (rawsT n)] ++ [Ty.sl E (rawsT n)]) from (ps.take i.toNat ++ (qs ++ ps.drop i.toNat), qs)) hlay ⟨v, _, rfl, hd, v2, _, rfl, hd2, v3, _, rfl, hd3, rfl⟩ hm
  refine (key w C hst4).mono fun e w' ⟨r, a1, a2, a3⟩ => ⟨r, a1, a2, ?_⟩
  have a3 : St J w0 w' (Ch.own (rSlice E (rawsT n).rep) [r] (ps.take i.toNat ++ (qs ++ ps.drop i.toNat)) :: Ch.own (rSlice E (rawsT n).rep) [v3] qs :: C) := a3
  have b1 := raws_rowC (Ty.cpy hu) hsz (all2_app (all2_take _ hp) (all2_app hq (forall2_drop _ hp))) a3
  have b2 := raws_rowC (Ty.cpy hu) hsz hq (b1.perm (List.Perm.swap _ _ _))
  show St J w0 w' (Ch.own (rSlice E u.rep) [r] zs.1 :: Ch.own (rSlice E u.rep) [v3] zs.2 :: C)
  rw [← hz]
  exact b2.perm (List.Perm.swap _ _ _)
end Go.Proofs.YtfkjjnddefojjaaGreatDoor.R
/- strings.Join and strconv.Itoa (the shelf's contracts, brought to data). No program text is named here. -/
set_option linter.unusedVariables false
set_option linter.unusedSimpArgs false
set_option linter.unnecessarySimpa false
namespace Go.Proofs.YtfkjjnddefojjaaGreatDoor.R
open Go.RowKit Go.Shelf Go.Sort
open Go.Proofs.YtfkjjnddefojjaaGreatDoor.D
def joinS (xs : List ByteArray) (sep : ByteArray) : Option ByteArray := (chk (xs.length ≤ 140737488355328 ∧ (Lib.join (xs.map (·.data.toList)) sep.data.toList).length ≤ 140737488355328)).bind fun _ => some ⟨(Lib.join (xs.map (·.data.toList)) sep.data.toList).toArray⟩
def itoaS (n : Int) : Option ByteArray := (chk (-9223372036854775808 ≤ n ∧ n ≤ 9223372036854775807)).bind fun _ => some ⟨(Lib.itoa n).toArray⟩
section
variable {P : Program} {ρ : Ren}
theorem St.grownS {I : Hp} {w0 w : World} {cs : List Ch} (h : St I w0 w cs) (os : Array Obj) : St I w0 (grow w os) cs := by
  refine St.step (w := w) (c := []) (c' := []) h rfl rfl rfl (by simp [grow]) ?_
  rintro F rfl - -
  exact ⟨fun b hb _ => heap_grow_old w os hb, [], rfl, List.nodup_nil, by simp⟩
theorem St.belowS {I : Hp} {w0 w w' : World} {cs : List Ch} (h : St I w0 w cs) (hb : Below w.heap.size w w') : St I w0 w' cs := by
  refine St.step (w := w) (c := []) (c' := []) h hb.os hb.tape hb.output hb.size ?_
  rintro F rfl - -
  exact ⟨fun b hb' _ => hb.block b hb', [], rfl, List.nodup_nil, by simp⟩
theorem fok_itoa (L : LaysM.n171 P ρ) (en : Enters P (ρ.f 171)) : FOk P (ρ.f 171) ⟨[.rd (.int .i64)], [.str], fun n => itoaS n, none⟩ := by
  refine ⟨fun q hq => (by cases hq), fun _ => en, fun _ w0 J γ vs d r hlay ha happ => ?_⟩
  obtain ⟨v, vs1, rfl, ⟨c1, l1, r1⟩, hnil⟩ := ha
  obtain rfl : vs1 = [] := hnil
  obtain ⟨n0, un⟩ := d
  let n : Int := n0
  obtain rfl : c1 = [v] := l1
  obtain rfl : v = .int .i64 n := (List.cons.inj r1).1
  obtain ⟨u1, hc, hz⟩ := Option.bind_eq_some_iff.1 (show itoaS n = some r from happ)
  have hc := chk_some hc
  obtain rfl := Option.some.inj hz
  intro w C hst
  have hst : St J w0 w C := hst
  refine (Any.strconv_Itoa L n hc.1 hc.2 w (hlay w hst.2.1).tab).mono ?_
  rintro e w' ⟨rfl, k, os, rfl⟩
  have hw : St J w0 (w.drewN k) C := hst.drawn rfl rfl rfl rfl
  exact ⟨_, rfl, rfl, D.St.free (R := rStr) (c := [.string _]) (St.grownS hw os) ⟨rfl, rfl⟩⟩
theorem fok_join (L : Lays.n156 P ρ) (X : Builder.Extra P ρ) (E : TypeId) (en : Enters P (ρ.f 156)) : FOk P (ρ.f 156) ⟨[.rd (.sl E .str), .rd .str], [.str], fun xs s => joinS xs s, none⟩ := by
  refine ⟨fun q hq => (by cases hq), fun _ => en, fun _ w0 J γ vs d r hlay ha happ => ?_⟩
  obtain ⟨v, vs1, rfl, ⟨c1, l1, r1⟩, v2, vs2, rfl, ⟨c2, l2, r2⟩, hnil⟩ := ha
  obtain rfl : vs2 = [] := hnil
  obtain ⟨xs0, sep, un⟩ := d
  let xs : List ByteArray := xs0
  obtain rfl : c1 = [v] := l1
  obtain rfl : c2 = [v2] := l2
  obtain rfl : v2 = .string sep := (List.cons.inj r2).1
  obtain ⟨u1, hc, hz⟩ := Option.bind_eq_some_iff.1 (show joinS xs sep = some r from happ)
  have hc := chk_some hc
  obtain rfl := Option.some.inj hz
  obtain ⟨ao, cap, hv, ⟨hl, hcap⟩, hx⟩ : ((rSlice E rStr).rd J [v] xs) := r1
  obtain rfl := (List.cons.inj hv).1
  intro w C hst
  have hst : St J w0 w C := hst
  rcases hx with hx | ⟨b, off, ccs, t, fr, rfl, h2, h4⟩
  · have hx : xs = [] := hx
    rw [hx] at hc ⊢
    refine (Any.strings_Join_none L X ao cap sep w).mono ?_
    rintro e w' ⟨rfl, rfl⟩
    refine ⟨_, rfl, rfl, ?_⟩
    exact D.St.free (R := rStr) (c := [.string _]) hst ⟨rfl, rfl⟩
  · have hg := hst.2.1 _ _ h2
    have hblk : b < w.heap.size := (Array.getElem?_eq_some_iff.1 hg).1
    refine (Any.strings_Join L X b off cap xs sep w (fun j x hj => ?_) hblk hc.1 hcap hc.2).mono ?_
    · obtain ⟨c, e1, e2, e3⟩ := h4 j x hj
      obtain rfl : c = [.string x] := e3
      have := e2 0 Nat.one_pos
      have e : off + j * rStr.size + 0 = off + j := by show off + j * 1 + 0 = _; omega
      rw [e] at this
      unfold World.cell?
      have hg : w.heap[b]? = some (.cells ccs t fr) := hg
      simp only [hg]
      rw [← Array.getElem?_toList, this]
      rfl
    · rintro e w' ⟨rfl, hb⟩
      exact ⟨_, rfl, rfl, D.St.free (R := rStr) (c := [.string _]) (St.belowS hst hb) ⟨rfl, rfl⟩⟩
end
end Go.Proofs.YtfkjjnddefojjaaGreatDoor.R
/- strings.Split, strings.IndexByte (the shelf's contracts, brought to data); functions on strings that are walked by hand. No program text is named here. -/
set_option linter.unusedVariables false
set_option linter.unusedSimpArgs false
set_option linter.unnecessarySimpa false
namespace Go.Proofs.YtfkjjnddefojjaaGreatDoor.D
open Go.RowKit Go.Shelf
theorem own_new {I : Hp} {w0 w : World} {cs : List Ch} {α : Type} {E : TypeId} {enc : α → Value} {h1 : ∀ a, (enc a).oneCell' = true} {b : Nat} {xs : List α} (hl : xs.length ≤ lim) (h : St I w0 w (Ch.blk b (xs.map enc) E :: cs)) : St I w0 w (Ch.own (rSlice E (rFlat α enc h1)) [.slice (some ⟨b, 0, none⟩) xs.length xs.length] xs :: cs) := by
  obtain ⟨hb, hi, F, ⟨G, K, rfl, ⟨rfl, hg⟩, e⟩, h4, h5⟩ := h
  refine ⟨hb, hi, [b] ++ K, ⟨[b], K, rfl, ⟨hl, .inr ⟨b, 0, xs.length, _, [], rfl, hg, Nat.le_refl _, hl, ?_, rfl, ?_⟩⟩, e⟩, h4, h5⟩
  · show 0 + xs.length * 1 ≤ _
    simp
  · refine ownEls_flat.2 ⟨rfl, [], ?_⟩
    simp
end Go.Proofs.YtfkjjnddefojjaaGreatDoor.D
namespace Go.Proofs.YtfkjjnddefojjaaGreatDoor.R
open Go.RowKit Go.Shelf Go.Sort
open Go.Proofs.YtfkjjnddefojjaaGreatDoor.D
def splitS (s sep : ByteArray) : Option (List ByteArray) := (chk (s.size < 4294967281 ∧ 1 ≤ sep.size)).bind fun _ => some (Lib.splitB sep 0 (Lib.countB s sep) s)
def cutS (s sep : ByteArray) : Option (ByteArray × ByteArray × Bool) := (chk (s.size < 4294967281)).bind fun _ => some (⟨(Lib.cut s.data.toList sep.data.toList).1.toArray⟩, ⟨(Lib.cut s.data.toList sep.data.toList).2.1.toArray⟩, (Lib.cut s.data.toList sep.data.toList).2.2)
def indexByteS (s : ByteArray) (c : Int) : Option Int := some (Lib.indexByte s.data.toList c.toNat.toUInt8)
def parseIntS (s : ByteArray) : Option (Int × Bool) :=
  if 10 < s.size then some (0, false) else
  match Lib.atoi s.data.toList with
  | none => some (0, false)
  | some n => if (⟨(Lib.itoa n).toArray⟩ : ByteArray) = s ∧ -999999999 ≤ n ∧ n ≤ 999999999 then some (n, true) else some (0, false)
section
variable {P : Program} {ρ : Ren}
theorem fok_split (L : Lays.n146 P ρ) (hi9 : (P.info? (ρ.t 9)).map (fun i => (i.zero, i.size, i.bytes)) = some (some (.string ByteArray.empty), 1, 16)) (m1 : P.globalNamed "internal/bytealg.MaxLen" = some (ρ.g 1)) (en : Enters P (ρ.f 146)) : FOk P (ρ.f 146) ⟨[.rd .str, .rd .str], [.sl (ρ.t 9) .str], fun s sep => splitS s sep, none⟩ := by
  refine ⟨fun q hq => (by cases hq), fun _ => en, fun _ w0 J γ vs d r hlay ha happ => ?_⟩
  obtain ⟨v, vs1, rfl, ⟨c1, l1, r1⟩, v2, vs2, rfl, ⟨c2, l2, r2⟩, hnil⟩ := ha
  obtain rfl : vs2 = [] := hnil
  obtain ⟨s0, sep0, un⟩ := d
  let s : ByteArray := s0
  let sep : ByteArray := sep0
  obtain rfl : c1 = [v] := l1
  obtain rfl : c2 = [v2] := l2
  obtain rfl : v = .string s := (List.cons.inj r1).1
  obtain rfl : v2 = .string sep := (List.cons.inj r2).1
  obtain ⟨u1, hc, hz⟩ := Option.bind_eq_some_iff.1 (show splitS s sep = some r from happ)
  have hc := chk_some hc
  obtain rfl := Option.some.inj hz
  intro w C hst
  have hst : St J w0 w C := hst
  obtain ⟨g, m, hg, hm⟩ := (hlay w hst.2.1).len
  obtain rfl := Option.some.inj (m1.symm.trans hg)
  refine (Any.strings_Split L hi9 s sep m w hc.1 hm hc.2).mono ?_
  rintro e w' ⟨rfl, rfl⟩
  refine ⟨_, rfl, rfl, ?_⟩
  have hlen : (Lib.splitB sep 0 (Lib.countB s sep) s).length = Lib.countB s sep + 1 := Lib.splitB_all sep hc.2 0 _ s rfl
  have hle := Lib.countB_le sep hc.2 s.size s (Nat.le_refl _)
  have h3 := D.own_new (E := ρ.t 9) (enc := Value.string) (h1 := fun _ => rfl) (b := w.heap.size) (xs := Lib.splitB sep 0 (Lib.countB s sep) s) (by rw [hlen]; have : lim = 9223372036854775807 := rfl; omega) (hst.alloc _ _)
  rw [hlen] at h3
  exact h3
theorem fok_cut (L : Lays.n145 P ρ) (m1 : P.globalNamed "internal/bytealg.MaxLen" = some (ρ.g 1)) (en : Enters P (ρ.f 145)) : FOk P (ρ.f 145) ⟨[.rd .str, .rd .str], [.str, .str, .bool], fun s sep => cutS s sep, none⟩ := by
  refine ⟨fun q hq => (by cases hq), fun _ => en, fun _ w0 J γ vs d r hlay ha happ => ?_⟩
  obtain ⟨v, vs1, rfl, ⟨c1, l1, r1⟩, v2, vs2, rfl, ⟨c2, l2, r2⟩, hnil⟩ := ha
  obtain rfl : vs2 = [] := hnil
  obtain ⟨s0, sep0, un⟩ := d
  let s : ByteArray := s0
  let sep : ByteArray := sep0
  obtain rfl : c1 = [v] := l1
  obtain rfl : c2 = [v2] := l2
  obtain rfl : v = .string s := (List.cons.inj r1).1
  obtain rfl : v2 = .string sep := (List.cons.inj r2).1
  obtain ⟨u1, hc, hz⟩ := Option.bind_eq_some_iff.1 (show cutS s sep = some r from happ)
  have hc := chk_some hc
  obtain rfl := Option.some.inj hz
  intro w C hst
  have hst : St J w0 w C := hst
  obtain ⟨g, m, hg, hm⟩ := (hlay w hst.2.1).len
  obtain rfl := Option.some.inj (m1.symm.trans hg)
  refine (Any.strings_Cut L s sep m w hc hm).mono ?_
  rintro e w' ⟨rfl, n, rfl⟩
  refine ⟨_, rfl, ⟨_, rfl, rfl, fun i t ht => ?_⟩, ?_⟩
  · rcases i with _ | _ | _ | i
    all_goals first | (obtain rfl := Option.some.inj ht; rfl) | cases ht
  · have hw : St J w0 (w.drewN n) C := hst.drawn rfl rfl rfl rfl
    exact D.St.free (R := rStr) (c := [.string _]) (D.St.free (R := rStr) (c := [.string _]) (D.St.free (R := rBool) (c := [.bool _]) hw ⟨rfl, rfl⟩) ⟨rfl, rfl⟩) ⟨rfl, rfl⟩
theorem fok_indexByte (L : Lays.n137 P ρ) (en : Enters P (ρ.f 137)) : FOk P (ρ.f 137) ⟨[.rd .str, .rd (.int .u8)], [.int .i64], fun s c => indexByteS s c, none⟩ := by
  refine ⟨fun q hq => (by cases hq), fun _ => en, fun _ w0 J γ vs d r hlay ha happ => ?_⟩
  obtain ⟨v, vs1, rfl, ⟨c1, l1, r1⟩, v2, vs2, rfl, ⟨c2, l2, r2⟩, hnil⟩ := ha
  obtain rfl : vs2 = [] := hnil
  obtain ⟨s0, c0, un⟩ := d
  let s : ByteArray := s0
  let c : Int := c0
  obtain rfl : c1 = [v] := l1
  obtain rfl : c2 = [v2] := l2
  obtain rfl : v = .string s := (List.cons.inj r1).1
  obtain rfl : v2 = .int .u8 c := (List.cons.inj r2).1
  obtain rfl := Option.some.inj (show indexByteS s c = some r from happ)
  intro w C hst
  have hst : St J w0 w C := hst
  refine (Any.strings_IndexByte L s c w).mono ?_
  rintro e w' ⟨rfl, rfl⟩
  exact ⟨_, rfl, rfl, D.St.free (R := rInt) (c := [.int .i64 _]) hst ⟨rfl, rfl⟩⟩
theorem row_bag {α : Type} {E : TypeId} {R : Rep α} {I : Hp} {w0 w : World} {v : List Value} {xs : List α} {C : List Ch} (h : St I w0 w (Ch.own (rSlice E R) v xs :: C)) : St I w0 w (Ch.own (rSlice E (rBag R)) v xs :: C) := by
  obtain ⟨hb, hi, F, ⟨G, K, rfl, ⟨hl, e2⟩, e3⟩, h4, h5⟩ := h
  rcases e2 with ⟨rfl, rfl, rfl⟩ | ⟨g, ofs, cap, cur, K1, hv, k1, k2, k3, k4, k6, k5⟩
  · exact ⟨hb, hi, _, ⟨_, K, rfl, ⟨hl, .inl ⟨rfl, rfl, rfl⟩⟩, e3⟩, h4, h5⟩
  · exact ⟨hb, hi, _, ⟨_, K, rfl, ⟨hl, .inr ⟨g, ofs, cap, cur, K1, hv, k1, k2, k3, k4, k6, OwnEls.turn (R := R) (S := rBag R) rfl (fun c x G hx => bag_own hx) k5⟩⟩, e3⟩, h4, h5⟩
theorem fok_bag3 {P : Program} {k : FuncId} {ps : List PM} {A B t : Ty} {E : TypeId} {m : curP ps (Option (dens ([A, .sl E t, B] ++ outs ps)))} (h : FOk P k ⟨ps, [A, .sl E t, B], m, none⟩) : FOk P k ⟨ps, [A, .sl E (.bag t), B], m, none⟩ := by
  refine ⟨fun q hq => (by cases hq), fun hq => h.en hq, fun _ w0 J γ vs d r hlay ha happ => ?_⟩
  refine (h.con rfl w0 J γ vs d r hlay ha happ).imp (fun v hv => ?_) (fun v _ w C hs => ?_)
  · obtain ⟨us, rfl, h1, h2⟩ := hv
    refine ⟨us, rfl, h1, fun i u hu => ?_⟩
    rcases i with _ | _ | _ | i
    · obtain rfl := Option.some.inj hu; exact h2 0 _ rfl
    · obtain rfl := Option.some.inj hu; exact h2 1 (.sl E t) rfl
    · obtain rfl := Option.some.inj hu; exact h2 2 _ rfl
    · cases hu
  · exact ((row_bag (hs.perm (List.Perm.swap ..))).perm (List.Perm.swap ..))
theorem fok_parse {k : FuncId} {m : ByteArray → Option (Int × Bool)} (en : Enters P k) (h : ∀ s r w, m s = some r → LayW P w → Calls P k #[.string s] w fun e w' => e = .returned (.tuple #[.int .i64 r.1, .bool r.2]) ∧ Below w.heap.size w w') : FOk P k ⟨[.rd .str], [.int .i64, .bool], fun s => m s, none⟩ := by
  refine ⟨fun q hq => (by cases hq), fun _ => en, fun _ w0 J γ vs d r hlay ha happ => ?_⟩
  obtain ⟨v, vs1, rfl, ⟨c1, l1, r1⟩, hnil⟩ := ha
  obtain rfl : vs1 = [] := hnil
  obtain ⟨s0, un⟩ := d
  let s : ByteArray := s0
  obtain rfl : c1 = [v] := l1
  obtain rfl : v = .string s := (List.cons.inj r1).1
  intro w C hst
  have hst : St J w0 w C := hst
  refine (h s r w happ (hlay w hst.2.1)).mono ?_
  rintro e w' ⟨rfl, hb⟩
  refine ⟨_, rfl, ⟨_, rfl, rfl, fun i t ht => ?_⟩, ?_⟩
  · rcases i with _ | _ | i
    all_goals first | (obtain rfl := Option.some.inj ht; rfl) | cases ht
  · exact D.St.free (R := rInt) (c := [.int .i64 _]) (D.St.free (R := rBool) (c := [.bool _]) (St.belowS hst hb) ⟨rfl, rfl⟩) ⟨rfl, rfl⟩
end
end Go.Proofs.YtfkjjnddefojjaaGreatDoor.R
/- The shelf's functions on strings laid at this program. -/
namespace Go.Proofs.YtfkjjnddefojjaaGreatDoor.R
open Go.Shelf
def laysJoin_ren : Go.Shelf.Ren := ⟨fun | 156 => 107 | 165 => 121 | 166 => 122 | 169 => 123 | 240 => 136 | 241 => 137 | 276 => 146 | 277 => 147 | n => n, fun | 31 => 78 | 9 => 9 | 3 => 3 | 4 => 4 | 0 => 0 | 20 => 20 | 72 => 136 | 76 => 113 | 70 => 134 | 37 => 108 | 75 => 112 | 127 => 154 | 164 => 171 | 5 => 5 | 80 => 138 | n => n, fun | n => n⟩
theorem laysJoin : Go.Proofs.Lays.n156 Tryz.prog laysJoin_ren := {
  mixed := by kernel_rfl
  f156 := Tryz.func107.trans (congrArg some (by kernel_rfl))
  f165 := Tryz.func121.trans (congrArg some (by kernel_rfl))
  f166 := Tryz.func122.trans (congrArg some (by kernel_rfl))
  f169 := Tryz.func123.trans (congrArg some (by kernel_rfl))
  f240 := Tryz.func136.trans (congrArg some (by kernel_rfl))
  f241 := Tryz.func137.trans (congrArg some (by kernel_rfl))
  f276 := Tryz.func146.trans (congrArg some (by kernel_rfl))
  f277 := Tryz.func147.trans (congrArg some (by kernel_rfl))
  t0 := Tryz.underlying0
  a0 := Tryz.isAgg0
  z0 := Tryz.sizeOf0
  v0 := Tryz.zeroValue0
  t3 := Tryz.underlying3
  a3 := Tryz.isAgg3
  z3 := Tryz.sizeOf3
  v3 := Tryz.zeroValue3
  t4 := Tryz.underlying4
  a4 := Tryz.isAgg4
  z4 := Tryz.sizeOf4
  v4 := Tryz.zeroValue4
  t9 := Tryz.underlying9
  a9 := Tryz.isAgg9
  z9 := Tryz.sizeOf9
  v9 := Tryz.zeroValue9
  t20 := Tryz.underlying20
  a20 := Tryz.isAgg20
  z20 := Tryz.sizeOf20
  v20 := Tryz.zeroValue20
  t31 := Tryz.underlying78
  a31 := Tryz.isAgg78
  z31 := Tryz.sizeOf78
  v31 := Tryz.zeroValue78
  t37 := Tryz.underlying108
  a37 := Tryz.isAgg108
  z37 := Tryz.sizeOf108
  v37 := Tryz.zeroValue108
  t70 := Tryz.underlying134
  a70 := Tryz.isAgg134
  z70 := Tryz.sizeOf134
  v70 := Tryz.zeroValue134
  t72 := Tryz.underlying136
  a72 := Tryz.isAgg136
  z72 := Tryz.sizeOf136
  v72 := Tryz.zeroValue136
  t75 := Tryz.underlying112
  a75 := Tryz.isAgg112
  z75 := Tryz.sizeOf112
  v75 := Tryz.zeroValue112
  t76 := Tryz.underlying113
  a76 := Tryz.isAgg113
  z76 := Tryz.sizeOf113
  v76 := Tryz.zeroValue113
  t127 := Tryz.underlying154
  a127 := Tryz.isAgg154
  z127 := Tryz.sizeOf154
  v127 := Tryz.zeroValue154
  t164 := Tryz.underlying171
  a164 := Tryz.isAgg171
  z164 := Tryz.sizeOf171
  v164 := Tryz.zeroValue171 }
def laysItoa_ren : Go.Shelf.Ren := ⟨fun | 171 => 89 | 243 => 104 | 246 => 119 | 283 => 132 | 284 => 133 | 285 => 134 | 286 => 135 | 129 => 142 | 317 => 141 | 318 => 143 | 319 => 144 | 320 => 145 | 337 => 148 | 338 => 149 | n => n, fun | 3 => 3 | 9 => 9 | 2 => 2 | 4 => 4 | 171 => 149 | 0 => 0 | 53 => 142 | 37 => 108 | 5 => 5 | 173 => 152 | 212 => 168 | 51 => 159 | 20 => 20 | 213 => 169 | 46 => 141 | 232 => 175 | 233 => 176 | n => n, fun | 17 => 5 | 18 => 6 | 19 => 7 | n => n⟩
theorem laysItoa : Go.Proofs.LaysM.n171 Tryz.prog laysItoa_ren := {
  mixed := by kernel_rfl
  f129 := Tryz.func142.trans (congrArg some (by kernel_rfl))
  f171 := Tryz.func89.trans (congrArg some (by kernel_rfl))
  f243 := Tryz.func104.trans (congrArg some (by kernel_rfl))
  f246 := Tryz.func119.trans (congrArg some (by kernel_rfl))
  f283 := Tryz.func132.trans (congrArg some (by kernel_rfl))
  f284 := Tryz.func133.trans (congrArg some (by kernel_rfl))
  f285 := Tryz.func134.trans (congrArg some (by kernel_rfl))
  f286 := Tryz.func135.trans (congrArg some (by kernel_rfl))
  f317 := Tryz.func141.trans (congrArg some (by kernel_rfl))
  f318 := Tryz.func143.trans (congrArg some (by kernel_rfl))
  f319 := Tryz.func144.trans (congrArg some (by kernel_rfl))
  f320 := Tryz.func145.trans (congrArg some (by kernel_rfl))
  f337 := Tryz.func148.trans (congrArg some (by kernel_rfl))
  f338 := Tryz.func149.trans (congrArg some (by kernel_rfl))
  t0 := Tryz.underlying0
  a0 := Tryz.isAgg0
  z0 := Tryz.sizeOf0
  v0 := Tryz.zeroValue0
  t2 := Tryz.underlying2
  a2 := Tryz.isAgg2
  z2 := Tryz.sizeOf2
  v2 := Tryz.zeroValue2
  t3 := Tryz.underlying3
  a3 := Tryz.isAgg3
  z3 := Tryz.sizeOf3
  v3 := Tryz.zeroValue3
  t4 := Tryz.underlying4
  a4 := Tryz.isAgg4
  z4 := Tryz.sizeOf4
  v4 := Tryz.zeroValue4
  t5 := Tryz.underlying5
  a5 := Tryz.isAgg5
  z5 := Tryz.sizeOf5
  v5 := Tryz.zeroValue5
  t9 := Tryz.underlying9
  a9 := Tryz.isAgg9
  z9 := Tryz.sizeOf9
  v9 := Tryz.zeroValue9
  t20 := Tryz.underlying20
  a20 := Tryz.isAgg20
  z20 := Tryz.sizeOf20
  v20 := Tryz.zeroValue20
  t37 := Tryz.underlying108
  a37 := Tryz.isAgg108
  z37 := Tryz.sizeOf108
  v37 := Tryz.zeroValue108
  t46 := Tryz.underlying141
  a46 := Tryz.isAgg141
  z46 := Tryz.sizeOf141
  v46 := Tryz.zeroValue141
  t51 := Tryz.underlying159
  a51 := Tryz.isAgg159
  z51 := Tryz.sizeOf159
  v51 := Tryz.zeroValue159
  t53 := Tryz.underlying142
  a53 := Tryz.isAgg142
  z53 := Tryz.sizeOf142
  v53 := Tryz.zeroValue142
  t171 := Tryz.underlying149
  a171 := Tryz.isAgg149
  z171 := Tryz.sizeOf149
  v171 := Tryz.zeroValue149
  t173 := Tryz.underlying152
  a173 := Tryz.isAgg152
  z173 := Tryz.sizeOf152
  v173 := Tryz.zeroValue152
  t212 := Tryz.underlying168
  a212 := Tryz.isAgg168
  z212 := Tryz.sizeOf168
  v212 := Tryz.zeroValue168
  t213 := Tryz.underlying169
  a213 := Tryz.isAgg169
  z213 := Tryz.sizeOf169
  t232 := Tryz.underlying175
  a232 := Tryz.isAgg175
  z232 := Tryz.sizeOf175
  v232 := Tryz.zeroValue175
  t233 := Tryz.underlying176
  a233 := Tryz.isAgg176
  z233 := Tryz.sizeOf176
  v233 := Tryz.zeroValue176
  g17 := by kernel_rfl
  g18 := by kernel_rfl
  g19 := by kernel_rfl
  i0 := by kernel_rfl
  i2 := by kernel_rfl
  i3 := by kernel_rfl
  i4 := by kernel_rfl
  i5 := by kernel_rfl
  i9 := by kernel_rfl
  i20 := by kernel_rfl
  i37 := by kernel_rfl
  i46 := by kernel_rfl
  i51 := by kernel_rfl
  i53 := by kernel_rfl
  i171 := by kernel_rfl
  i173 := by kernel_rfl
  i212 := by kernel_rfl
  i232 := by kernel_rfl
  i233 := by kernel_rfl
  m17 := by kernel_rfl
  m18 := by kernel_rfl
  m19 := by kernel_rfl }
def laysSplit_ren : Go.Shelf.Ren := ⟨fun | 146 => 75 | 221 => 87 | 268 => 99 | 138 => 100 | 143 => 101 | 195 => 110 | 197 => 111 | 218 => 112 | 219 => 113 | 260 => 125 | 217 => 74 | 225 => 126 | 224 => 127 | 267 => 128 | 266 => 86 | 314 => 138 | n => n, fun | 9 => 9 | 31 => 78 | 3 => 3 | 4 => 4 | 0 => 0 | 105 => 125 | 21 => 21 | 5 => 5 | 46 => 141 | 119 => 155 | 139 => 158 | 138 => 157 | 146 => 160 | 51 => 159 | n => n, fun | 1 => 0 | 3 => 3 | 4 => 4 | n => n⟩
theorem laysSplit : Go.Proofs.Lays.n146 Tryz.prog laysSplit_ren := {
  mixed := by kernel_rfl
  f138 := Tryz.func100.trans (congrArg some (by kernel_rfl))
  f143 := Tryz.func101.trans (congrArg some (by kernel_rfl))
  f146 := Tryz.func75.trans (congrArg some (by kernel_rfl))
  f195 := Tryz.func110.trans (congrArg some (by kernel_rfl))
  f197 := Tryz.func111.trans (congrArg some (by kernel_rfl))
  f217 := Tryz.func74.trans (congrArg some (by kernel_rfl))
  f218 := Tryz.func112.trans (congrArg some (by kernel_rfl))
  f219 := Tryz.func113.trans (congrArg some (by kernel_rfl))
  f221 := Tryz.func87.trans (congrArg some (by kernel_rfl))
  f224 := Tryz.func127.trans (congrArg some (by kernel_rfl))
  f225 := Tryz.func126.trans (congrArg some (by kernel_rfl))
  f260 := Tryz.func125.trans (congrArg some (by kernel_rfl))
  f266 := Tryz.func86.trans (congrArg some (by kernel_rfl))
  f267 := Tryz.func128.trans (congrArg some (by kernel_rfl))
  f268 := Tryz.func99.trans (congrArg some (by kernel_rfl))
  f314 := Tryz.func138.trans (congrArg some (by kernel_rfl))
  t0 := Tryz.underlying0
  a0 := Tryz.isAgg0
  z0 := Tryz.sizeOf0
  v0 := Tryz.zeroValue0
  t3 := Tryz.underlying3
  a3 := Tryz.isAgg3
  z3 := Tryz.sizeOf3
  v3 := Tryz.zeroValue3
  t4 := Tryz.underlying4
  a4 := Tryz.isAgg4
  z4 := Tryz.sizeOf4
  v4 := Tryz.zeroValue4
  t5 := Tryz.underlying5
  a5 := Tryz.isAgg5
  z5 := Tryz.sizeOf5
  v5 := Tryz.zeroValue5
  t9 := Tryz.underlying9
  a9 := Tryz.isAgg9
  z9 := Tryz.sizeOf9
  v9 := Tryz.zeroValue9
  t21 := Tryz.underlying21
  a21 := Tryz.isAgg21
  z21 := Tryz.sizeOf21
  v21 := Tryz.zeroValue21
  t31 := Tryz.underlying78
  a31 := Tryz.isAgg78
  z31 := Tryz.sizeOf78
  v31 := Tryz.zeroValue78
  t46 := Tryz.underlying141
  a46 := Tryz.isAgg141
  z46 := Tryz.sizeOf141
  v46 := Tryz.zeroValue141
  t51 := Tryz.underlying159
  a51 := Tryz.isAgg159
  z51 := Tryz.sizeOf159
  v51 := Tryz.zeroValue159
  t105 := Tryz.underlying125
  a105 := Tryz.isAgg125
  z105 := Tryz.sizeOf125
  v105 := Tryz.zeroValue125
  t119 := Tryz.underlying155
  a119 := Tryz.isAgg155
  z119 := Tryz.sizeOf155
  t138 := Tryz.underlying157
  a138 := Tryz.isAgg157
  z138 := Tryz.sizeOf157
  v138 := Tryz.zeroValue157
  t139 := Tryz.underlying158
  a139 := Tryz.isAgg158
  z139 := Tryz.sizeOf158
  v139 := Tryz.zeroValue158
  t146 := Tryz.underlying160
  a146 := Tryz.isAgg160
  z146 := Tryz.sizeOf160
  v146 := Tryz.zeroValue160
  g1 := by kernel_rfl
  g3 := by kernel_rfl
  g4 := by kernel_rfl }
def laysCut_ren : Go.Shelf.Ren := ⟨fun | 145 => 105 | 220 => 120 | 219 => 113 | 217 => 74 | 225 => 126 | 224 => 127 | 267 => 128 | 266 => 86 | 314 => 138 | n => n, fun | 9 => 9 | 4 => 4 | 59 => 121 | 3 => 3 | 5 => 5 | 46 => 141 | 146 => 160 | 51 => 159 | n => n, fun | 1 => 0 | n => n⟩
theorem laysCut : Go.Proofs.Lays.n145 Tryz.prog laysCut_ren := {
  mixed := by kernel_rfl
  f145 := Tryz.func105.trans (congrArg some (by kernel_rfl))
  f217 := Tryz.func74.trans (congrArg some (by kernel_rfl))
  f219 := Tryz.func113.trans (congrArg some (by kernel_rfl))
  f220 := Tryz.func120.trans (congrArg some (by kernel_rfl))
  f224 := Tryz.func127.trans (congrArg some (by kernel_rfl))
  f225 := Tryz.func126.trans (congrArg some (by kernel_rfl))
  f266 := Tryz.func86.trans (congrArg some (by kernel_rfl))
  f267 := Tryz.func128.trans (congrArg some (by kernel_rfl))
  f314 := Tryz.func138.trans (congrArg some (by kernel_rfl))
  t3 := Tryz.underlying3
  a3 := Tryz.isAgg3
  z3 := Tryz.sizeOf3
  v3 := Tryz.zeroValue3
  t4 := Tryz.underlying4
  a4 := Tryz.isAgg4
  z4 := Tryz.sizeOf4
  v4 := Tryz.zeroValue4
  t5 := Tryz.underlying5
  a5 := Tryz.isAgg5
  z5 := Tryz.sizeOf5
  v5 := Tryz.zeroValue5
  t9 := Tryz.underlying9
  a9 := Tryz.isAgg9
  z9 := Tryz.sizeOf9
  v9 := Tryz.zeroValue9
  t46 := Tryz.underlying141
  a46 := Tryz.isAgg141
  z46 := Tryz.sizeOf141
  v46 := Tryz.zeroValue141
  t51 := Tryz.underlying159
  a51 := Tryz.isAgg159
  z51 := Tryz.sizeOf159
  v51 := Tryz.zeroValue159
  t59 := Tryz.underlying121
  a59 := Tryz.isAgg121
  z59 := Tryz.sizeOf121
  v59 := Tryz.zeroValue121
  t146 := Tryz.underlying160
  a146 := Tryz.isAgg160
  z146 := Tryz.sizeOf160
  v146 := Tryz.zeroValue160
  g1 := by kernel_rfl }
def laysIndexByte_ren : Go.Shelf.Ren := ⟨fun | 137 => 59 | 217 => 74 | 266 => 86 | n => n, fun | 9 => 9 | 5 => 5 | 3 => 3 | n => n, fun | n => n⟩
theorem laysIndexByte : Go.Proofs.Lays.n137 Tryz.prog laysIndexByte_ren := {
  mixed := by kernel_rfl
  f137 := Tryz.func59.trans (congrArg some (by kernel_rfl))
  f217 := Tryz.func74.trans (congrArg some (by kernel_rfl))
  f266 := Tryz.func86.trans (congrArg some (by kernel_rfl))
  t3 := Tryz.underlying3
  a3 := Tryz.isAgg3
  z3 := Tryz.sizeOf3
  v3 := Tryz.zeroValue3
  t5 := Tryz.underlying5
  a5 := Tryz.isAgg5
  z5 := Tryz.sizeOf5
  v5 := Tryz.zeroValue5
  t9 := Tryz.underlying9
  a9 := Tryz.isAgg9
  z9 := Tryz.sizeOf9
  v9 := Tryz.zeroValue9 }
def laysAtoi_ren : Go.Shelf.Ren := ⟨fun | 172 => 88 | 244 => 102 | 245 => 103 | 247 => 114 | 279 => 115 | 280 => 116 | 281 => 117 | 282 => 118 | 287 => 129 | 316 => 130 | 171 => 89 | 205 => 131 | 321 => 139 | 322 => 140 | 243 => 104 | 246 => 119 | 283 => 132 | 284 => 133 | 285 => 134 | 286 => 135 | 129 => 142 | 317 => 141 | 318 => 143 | 319 => 144 | 320 => 145 | 337 => 148 | 338 => 149 | n => n, fun | 9 => 9 | 3 => 3 | 75 => 112 | 76 => 113 | 4 => 4 | 5 => 5 | 167 => 127 | 37 => 108 | 0 => 0 | 85 => 128 | 2 => 2 | 168 => 130 | 53 => 142 | 175 => 143 | 46 => 141 | 210 => 147 | 127 => 154 | 145 => 166 | 143 => 164 | 21 => 21 | 171 => 149 | 173 => 152 | 212 => 168 | 51 => 159 | 20 => 20 | 213 => 169 | 232 => 175 | 233 => 176 | 80 => 138 | n => n, fun | 15 => 1 | 16 => 2 | 17 => 5 | 18 => 6 | 19 => 7 | n => n⟩
theorem laysAtoi : Go.Proofs.LaysC.n172 Tryz.prog laysAtoi_ren := {
  mixed := by kernel_rfl
  f129 := Tryz.func142.trans (congrArg some (by kernel_rfl))
  f171 := Tryz.func89.trans (congrArg some (by kernel_rfl))
  f172 := Tryz.func88.trans (congrArg some (by kernel_rfl))
  f205 := Tryz.func131.trans (congrArg some (by kernel_rfl))
  f243 := Tryz.func104.trans (congrArg some (by kernel_rfl))
  f244 := Tryz.func102.trans (congrArg some (by kernel_rfl))
  f245 := Tryz.func103.trans (congrArg some (by kernel_rfl))
  f246 := Tryz.func119.trans (congrArg some (by kernel_rfl))
  f247 := Tryz.func114.trans (congrArg some (by kernel_rfl))
  f279 := Tryz.func115.trans (congrArg some (by kernel_rfl))
  f280 := Tryz.func116.trans (congrArg some (by kernel_rfl))
  f281 := Tryz.func117.trans (congrArg some (by kernel_rfl))
  f282 := Tryz.func118.trans (congrArg some (by kernel_rfl))
  f283 := Tryz.func132.trans (congrArg some (by kernel_rfl))
  f284 := Tryz.func133.trans (congrArg some (by kernel_rfl))
  f285 := Tryz.func134.trans (congrArg some (by kernel_rfl))
  f286 := Tryz.func135.trans (congrArg some (by kernel_rfl))
  f287 := Tryz.func129.trans (congrArg some (by kernel_rfl))
  f316 := Tryz.func130.trans (congrArg some (by kernel_rfl))
  f317 := Tryz.func141.trans (congrArg some (by kernel_rfl))
  f318 := Tryz.func143.trans (congrArg some (by kernel_rfl))
  f319 := Tryz.func144.trans (congrArg some (by kernel_rfl))
  f320 := Tryz.func145.trans (congrArg some (by kernel_rfl))
  f321 := Tryz.func139.trans (congrArg some (by kernel_rfl))
  f322 := Tryz.func140.trans (congrArg some (by kernel_rfl))
  f337 := Tryz.func148.trans (congrArg some (by kernel_rfl))
  f338 := Tryz.func149.trans (congrArg some (by kernel_rfl))
  t0 := Tryz.underlying0
  a0 := Tryz.isAgg0
  z0 := Tryz.sizeOf0
  v0 := Tryz.zeroValue0
  t2 := Tryz.underlying2
  a2 := Tryz.isAgg2
  z2 := Tryz.sizeOf2
  v2 := Tryz.zeroValue2
  t3 := Tryz.underlying3
  a3 := Tryz.isAgg3
  z3 := Tryz.sizeOf3
  v3 := Tryz.zeroValue3
  t4 := Tryz.underlying4
  a4 := Tryz.isAgg4
  z4 := Tryz.sizeOf4
  v4 := Tryz.zeroValue4
  t5 := Tryz.underlying5
  a5 := Tryz.isAgg5
  z5 := Tryz.sizeOf5
  v5 := Tryz.zeroValue5
  t9 := Tryz.underlying9
  a9 := Tryz.isAgg9
  z9 := Tryz.sizeOf9
  v9 := Tryz.zeroValue9
  t20 := Tryz.underlying20
  a20 := Tryz.isAgg20
  z20 := Tryz.sizeOf20
  v20 := Tryz.zeroValue20
  t21 := Tryz.underlying21
  a21 := Tryz.isAgg21
  z21 := Tryz.sizeOf21
  v21 := Tryz.zeroValue21
  t37 := Tryz.underlying108
  a37 := Tryz.isAgg108
  z37 := Tryz.sizeOf108
  v37 := Tryz.zeroValue108
  t46 := Tryz.underlying141
  a46 := Tryz.isAgg141
  z46 := Tryz.sizeOf141
  v46 := Tryz.zeroValue141
  t51 := Tryz.underlying159
  a51 := Tryz.isAgg159
  z51 := Tryz.sizeOf159
  v51 := Tryz.zeroValue159
  t53 := Tryz.underlying142
  a53 := Tryz.isAgg142
  z53 := Tryz.sizeOf142
  v53 := Tryz.zeroValue142
  t75 := Tryz.underlying112
  a75 := Tryz.isAgg112
  z75 := Tryz.sizeOf112
  v75 := Tryz.zeroValue112
  t76 := Tryz.underlying113
  a76 := Tryz.isAgg113
  z76 := Tryz.sizeOf113
  v76 := Tryz.zeroValue113
  t85 := Tryz.underlying128
  a85 := Tryz.isAgg128
  z85 := Tryz.sizeOf128
  v85 := Tryz.zeroValue128
  t127 := Tryz.underlying154
  a127 := Tryz.isAgg154
  z127 := Tryz.sizeOf154
  v127 := Tryz.zeroValue154
  t143 := Tryz.underlying164
  a143 := Tryz.isAgg164
  z143 := Tryz.sizeOf164
  v143 := Tryz.zeroValue164
  t145 := Tryz.underlying166
  a145 := Tryz.isAgg166
  z145 := Tryz.sizeOf166
  v145 := Tryz.zeroValue166
  t167 := Tryz.underlying127
  a167 := Tryz.isAgg127
  z167 := Tryz.sizeOf127
  v167 := Tryz.zeroValue127
  t168 := Tryz.underlying130
  a168 := Tryz.isAgg130
  z168 := Tryz.sizeOf130
  v168 := Tryz.zeroValue130
  t171 := Tryz.underlying149
  a171 := Tryz.isAgg149
  z171 := Tryz.sizeOf149
  v171 := Tryz.zeroValue149
  t173 := Tryz.underlying152
  a173 := Tryz.isAgg152
  z173 := Tryz.sizeOf152
  v173 := Tryz.zeroValue152
  t175 := Tryz.underlying143
  a175 := Tryz.isAgg143
  z175 := Tryz.sizeOf143
  v175 := Tryz.zeroValue143
  t210 := Tryz.underlying147
  a210 := Tryz.isAgg147
  z210 := Tryz.sizeOf147
  v210 := Tryz.zeroValue147
  t212 := Tryz.underlying168
  a212 := Tryz.isAgg168
  z212 := Tryz.sizeOf168
  v212 := Tryz.zeroValue168
  t213 := Tryz.underlying169
  a213 := Tryz.isAgg169
  z213 := Tryz.sizeOf169
  t232 := Tryz.underlying175
  a232 := Tryz.isAgg175
  z232 := Tryz.sizeOf175
  v232 := Tryz.zeroValue175
  t233 := Tryz.underlying176
  a233 := Tryz.isAgg176
  z233 := Tryz.sizeOf176
  v233 := Tryz.zeroValue176
  g15 := by kernel_rfl
  g16 := by kernel_rfl
  g17 := by kernel_rfl
  g18 := by kernel_rfl
  g19 := by kernel_rfl
  t80 := Tryz.underlying138
  a80 := Tryz.isAgg138
  z80 := Tryz.sizeOf138
  v80 := Tryz.zeroValue138
  i0 := by kernel_rfl
  i2 := by kernel_rfl
  i3 := by kernel_rfl
  i4 := by kernel_rfl
  i5 := by kernel_rfl
  i9 := by kernel_rfl
  i20 := by kernel_rfl
  i21 := by kernel_rfl
  i37 := by kernel_rfl
  i46 := by kernel_rfl
  i51 := by kernel_rfl
  i53 := by kernel_rfl
  i75 := by kernel_rfl
  i76 := by kernel_rfl
  i80 := by kernel_rfl
  i85 := by kernel_rfl
  i127 := by kernel_rfl
  i143 := by kernel_rfl
  i145 := by kernel_rfl
  i167 := by kernel_rfl
  i168 := by kernel_rfl
  i171 := by kernel_rfl
  i173 := by kernel_rfl
  i175 := by kernel_rfl
  i210 := by kernel_rfl
  i212 := by kernel_rfl
  i232 := by kernel_rfl
  i233 := by kernel_rfl
  m15 := by kernel_rfl
  m16 := by kernel_rfl
  m17 := by kernel_rfl
  m18 := by kernel_rfl
  m19 := by kernel_rfl
  c0 := by kernel_rfl
  c2 := by kernel_rfl
  c3 := by kernel_rfl
  c4 := by kernel_rfl
  c5 := by kernel_rfl
  c9 := by kernel_rfl
  c20 := by kernel_rfl
  c21 := by kernel_rfl
  c37 := by kernel_rfl
  c46 := by kernel_rfl
  c51 := by kernel_rfl
  c53 := by kernel_rfl
  c75 := by kernel_rfl
  c76 := by kernel_rfl
  c80 := by kernel_rfl
  c85 := by kernel_rfl
  c127 := by kernel_rfl
  c143 := by kernel_rfl
  c145 := by kernel_rfl
  c167 := by kernel_rfl
  c168 := by kernel_rfl
  c171 := by kernel_rfl
  c173 := by kernel_rfl
  c175 := by kernel_rfl
  c210 := by kernel_rfl
  c212 := by kernel_rfl
  c213 := by kernel_rfl
  c232 := by kernel_rfl
  c233 := by kernel_rfl }
theorem extraJoin : Go.Proofs.Builder.Extra Tryz.prog laysJoin_ren where
  sizeBuilder := by kernel_rfl
  liesBuilder := by kernel_rfl
  t5 := Tryz.underlying5
  a5 := Tryz.isAgg5
  z5 := Tryz.sizeOf5
  v5 := Tryz.zeroValue5
  infoByte := by kernel_rfl
  cellsByte := by kernel_rfl
  sizeByte := by kernel_rfl
  neB5 := by decide

end Go.Proofs.YtfkjjnddefojjaaGreatDoor.R
/- Types: how the entries of a table are laid. No program text is named here. -/
set_option linter.unusedVariables false
set_option linter.unusedSimpArgs false
namespace Go.Proofs.YtfkjjnddefojjaaGreatDoor.R
open Go.RowKit
open Go.Proofs.YtfkjjnddefojjaaGreatDoor.D

def FldAll (P : Program) (T : TypeId) : Nat → List (Nat × Nat) → Prop
  | _, [] => True
  | i, q :: l => TF P T i q.1 q.2 ∧ FldAll P T (i + 1) l
theorem FldAll.get {P : Program} {T : TypeId} : ∀ {l : List (Nat × Nat)} {i : Nat}, FldAll P T i l → ∀ f q, l[f]? = some q → TF P T (i + f) q.1 q.2
  | [], _, _, f, q, h => by simp at h
  | x :: l, i, ⟨h1, h2⟩, f, q, h => by
    cases f with
    | zero => simp at h; subst h; exact h1
    | succ f =>
      have := FldAll.get h2 f q (by simpa using h)
      rwa [show i + 1 + f = i + (f + 1) from by omega] at this
section
variable {P : Program} {T : TypeId}
theorem td_flat {n b : Nat} {ty : Ty} {z : Value} {boo : Bool} {ik : Option (Option IntKind)} (h1 : TI P T false 1) (h2 : ty.size = 1) (h3 : TZ P T z 1 b) (h4 : z.cells = (zeroCells ty).toArray) (h5 : 1 ≤ b) (h6 : boo = true → P.underlying T = some .bool) (h7 : ∀ k, ik = some k → P.underlying T = some (ikD k)) : TDok P T ⟨false, 1, none, ty, [], some b, none, boo, none, none, ik, false, none⟩ :=
  ⟨h1, rfl, h2, fun E h => by simp at h, fun f q h => by simp at h, fun b' h => by obtain rfl := Option.some.inj h; exact ⟨z, h3, h4, h5⟩, fun pl h => by simp at h, h6, (fun ks h => by cases h), (fun m h => by cases h), h7, (fun h => by cases h), fun e h => by cases h⟩
theorem td_sl {E : TypeId} {t : Ty} (h1 : TI P T false 1) (h2 : P.underlying T = some (.slice E)) (h3 : TZ P T (.slice none 0 0) 1 24) : TDok P T ⟨false, 1, some E, .sl E t, [], some 24, none, false, none, none, none, false, none⟩ :=
  ⟨h1, rfl, rfl, fun E' h => by obtain rfl := Option.some.inj h; exact h2, fun f q h => by simp at h, fun b' h => by obtain rfl := Option.some.inj h; exact ⟨_, h3, rfl, by decide⟩, fun pl h => by simp at h, (fun h => by cases h), (fun ks h => by cases h), (fun m h => by cases h), (fun k h => by cases h), (fun h => by cases h), fun e h => by cases h⟩
theorem td_st {n b : Nat} {ty : Ty} {fs pl : List (Nat × Nat)} {z : Value} {eq : Option (List (Option IntKind))} (h1 : TI P T true n) (h2 : ty.size = n) (h3 : FldAll P T 0 fs) (h4 : TZ P T z n b) (h5 : z.cells = (zeroCells ty).toArray) (h6 : 1 ≤ b) (h7 : TB P T pl) (h8 : ∀ ks, eq = some ks → ∀ w, Curq ks fun xs ys r => EqT P T (.agg xs.toArray) (.agg ys.toArray) r w) : TDok P T ⟨true, n, none, ty, fs, some b, some pl, false, eq, none, none, false, none⟩ :=
  ⟨h1, rfl, h2, fun E h => by simp at h, fun f q h => by have := h3.get f q h; rwa [Nat.zero_add] at this, fun b' h => by obtain rfl := Option.some.inj h; exact ⟨z, h4, h5, h6⟩, fun pl' h => by obtain rfl := Option.some.inj h; exact h7, (fun h => by cases h), h8, (fun m h => by cases h), (fun k h => by cases h), (fun h => by cases h), fun e h => by cases h⟩
theorem td_fn {ty : Ty} {b : Nat} (h1 : TI P T false 1) (h2 : ty.size = 1) (h3 : TZ P T .nilFunc 1 b) : TDok P T ⟨false, 1, none, ty, [], none, none, false, none, none, none, true, none⟩ :=
  ⟨h1, rfl, h2, fun E h => by simp at h, fun f q h => by simp at h, (fun b' h => by cases h), (fun pl h => by cases h), (fun h => by cases h), (fun ks h => by cases h), (fun m' h => by cases h), (fun k h => by cases h), (fun _ => ⟨b, h3⟩), fun e h => by cases h⟩
end
end Go.Proofs.YtfkjjnddefojjaaGreatDoor.R
/- Printed by lp.py: what the functions compute, as data. -/
set_option linter.unusedVariables false
set_option maxRecDepth 1000000
namespace Go.Proofs.YtfkjjnddefojjaaGreatDoor.D
open Go.RowKit
def m_w_szIntS (p0a : List Int) (p1left : Int) : Option Int :=
  if decide (IntKind.i64.wrap (p1left - (p0a.length : Int)) < 0) then (some (-1)) else (some (IntKind.i64.wrap (p1left - (p0a.length : Int))))
def m_w_szEdgeS (p0a : List (Int × Int × Int × Int)) (p1left : Int) : Option Int :=
  if decide (IntKind.i64.wrap (p1left - (p0a.length : Int)) < 0) then (some (-1)) else (some (IntKind.i64.wrap (p1left - (p0a.length : Int))))
def m_w_szGraph (p0a : (List Int) × (List (Int × Int × Int × Int))) (p1left : Int) : Option Int :=
  (m_w_szIntS p0a.1 p1left).bind fun r1 => if decide (r1 < 0) then (some (-1)) else ((m_w_szEdgeS p0a.2 r1).bind fun r2 => if decide (r2 < 0) then (some (-1)) else (some r2))
def m_w_szGraphS_l0 (p0a : List ((List Int) × (List (Int × Int × Int × Int)))) (s3 : Int × Int) : Option (Out Int (Int × Int)) :=
  if decide (s3.2 < (p0a.length : Int)) then ((getI p0a s3.2).bind fun x3 => (m_w_szGraph (x3.1, x3.2) s3.1).bind fun r9 => if decide (r9 < 0) then (some (.ret (-1))) else (some (.nxt (r9, IntKind.i64.wrap (s3.2 + 1))))) else (some (.brk (s3.1, s3.2)))
def m_w_szGraphS (p0a : List ((List Int) × (List (Int × Int × Int × Int)))) (p1left : Int) : Option Int :=
  if decide (IntKind.i64.wrap (p1left - (p0a.length : Int)) < 0) then (some (-1)) else (bindL (loopM (m_w_szGraphS_l0 p0a) FUEL (IntKind.i64.wrap (p1left - (p0a.length : Int)), 0)) (fun r => some r) (fun s4 => some s4.1))
def m_w_szHistory (p0a : Int × (List ((List Int) × (List (Int × Int × Int × Int))))) (p1left : Int) : Option Int :=
  (m_w_szGraphS p0a.2 p1left).bind fun r1 => if decide (r1 < 0) then (some (-1)) else (some r1)
def m_s_l3Copy (p0g : (List Int) × (List (Int × Int × Int × Int))) : Option ((List Int) × (List (Int × Int × Int × Int))) :=
  (appI 8 ([] : List Int) p0g.1).bind fun z1 => (appI 32 ([] : List (Int × Int × Int × Int)) p0g.2).bind fun z2 => some (z1, z2)
def m_s_l7Copy_l0 (p0h : Int × (List ((List Int) × (List (Int × Int × Int × Int))))) (s3 : Int × Int × (List ((List Int) × (List (Int × Int × Int × Int))))) : Option (Out (Int × (List ((List Int) × (List (Int × Int × Int × Int))))) (Int × Int × (List ((List Int) × (List (Int × Int × Int × Int)))))) :=
  if decide (s3.1 < (p0h.2.length : Int)) then ((getI p0h.2 s3.1).bind fun x3 => (m_s_l3Copy (x3.1, x3.2)).bind fun r9 => (appI 48 s3.2.2 ([(r9.1, r9.2)])).bind fun z3 => some (.nxt (IntKind.i64.wrap (s3.1 + 1), s3.2.1, z3))) else (some (.brk (s3.1, s3.2.1, s3.2.2)))
def m_s_l7Copy (p0h : Int × (List ((List Int) × (List (Int × Int × Int × Int))))) : Option (Int × (List ((List Int) × (List (Int × Int × Int × Int))))) :=
  bindL (loopM (m_s_l7Copy_l0 p0h) FUEL (0, p0h.1, [])) (fun r => some r) (fun s4 => some (s4.2.1, s4.2.2))
def m_s_l1In (p0x : Int) (p1low : Int) (p2high : Int) : Option Bool :=
  if decide (p0x ≥ p1low) then (some (decide (p0x ≤ p2high))) else (some false)
def m_s_l3Edge (p0g : (List Int) × (List (Int × Int × Int × Int))) (p1e : Int × Int × Int × Int) : Option Bool :=
  (m_s_l1In p1e.1 1 99).bind fun r1 => if r1 then ((m_s_l1In p1e.2.1 0 (IntKind.i64.wrap ((p0g.1.length : Int) - 1))).bind fun r2 => if r2 then ((m_s_l1In p1e.2.2.1 0 (IntKind.i64.wrap ((p0g.1.length : Int) - 1))).bind fun r3 => if r3 then ((m_s_l1In p1e.2.2.2 0 2).bind fun r4 => some r4) else (some false)) else (some false)) else (some false)
def m_s_IsValidGraph_l0 (p0g : (List Int) × (List (Int × Int × Int × Int))) (s3 : Int) : Option (Out Bool Int) :=
  if decide (s3 < (p0g.1.length : Int)) then ((getI p0g.1 s3).bind fun x3 => (m_s_l1In x3 0 2).bind fun r3 => if r3 then (some (.nxt (IntKind.i64.wrap (s3 + 1)))) else (some (.ret false))) else (some (.brk s3))
def m_s_IsValidGraph_l1 (p0g : (List Int) × (List (Int × Int × Int × Int))) (s7 : Int) : Option (Out Bool Int) :=
  if decide (s7 < (p0g.2.length : Int)) then ((getI p0g.2 s7).bind fun x10 => (m_s_l3Edge (p0g.1, p0g.2) (x10.1, x10.2.1, x10.2.2.1, x10.2.2.2)).bind fun r6 => if r6 then (if decide (s7 > 0) then ((getI p0g.2 (IntKind.i64.wrap (s7 - 1))).bind fun x11 => (getI p0g.2 s7).bind fun x12 => if decide (x11.1 ≥ x12.1) then (some (.ret false)) else (some (.nxt (IntKind.i64.wrap (s7 + 1))))) else (some (.nxt (IntKind.i64.wrap (s7 + 1))))) else (some (.ret false))) else (some (.brk s7))
def m_s_IsValidGraph (p0g : (List Int) × (List (Int × Int × Int × Int))) : Option Bool :=
  bindL (loopM (m_s_IsValidGraph_l0 p0g) FUEL 0) (fun r => some r) (fun s4 => bindL (loopM (m_s_IsValidGraph_l1 p0g) FUEL 0) (fun r => some r) (fun s8 => (m_s_l1In (p0g.1.length : Int) 1 5).bind fun r7 => if r7 then (some (decide ((p0g.2.length : Int) ≤ 12))) else (some false)))
def m_s_l2Cmp_l0 (p0a : List Int) (p1b : List Int) (s3 : Int) : Option (Out Int Int) :=
  if decide (s3 < (p0a.length : Int)) then (if decide (s3 < (p1b.length : Int)) then ((getI p0a s3).bind fun x9 => (getI p1b s3).bind fun x10 => if decide (x9 < x10) then (some (.ret (-1))) else ((getI p0a s3).bind fun x11 => (getI p1b s3).bind fun x12 => if decide (x11 > x12) then (some (.ret 1)) else (some (.nxt (IntKind.i64.wrap (s3 + 1)))))) else (some (.brk s3))) else (some (.brk s3))
def m_s_l2Cmp (p0a : List Int) (p1b : List Int) : Option Int :=
  bindL (loopM (m_s_l2Cmp_l0 p0a p1b) FUEL 0) (fun r => some r) (fun s4 => if decide ((p0a.length : Int) < (p1b.length : Int)) then (some (-1)) else (if decide ((p0a.length : Int) > (p1b.length : Int)) then (some 1) else (some 0)))
def m_s_IsValidHistory_l0 (p0h : Int × (List ((List Int) × (List (Int × Int × Int × Int))))) (s3 : Int) : Option (Out Bool Int) :=
  if decide (s3 < (p0h.2.length : Int)) then ((getI p0h.2 s3).bind fun x7 => (m_s_IsValidGraph (x7.1, x7.2)).bind fun r15 => if r15 then ((getI p0h.2 s3).bind fun x8 => (getI p0h.2 0).bind fun x9 => (m_s_l2Cmp x8.1 x9.1).bind fun r18 => if r18 != 0 then (some (.ret false)) else (some (.nxt (IntKind.i64.wrap (s3 + 1))))) else (some (.ret false))) else (some (.brk s3))
def m_s_IsValidHistory (p0h : Int × (List ((List Int) × (List (Int × Int × Int × Int))))) : Option Bool :=
  bindL (loopM (m_s_IsValidHistory_l0 p0h) FUEL 0) (fun r => some r) (fun s4 => (m_s_l1In (p0h.2.length : Int) 1 8).bind fun r19 => if r19 then ((m_s_l1In p0h.1 1 (IntKind.i64.wrap ((IntKind.i64.wrap (999 - (p0h.2.length : Int))) + 1))).bind fun r20 => some r20) else (some false))
def m_s_l2Cut_l0 (p0s : ByteArray) (p1sep : Int) (s1 : (List ByteArray) × Int × Int) : Option (Out (List ByteArray) ((List ByteArray) × Int × Int)) :=
  if decide (s1.2.2 < ((p0s.size : Nat) : Int)) then (Option.bind (((strAt p0s s1.2.2).bind fun z2 => if z2 == p1sep then ((strSl p0s s1.2.1 s1.2.2).bind fun z3 => (appI 16 s1.1 ([z3])).bind fun z4 => some (z4, IntKind.i64.wrap (s1.2.2 + 1))) else (some (s1.1, s1.2.1)) : Option ((List ByteArray) × Int))) (fun s5 => some (.nxt (s5.1, s5.2, IntKind.i64.wrap (s1.2.2 + 1))))) else (some (.brk (s1.1, s1.2.1, s1.2.2)))
def m_s_l2Cut (p0s : ByteArray) (p1sep : Int) : Option (List ByteArray) :=
  bindL (loopM (m_s_l2Cut_l0 p0s p1sep) FUEL (([] : List ByteArray), 0, 0)) (fun r6 => some r6) (fun s7 => (strSl p0s s7.2.1 ((p0s.size : Nat) : Int)).bind fun z8 => (appI 16 s7.1 ([z8])).bind fun z9 => some z9)
def m_s_FormatInt_l0 (s1 : Int × ByteArray) : Option (Out ByteArray (Int × ByteArray)) :=
  if s1.1 != 0 then (Option.bind ((if decide ((Int.tmod s1.1 10) < 0) then (some (IntKind.i64.wrap (-(Int.tmod s1.1 10)))) else (some (Int.tmod s1.1 10)) : Option Int)) (fun s2 => (catS (bytesS ([IntKind.u8.wrap (IntKind.i64.wrap (48 + s2))])) s1.2).bind fun z3 => some (.nxt (quoI s1.1 10, z3)))) else (some (.brk (s1.1, s1.2)))
def m_s_FormatInt (p0n : Int) : Option ByteArray :=
  if p0n == 0 then (some (⟨#[48]⟩)) else (bindL (loopM (m_s_FormatInt_l0) FUEL (p0n, (⟨#[]⟩ : ByteArray))) (fun r4 => some r4) (fun s5 => if decide (p0n < 0) then ((catS (⟨#[45]⟩) s5.2).bind fun z6 => some z6) else (some s5.2)))
def m_s_ParseInt_l0 (p0s : ByteArray) (s1 : Int × Int × Int) : Option (Out (Int × Bool) (Int × Int × Int)) :=
  if decide (s1.2.2 < ((p0s.size : Nat) : Int)) then (if decide (s1.2.2 < 11) then (Option.bind (((strAt p0s s1.2.2).bind fun z2 => if decide (z2 ≥ 48) then ((strAt p0s s1.2.2).bind fun z3 => if decide (z3 ≤ 57) then ((strAt p0s s1.2.2).bind fun z4 => some (IntKind.i64.wrap ((IntKind.i64.wrap (s1.1 * 10)) + (IntKind.i64.wrap (IntKind.u8.wrap (z4 - 48)))), IntKind.i64.wrap (s1.2.1 + 1))) else (some (s1.1, s1.2.1))) else (some (s1.1, s1.2.1)) : Option (Int × Int))) (fun s5 => some (.nxt (s5.1, s5.2, IntKind.i64.wrap (s1.2.2 + 1))))) else (some (.brk (s1.1, s1.2.1, s1.2.2)))) else (some (.brk (s1.1, s1.2.1, s1.2.2)))
def m_s_ParseInt (p0s : ByteArray) : Option (Int × Bool) :=
  bindL (loopM (m_s_ParseInt_l0 p0s) FUEL (0, 0, 0)) (fun r6 => some r6) (fun s7 => if decide (((p0s.size : Nat) : Int) > 0) then ((strAt p0s 0).bind fun z8 => Option.bind ((if z8 == 45 then (some (IntKind.i64.wrap (-s7.1))) else (some s7.1) : Option Int)) (fun s9 => if decide (s7.2.1 > 9) then (some (0, false)) else (if decide (((p0s.size : Nat) : Int) > 10) then (some (0, false)) else ((m_s_FormatInt s9).bind fun r10 => if r10 != p0s then (some (0, false)) else (some (s9, true)))))) else (Option.bind ((some s7.1 : Option Int)) (fun s11 => if decide (s7.2.1 > 9) then (some (0, false)) else (if decide (((p0s.size : Nat) : Int) > 10) then (some (0, false)) else ((m_s_FormatInt s11).bind fun r12 => if r12 != p0s then (some (0, false)) else (some (s11, true)))))))
def m_s_l2Letter (p0n : Int) : Option Bool :=
  (m_s_l1In p0n 0 8).bind fun r1 => some r1
def m_s_FormatLetter (p0n : Int) : Option ByteArray :=
  (m_s_l2Letter p0n).bind fun r1 => if r1 then ((getI ([(⟨#[97]⟩ : ByteArray), (⟨#[97, 45]⟩ : ByteArray), (⟨#[98]⟩ : ByteArray), (⟨#[98, 45]⟩ : ByteArray), (⟨#[99]⟩ : ByteArray), (⟨#[99, 45]⟩ : ByteArray), (⟨#[48]⟩ : ByteArray), (⟨#[49]⟩ : ByteArray), (⟨#[50]⟩ : ByteArray)]) p0n).bind fun x1 => some x1) else (some (⟨#[]⟩ : ByteArray))
def m_s_ParseLetter_l0 (p0s : ByteArray) (s3 : Int) : Option (Out (Int × Bool) Int) :=
  if decide (s3 < 9) then ((m_s_FormatLetter s3).bind fun r3 => if r3 == p0s then (some (.ret (s3, true))) else (some (.nxt (IntKind.i64.wrap (s3 + 1))))) else (some (.brk s3))
def m_s_ParseLetter (p0s : ByteArray) : Option (Int × Bool) :=
  bindL (loopM (m_s_ParseLetter_l0 p0s) FUEL 0) (fun r => some r) (fun s4 => some (0, false))
def m_s_FormatEdge (p0e : Int × Int × Int × Int) : Option ByteArray :=
  (m_s_l1In p0e.1 1 99).bind fun r0 => if r0 then ((m_s_l1In p0e.2.1 0 4).bind fun r1 => if r1 then ((m_s_l1In p0e.2.2.1 0 4).bind fun r2 => if r2 then ((m_s_l1In p0e.2.2.2 0 2).bind fun r3 => if r3 then ((m_s_FormatInt p0e.1).bind fun r12 => (catS r12 (⟨#[58]⟩)).bind fun z13 => (m_s_FormatInt p0e.2.1).bind fun r14 => (catS z13 r14).bind fun z15 => (m_s_FormatLetter (IntKind.i64.wrap (2 * p0e.2.2.2))).bind fun r16 => (catS z15 r16).bind fun z17 => (m_s_FormatInt p0e.2.2.1).bind fun r18 => (catS z17 r18).bind fun z19 => some z19) else (some ((⟨#[]⟩ : ByteArray)))) else (some ((⟨#[]⟩ : ByteArray)))) else (some ((⟨#[]⟩ : ByteArray)))) else (some ((⟨#[]⟩ : ByteArray)))
def m_s_ParseEdge (p0s : ByteArray) : Option ((Int × Int × Int × Int) × Bool) :=
  (m_s_l2Cut p0s 58).bind fun r0 => if (r0.length : Int) != 2 then (some ((0, 0, 0, 0), false)) else ((getI r0 1).bind fun x1 => if ((x1.size : Nat) : Int) != 3 then (some ((0, 0, 0, 0), false)) else ((getI r0 0).bind fun x2 => (m_s_ParseInt x2).bind fun r3 => (getI r0 1).bind fun x4 => (strSl x4 1 2).bind fun z5 => (m_s_ParseLetter z5).bind fun r6 => (getI r0 1).bind fun x11 => (strAt x11 0).bind fun z12 => (getI r0 1).bind fun x13 => (strAt x13 2).bind fun z14 => (m_s_FormatEdge (r3.1, IntKind.i64.wrap ((IntKind.i64.wrap z12) - 48), IntKind.i64.wrap ((IntKind.i64.wrap z14) - 48), quoI r6.1 2)).bind fun r15 => if r15 != p0s then (some ((0, 0, 0, 0), false)) else (some ((r3.1, IntKind.i64.wrap ((IntKind.i64.wrap z12) - 48), IntKind.i64.wrap ((IntKind.i64.wrap z14) - 48), quoI r6.1 2), true))))
def m_s_FormatBatch_l0 (p0b : List (Bool × Int × Int × Int × Int)) (s1 : ByteArray × Int) : Option (Out ByteArray (ByteArray × Int)) :=
  if decide (s1.2 < (p0b.length : Int)) then (bindJ (S := ByteArray) ((getI p0b s1.2).bind fun x2 => (m_s_FormatEdge (x2.2.1, x2.2.2.1, x2.2.2.2.1, x2.2.2.2.2)).bind fun r3 => if r3 == ((⟨#[]⟩ : ByteArray)) then (some (.inl (.ret ((⟨#[]⟩ : ByteArray))))) else (Option.bind ((if decide (s1.2 > 0) then ((catS s1.1 (⟨#[32]⟩)).bind fun z4 => some z4) else (some s1.1) : Option ByteArray)) (fun s5 => (getI p0b s1.2).bind fun x6 => if x6.1 then ((catS s5 (⟨#[43]⟩)).bind fun z7 => (catS z7 r3).bind fun z8 => some (.inr z8)) else ((catS s5 (⟨#[45]⟩)).bind fun z9 => (catS z9 r3).bind fun z10 => some (.inr z10))))) (fun s11 => some (.nxt (s11, IntKind.i64.wrap (s1.2 + 1))))) else (some (.brk (s1.1, s1.2)))
def m_s_FormatBatch (p0b : List (Bool × Int × Int × Int × Int)) : Option ByteArray :=
  if decide ((p0b.length : Int) > 6) then (some ((⟨#[]⟩ : ByteArray))) else (bindL (loopM (m_s_FormatBatch_l0 p0b) FUEL ((⟨#[]⟩ : ByteArray), 0)) (fun r12 => some r12) (fun s13 => some s13.1))
def m_s_ParseBatch_l0 (r0 : List ByteArray) (s3 : Int × List (Bool × Int × Int × Int × Int)) : Option (Out ((List (Bool × Int × Int × Int × Int)) × Bool) (Int × List (Bool × Int × Int × Int × Int))) :=
  if decide (s3.1 < (r0.length : Int)) then (if decide (s3.1 ≤ 6) then ((getI r0 s3.1).bind fun x4 => if decide (((x4.size : Nat) : Int) < 2) then (some (.ret (([] : List (Bool × Int × Int × Int × Int)), false))) else ((getI r0 s3.1).bind fun x5 => (strSl x5 1 ((x5.size : Nat) : Int)).bind fun z6 => (m_s_ParseEdge z6).bind fun r7 => if r7.2 then ((getI r0 s3.1).bind fun x11 => (strAt x11 0).bind fun z12 => (appI 40 s3.2 ([(z12 == 43, r7.1.1, r7.1.2.1, r7.1.2.2.1, r7.1.2.2.2)])).bind fun z13 => some (.nxt (IntKind.i64.wrap (s3.1 + 1), z13))) else (some (.ret (([] : List (Bool × Int × Int × Int × Int)), false))))) else (some (.brk (s3.1, s3.2)))) else (some (.brk (s3.1, s3.2)))
def m_s_ParseBatch (p0s : ByteArray) : Option ((List (Bool × Int × Int × Int × Int)) × Bool) :=
  if p0s == ((⟨#[]⟩ : ByteArray)) then (some (([] : List (Bool × Int × Int × Int × Int)), true)) else ((m_s_l2Cut p0s 32).bind fun r0 => bindL (loopM (m_s_ParseBatch_l0 r0) FUEL (0, ([] : List (Bool × Int × Int × Int × Int)))) (fun r14 => some r14) (fun s15 => (m_s_FormatBatch s15.2).bind fun r16 => if r16 != p0s then (some (([] : List (Bool × Int × Int × Int × Int)), false)) else (some (s15.2, true))))
def m_s_Checksum_l0 (p0s : ByteArray) (s1 : Int × Int) : Option (Out Int (Int × Int)) :=
  if decide (s1.2 < ((p0s.size : Nat) : Int)) then ((strAt p0s s1.2).bind fun z2 => some (.nxt (Int.tmod (IntKind.i64.wrap ((IntKind.i64.wrap ((IntKind.i64.wrap (s1.1 * 257)) + (IntKind.i64.wrap z2))) + 1)) 9973, IntKind.i64.wrap (s1.2 + 1)))) else (some (.brk (s1.1, s1.2)))
def m_s_Checksum (p0s : ByteArray) : Option Int :=
  bindL (loopM (m_s_Checksum_l0 p0s) FUEL (1, 0)) (fun r3 => some r3) (fun s4 => some s4.1)
def m_s_EncodeRecord (p0version : Int) (p1b : List (Bool × Int × Int × Int × Int)) : Option ByteArray :=
  (m_s_l1In p0version 1 999).bind fun r0 => if r0 then (if decide ((p1b.length : Int) > 0) then ((m_s_FormatBatch p1b).bind fun r1 => if r1 == ((⟨#[]⟩ : ByteArray)) then (some ((⟨#[]⟩ : ByteArray))) else ((m_s_FormatInt p0version).bind fun r7 => (catS r7 (⟨#[59]⟩)).bind fun z8 => (m_s_FormatBatch p1b).bind fun r9 => (catS z8 r9).bind fun z10 => (catS z10 (⟨#[59]⟩)).bind fun z11 => (m_s_Checksum z11).bind fun r12 => (m_s_FormatInt r12).bind fun r13 => (catS z11 r13).bind fun z14 => (catS z14 (⟨#[10]⟩)).bind fun z15 => some z15)) else ((m_s_FormatInt p0version).bind fun r21 => (catS r21 (⟨#[59]⟩)).bind fun z22 => (m_s_FormatBatch p1b).bind fun r23 => (catS z22 r23).bind fun z24 => (catS z24 (⟨#[59]⟩)).bind fun z25 => (m_s_Checksum z25).bind fun r26 => (m_s_FormatInt r26).bind fun r27 => (catS z25 r27).bind fun z28 => (catS z28 (⟨#[10]⟩)).bind fun z29 => some z29)) else (some ((⟨#[]⟩ : ByteArray)))
def m_s_DecodeRecord (p0s : ByteArray) : Option (Int × ((List (Bool × (Int × Int × Int × Int)))) × Bool) :=
  (m_s_l2Cut p0s 59).bind fun r1 => if (r1.length : Int) != 3 then (some (0, [], false)) else ((getI r1 0).bind fun x1 => (m_s_ParseInt x1).bind fun r2 => (getI r1 1).bind fun x2 => (m_s_ParseBatch x2).bind fun r3 => if r2.2 then (if r3.2 then ((m_s_EncodeRecord r2.1 r3.1).bind fun r4 => if r4 != p0s then (some (0, [], false)) else (some (r2.1, r3.1, true))) else (some (0, [], false))) else (some (0, [], false)))
def m_s_ScanLog_l0 (p0 : ByteArray) (s1 : (List Int) × (List (List (Bool × Int × Int × Int × Int))) × Int × Int) : Option (Out ((List Int) × (List (List (Bool × Int × Int × Int × Int))) × Int) ((List Int) × (List (List (Bool × Int × Int × Int × Int))) × Int × Int)) :=
  if decide (s1.2.2.2 < ((p0.size : Nat) : Int)) then (if decide (((p0.size : Nat) : Int) ≤ 4000) then (bindJ (S := (List Int) × (List (List (Bool × Int × Int × Int × Int))) × Int) ((strAt p0 s1.2.2.2).bind fun z2 => if z2 != 10 then (some (.inr (s1.1, s1.2.1, s1.2.2.1))) else ((strSl p0 s1.2.2.1 (IntKind.i64.wrap (s1.2.2.2 + 1))).bind fun z3 => (m_s_DecodeRecord z3).bind fun r4 => if r4.2.2 then (if decide ((s1.1.length : Int) > 0) then ((getI s1.1 (IntKind.i64.wrap ((s1.1.length : Int) - 1))).bind fun x5 => if r4.1 != (IntKind.i64.wrap (x5 + 1)) then (some (.inl (.ret (s1.1, s1.2.1, s1.2.2.1)))) else ((appI 8 s1.1 ([r4.1])).bind fun z6 => (appI 24 s1.2.1 ([r4.2.1])).bind fun z7 => some (.inr (z6, z7, IntKind.i64.wrap (s1.2.2.2 + 1))))) else ((appI 8 s1.1 ([r4.1])).bind fun z8 => (appI 24 s1.2.1 ([r4.2.1])).bind fun z9 => some (.inr (z8, z9, IntKind.i64.wrap (s1.2.2.2 + 1))))) else (some (.inl (.ret (s1.1, s1.2.1, s1.2.2.1)))))) (fun s10 => some (.nxt (s10.1, s10.2.1, s10.2.2, IntKind.i64.wrap (s1.2.2.2 + 1))))) else (some (.brk (s1.1, s1.2.1, s1.2.2.1, s1.2.2.2)))) else (some (.brk (s1.1, s1.2.1, s1.2.2.1, s1.2.2.2)))
def m_s_ScanLog (p0 : ByteArray) : Option ((List Int) × (List (List (Bool × Int × Int × Int × Int))) × Int) :=
  bindL (loopM (m_s_ScanLog_l0 p0) FUEL (([] : List Int), ([] : List (List (Bool × Int × Int × Int × Int))), 0, 0)) (fun r11 => some r11) (fun s12 => some (s12.1, s12.2.1, s12.2.2.1))
def m_s_LatestVersion (p0h : Int × (List ((List Int) × (List (Int × Int × Int × Int))))) : Option Int :=
  (m_s_IsValidHistory (p0h.1, p0h.2)).bind fun r1 => if r1 then (some (IntKind.i64.wrap ((IntKind.i64.wrap (p0h.1 + (p0h.2.length : Int))) - 1))) else (some 0)
def m_s_EdgeIndex_l0 (p0g : (List Int) × (List (Int × Int × Int × Int))) (p1id : Int) (s3 : Int) : Option (Out Int Int) :=
  if decide (s3 < (p0g.2.length : Int)) then ((getI p0g.2 s3).bind fun x3 => if x3.1 == p1id then (some (.ret s3)) else (some (.nxt (IntKind.i64.wrap (s3 + 1))))) else (some (.brk s3))
def m_s_EdgeIndex (p0g : (List Int) × (List (Int × Int × Int × Int))) (p1id : Int) : Option Int :=
  bindL (loopM (m_s_EdgeIndex_l0 p0g p1id) FUEL 0) (fun r => some r) (fun s4 => some (-1))
def m_s_InsertEdge_l0 (p0 : (List Int) × (List (Int × Int × Int × Int))) (p1 : Int × Int × Int × Int) (s3 : Int) : Option (Out (((List Int) × (List (Int × Int × Int × Int))) × Bool) Int) :=
  if decide (s3 < (p0.2.length : Int)) then ((getI p0.2 s3).bind fun x3 => if decide (x3.1 < p1.1) then (some (.nxt (IntKind.i64.wrap (s3 + 1)))) else (some (.brk s3))) else (some (.brk s3))
def m_s_InsertEdge (p0 : (List Int) × (List (Int × Int × Int × Int))) (p1 : Int × Int × Int × Int) : Option (((List Int) × (List (Int × Int × Int × Int))) × Bool) :=
  (m_s_IsValidGraph (p0.1, p0.2)).bind fun r1 => if r1 then ((m_s_l3Edge (p0.1, p0.2) (p1.1, p1.2.1, p1.2.2.1, p1.2.2.2)).bind fun r3 => if r3 then ((m_s_EdgeIndex (p0.1, p0.2) p1.1).bind fun r5 => if decide (r5 ≥ 0) then ((m_s_l3Copy (p0.1, p0.2)).bind fun r7 => some ((r7.1, r7.2), false)) else (if (p0.2.length : Int) == 12 then ((m_s_l3Copy (p0.1, p0.2)).bind fun r6 => some ((r6.1, r6.2), false)) else (bindL (loopM (m_s_InsertEdge_l0 p0 p1) FUEL 0) (fun r => some r) (fun s4 => (appI 8 ([] : List Int) p0.1).bind fun z1 => (chk (0 ≤ s4 ∧ s4 ≤ (p0.2.length : Int))).bind fun _ => (appI 32 ([] : List (Int × Int × Int × Int)) (p0.2.take s4.toNat)).bind fun z2 => (appI 32 z2 ([(p1.1, p1.2.1, p1.2.2.1, p1.2.2.2)])).bind fun z3 => (chk (0 ≤ s4 ∧ s4 ≤ (p0.2.length : Int))).bind fun _ => (appI 32 z3 (p0.2.drop s4.toNat)).bind fun z4 => some ((z1, z4), true))))) else ((m_s_l3Copy (p0.1, p0.2)).bind fun r4 => some ((r4.1, r4.2), false))) else ((m_s_l3Copy (p0.1, p0.2)).bind fun r2 => some ((r2.1, r2.2), false))
def m_s_DeleteEdge (p0g : (List Int) × (List (Int × Int × Int × Int))) (p1id : Int) : Option (((List Int) × (List (Int × Int × Int × Int))) × Bool) :=
  (m_s_EdgeIndex (p0g.1, p0g.2) p1id).bind fun r1 => (m_s_IsValidGraph (p0g.1, p0g.2)).bind fun r2 => if r2 then (if decide (r1 < 0) then ((m_s_l3Copy (p0g.1, p0g.2)).bind fun r4 => some ((r4.1, r4.2), false)) else ((appI 8 ([] : List Int) p0g.1).bind fun z1 => (chk (0 ≤ r1 ∧ r1 ≤ (p0g.2.length : Int))).bind fun _ => (appI 32 ([] : List (Int × Int × Int × Int)) (p0g.2.take r1.toNat)).bind fun z2 => (chk (0 ≤ IntKind.i64.wrap (r1 + 1) ∧ IntKind.i64.wrap (r1 + 1) ≤ (p0g.2.length : Int))).bind fun _ => (appI 32 z2 (p0g.2.drop (IntKind.i64.wrap (r1 + 1)).toNat)).bind fun z3 => some ((z1, z3), true))) else ((m_s_l3Copy (p0g.1, p0g.2)).bind fun r3 => some ((r3.1, r3.2), false))
def m_s_l6Apply_l0 (p0 : (List Int) × (List (Int × Int × Int × Int))) (p1 : (List (Bool × (Int × Int × Int × Int)))) (s5 : Int × (List Int) × (List (Int × Int × Int × Int))) : Option (Out (((List Int) × (List (Int × Int × Int × Int))) × Bool) (Int × (List Int) × (List (Int × Int × Int × Int)))) :=
  if decide (s5.1 < (p1.length : Int)) then (if decide (s5.1 ≤ 6) then (bindJ (S := (List Int) × (List (Int × Int × Int × Int))) ((getI p1 s5.1).bind fun x16 => (getI p1 s5.1).bind fun x17 => if x17.1 then ((m_s_InsertEdge (s5.2.1, s5.2.2) (x16.2.1, x16.2.2.1, x16.2.2.2.1, x16.2.2.2.2)).bind fun r42 => if r42.2 then (some (.inr (r42.1.1, r42.1.2))) else ((m_s_l3Copy (p0.1, p0.2)).bind fun r43 => some (.inl (.ret ((r43.1, r43.2), false))))) else ((m_s_EdgeIndex (s5.2.1, s5.2.2) x16.2.1).bind fun r37 => if decide (r37 < 0) then ((m_s_l3Copy (p0.1, p0.2)).bind fun r41 => some (.inl (.ret ((r41.1, r41.2), false)))) else ((getI s5.2.2 r37).bind fun x18 => if (x18.1 == x16.2.1) && ((x18.2.1 == x16.2.2.1) && ((x18.2.2.1 == x16.2.2.2.1) && ((x18.2.2.2 == x16.2.2.2.2) && true))) then ((m_s_DeleteEdge (s5.2.1, s5.2.2) x16.2.1).bind fun r39 => if r39.2 then (some (.inr (r39.1.1, r39.1.2))) else ((m_s_l3Copy (p0.1, p0.2)).bind fun r40 => some (.inl (.ret ((r40.1, r40.2), false))))) else ((m_s_l3Copy (p0.1, p0.2)).bind fun r38 => some (.inl (.ret ((r38.1, r38.2), false))))))) (fun s7 => some (.nxt (IntKind.i64.wrap (s5.1 + 1), s7.1, s7.2)))) else (some (.brk (s5.1, s5.2.1, s5.2.2)))) else (some (.brk (s5.1, s5.2.1, s5.2.2)))
def m_s_l6Apply (p0 : (List Int) × (List (Int × Int × Int × Int))) (p1 : (List (Bool × (Int × Int × Int × Int)))) : Option (((List Int) × (List (Int × Int × Int × Int))) × Bool) :=
  (m_s_l3Copy (p0.1, p0.2)).bind fun r1 => bindL (loopM (m_s_l6Apply_l0 p0 p1) FUEL (0, r1.1, r1.2)) (fun r => some r) (fun s6 => some ((s6.2.1, s6.2.2), true))
def m_s_ApplyBatch (p0g : (List Int) × (List (Int × Int × Int × Int))) (p1b : (List (Bool × (Int × Int × Int × Int)))) : Option (((List Int) × (List (Int × Int × Int × Int))) × Bool) :=
  (m_s_IsValidGraph (p0g.1, p0g.2)).bind fun r1 => if r1 then (if decide ((p1b.length : Int) > 6) then ((m_s_l3Copy (p0g.1, p0g.2)).bind fun r4 => some ((r4.1, r4.2), false)) else ((m_s_l6Apply (p0g.1, p0g.2) p1b).bind fun r3 => some ((r3.1.1, r3.1.2), r3.2))) else ((m_s_l3Copy (p0g.1, p0g.2)).bind fun r2 => some ((r2.1, r2.2), false))
def m_s_AppendBatch (p0h : Int × List ((List Int) × List (Int × Int × Int × Int))) (p1b : List (Bool × Int × Int × Int × Int)) : Option ((Int × List ((List Int) × List (Int × Int × Int × Int))) × Bool) :=
  (m_s_l7Copy (p0h.1, p0h.2)).bind fun r0 => (m_s_IsValidHistory (p0h.1, p0h.2)).bind fun r1 => if r1 then ((m_s_LatestVersion (p0h.1, p0h.2)).bind fun r2 => if r2 == 999 then (some ((r0.1, r0.2), false)) else ((getI p0h.2 (IntKind.i64.wrap ((p0h.2.length : Int) - 1))).bind fun x5 => (m_s_ApplyBatch (x5.1, x5.2) p1b).bind fun r6 => if r6.2 then ((appI 48 r0.2 ([(r6.1.1, r6.1.2)])).bind fun z7 => Option.bind ((if decide ((z7.length : Int) > 8) then ((chk (And ((0 : Int) ≤ 1) (1 ≤ (z7.length : Int)))).bind fun _ => some (IntKind.i64.wrap (r0.1 + 1), z7.drop 1)) else (some (r0.1, z7)) : Option (Int × List ((List Int) × List (Int × Int × Int × Int))))) (fun s9 => some ((s9.1, s9.2), true))) else (some ((r0.1, r0.2), false)))) else (some ((r0.1, r0.2), false))
def m_s_ReplayLog_l0 (r2 : (List Int) × (List (List (Bool × Int × Int × Int × Int))) × Int) (s5 : Int × Int × (List (List (Bool × Int × Int × Int × Int))) × Int × List ((List Int) × List (Int × Int × Int × Int))) : Option (Out ((Int × List ((List Int) × List (Int × Int × Int × Int))) × Int) (Int × Int × (List (List (Bool × Int × Int × Int × Int))) × Int × List ((List Int) × List (Int × Int × Int × Int)))) :=
  if decide (s5.2.1 < (r2.1.length : Int)) then (bindJ (S := Int × (List (List (Bool × Int × Int × Int × Int))) × Int × List ((List Int) × List (Int × Int × Int × Int))) ((getI r2.1 s5.2.1).bind fun x8 => (m_s_LatestVersion (s5.2.2.2.1, s5.2.2.2.2)).bind fun r9 => if decide (x8 ≤ r9) then (some (.inr (s5.1, s5.2.2.1, s5.2.2.2.1, s5.2.2.2.2))) else ((getI s5.2.2.1 s5.2.1).bind fun x12 => (m_s_AppendBatch (s5.2.2.2.1, s5.2.2.2.2) x12).bind fun r13 => (getI r2.1 s5.2.1).bind fun x16 => (m_s_LatestVersion (s5.2.2.2.1, s5.2.2.2.2)).bind fun r17 => if x16 != (IntKind.i64.wrap (r17 + 1)) then (some (.inl (.ret ((s5.2.2.2.1, s5.2.2.2.2), s5.1)))) else (if r13.2 then (some (.inr (IntKind.i64.wrap (s5.1 + 1), s5.2.2.1, r13.1.1, r13.1.2))) else (some (.inl (.ret ((s5.2.2.2.1, s5.2.2.2.2), s5.1))))))) (fun s18 => some (.nxt (s18.1, IntKind.i64.wrap (s5.2.1 + 1), s18.2.1, s18.2.2.1, s18.2.2.2)))) else (some (.brk (s5.1, s5.2.1, s5.2.2.1, s5.2.2.2.1, s5.2.2.2.2)))
def m_s_ReplayLog (p0 : Int × List ((List Int) × List (Int × Int × Int × Int))) (p1 : ByteArray) : Option ((Int × List ((List Int) × List (Int × Int × Int × Int))) × Int) :=
  (m_s_l7Copy (p0.1, p0.2)).bind fun r0 => (m_s_IsValidHistory (p0.1, p0.2)).bind fun r1 => if r1 then ((m_s_ScanLog p1).bind fun r2 => bindL (loopM (m_s_ReplayLog_l0 r2) FUEL (0, 0, r2.2.1, r0.1, r0.2)) (fun r19 => some r19) (fun s20 => some ((s20.2.2.2.1, s20.2.2.2.2), s20.1))) else (some ((r0.1, r0.2), 0))
def m_w_toIntS_l0 (p0a : List Int) (s3 : (List Int) × Int) : Option (Out (List Int) ((List Int) × Int)) :=
  if decide (s3.2 < (p0a.length : Int)) then ((getI p0a s3.2).bind fun x6 => (getI s3.1 s3.2).bind fun x7 => some (.nxt (s3.1.set s3.2.toNat x6, IntKind.i64.wrap (s3.2 + 1)))) else (some (.brk (s3.1, s3.2)))
def m_w_toIntS (p0a : List Int) : Option (List Int) :=
  (mkI 8 (p0a.length : Int) (0 : Int)).bind fun x1 => bindL (loopM (m_w_toIntS_l0 p0a) FUEL (x1, 0)) (fun r => some r) (fun s4 => some s4.1)
def m_w_toEdge (p0a : Int × Int × Int × Int) : Option (Int × Int × Int × Int) :=
  some (p0a.1, p0a.2.1, p0a.2.2.1, p0a.2.2.2)
def m_w_toEdgeS_l0 (p0a : List (Int × Int × Int × Int)) (s3 : (List (Int × Int × Int × Int)) × Int) : Option (Out (List (Int × Int × Int × Int)) ((List (Int × Int × Int × Int)) × Int)) :=
  if decide (s3.2 < (p0a.length : Int)) then ((getI p0a s3.2).bind fun x6 => (m_w_toEdge (x6.1, x6.2.1, x6.2.2.1, x6.2.2.2)).bind fun r3 => (getI s3.1 s3.2).bind fun x7 => some (.nxt (s3.1.set s3.2.toNat (r3.1, r3.2.1, r3.2.2.1, r3.2.2.2), IntKind.i64.wrap (s3.2 + 1)))) else (some (.brk (s3.1, s3.2)))
def m_w_toEdgeS (p0a : List (Int × Int × Int × Int)) : Option (List (Int × Int × Int × Int)) :=
  (mkI 32 (p0a.length : Int) ((0, 0, 0, 0) : Int × Int × Int × Int)).bind fun x1 => bindL (loopM (m_w_toEdgeS_l0 p0a) FUEL (x1, 0)) (fun r => some r) (fun s4 => some s4.1)
def m_w_toGraph (p0a : (List Int) × (List (Int × Int × Int × Int))) : Option ((List Int) × (List (Int × Int × Int × Int))) :=
  (m_w_toIntS p0a.1).bind fun r1 => (m_w_toEdgeS p0a.2).bind fun r2 => some (r1, r2)
def m_w_toGraphS_l0 (p0a : List ((List Int) × (List (Int × Int × Int × Int)))) (s3 : (List ((List Int) × (List (Int × Int × Int × Int)))) × Int) : Option (Out (List ((List Int) × (List (Int × Int × Int × Int)))) ((List ((List Int) × (List (Int × Int × Int × Int)))) × Int)) :=
  if decide (s3.2 < (p0a.length : Int)) then ((getI p0a s3.2).bind fun x6 => (m_w_toGraph (x6.1, x6.2)).bind fun r9 => (getI s3.1 s3.2).bind fun x7 => some (.nxt (s3.1.set s3.2.toNat (r9.1, r9.2), IntKind.i64.wrap (s3.2 + 1)))) else (some (.brk (s3.1, s3.2)))
def m_w_toGraphS (p0a : List ((List Int) × (List (Int × Int × Int × Int)))) : Option (List ((List Int) × (List (Int × Int × Int × Int)))) :=
  (mkI 48 (p0a.length : Int) (([], []) : (List Int) × (List (Int × Int × Int × Int)))).bind fun x1 => bindL (loopM (m_w_toGraphS_l0 p0a) FUEL (x1, 0)) (fun r => some r) (fun s4 => some s4.1)
def m_w_toHistory (p0a : Int × (List ((List Int) × (List (Int × Int × Int × Int))))) : Option (Int × (List ((List Int) × (List (Int × Int × Int × Int))))) :=
  (m_w_toGraphS p0a.2).bind fun r1 => some (p0a.1, r1)
def m_i_copyInts (p0l : List Int) : Option (List Int) :=
  (appI 8 ([] : List Int) p0l).bind fun z1 => some z1
def m_i_copyGraph (p0g : (List Int) × (List (Int × Int × Int × Int))) : Option ((List Int) × (List (Int × Int × Int × Int))) :=
  (m_i_copyInts p0g.1).bind fun r1 => (appI 32 ([] : List (Int × Int × Int × Int)) p0g.2).bind fun z1 => some (r1, z1)
def m_i_copyHistory_l0 (p0h : Int × (List ((List Int) × (List (Int × Int × Int × Int))))) (s3 : Int × Int × (List ((List Int) × (List (Int × Int × Int × Int))))) : Option (Out (Int × (List ((List Int) × (List (Int × Int × Int × Int))))) (Int × Int × (List ((List Int) × (List (Int × Int × Int × Int)))))) :=
  if decide (s3.1 < (p0h.2.length : Int)) then ((getI p0h.2 s3.1).bind fun x3 => (m_i_copyGraph (x3.1, x3.2)).bind fun r9 => (appI 48 s3.2.2 ([(r9.1, r9.2)])).bind fun z3 => some (.nxt (IntKind.i64.wrap (s3.1 + 1), s3.2.1, z3))) else (some (.brk (s3.1, s3.2.1, s3.2.2)))
def m_i_copyHistory (p0h : Int × (List ((List Int) × (List (Int × Int × Int × Int))))) : Option (Int × (List ((List Int) × (List (Int × Int × Int × Int))))) :=
  bindL (loopM (m_i_copyHistory_l0 p0h) FUEL (0, p0h.1, [])) (fun r => some r) (fun s4 => some (s4.2.1, s4.2.2))
def m_i_within (p0n : Int) (p1a : Int) (p2b : Int) : Option Bool :=
  if decide (p0n ≥ p1a) then (some (decide (p0n ≤ p2b))) else (some false)
def m_i_edgeOk (p0e : Int × Int × Int × Int) (p1nodes : Int) : Option Bool :=
  (m_i_within p0e.1 1 99).bind fun r1 => if r1 then ((m_i_within p0e.2.1 0 (IntKind.i64.wrap (p1nodes - 1))).bind fun r2 => if r2 then ((m_i_within p0e.2.2.1 0 (IntKind.i64.wrap (p1nodes - 1))).bind fun r3 => if r3 then ((m_i_within p0e.2.2.2 0 2).bind fun r4 => some r4) else (some false)) else (some false)) else (some false)
def m_i_IsValidGraph_l0 (p0g : (List Int) × (List (Int × Int × Int × Int))) (s3 : Int) : Option (Out Bool Int) :=
  if decide (s3 < (p0g.1.length : Int)) then ((getI p0g.1 s3).bind fun x3 => (m_i_within x3 0 2).bind fun r3 => if r3 then (some (.nxt (IntKind.i64.wrap (s3 + 1)))) else (some (.ret false))) else (some (.brk s3))
def m_i_IsValidGraph_l1 (p0g : (List Int) × (List (Int × Int × Int × Int))) (s7 : Int) : Option (Out Bool Int) :=
  if decide (s7 < (p0g.2.length : Int)) then ((getI p0g.2 s7).bind fun x8 => (m_i_edgeOk (x8.1, x8.2.1, x8.2.2.1, x8.2.2.2) (p0g.1.length : Int)).bind fun r6 => if r6 then (if decide (s7 > 0) then ((getI p0g.2 (IntKind.i64.wrap (s7 - 1))).bind fun x9 => if decide (x9.1 ≥ x8.1) then (some (.ret false)) else (some (.nxt (IntKind.i64.wrap (s7 + 1))))) else (some (.nxt (IntKind.i64.wrap (s7 + 1))))) else (some (.ret false))) else (some (.brk s7))
def m_i_IsValidGraph (p0g : (List Int) × (List (Int × Int × Int × Int))) : Option Bool :=
  bindL (loopM (m_i_IsValidGraph_l0 p0g) FUEL 0) (fun r => some r) (fun s4 => bindL (loopM (m_i_IsValidGraph_l1 p0g) FUEL 0) (fun r => some r) (fun s8 => (m_i_within (p0g.1.length : Int) 1 5).bind fun r7 => if r7 then (some (decide ((p0g.2.length : Int) ≤ 12))) else (some false)))
def m_g_slices_Equal_S_int_int_l0 (p0s1 : List Int) (p1s2 : List Int) (s3 : Int) : Option (Out Bool Int) :=
  if decide (s3 < (p0s1.length : Int)) then ((getI p0s1 s3).bind fun x5 => (getI p1s2 s3).bind fun x6 => if x5 != x6 then (some (.ret false)) else (some (.nxt (IntKind.i64.wrap (s3 + 1))))) else (some (.brk s3))
def m_g_slices_Equal_S_int_int (p0s1 : List Int) (p1s2 : List Int) : Option Bool :=
  if (p0s1.length : Int) != (p1s2.length : Int) then (some false) else (bindL (loopM (m_g_slices_Equal_S_int_int_l0 p0s1 p1s2) FUEL 0) (fun r => some r) (fun s4 => some true))
def m_i_IsValidHistory_l0 (p0h : Int × (List ((List Int) × (List (Int × Int × Int × Int))))) (s3 : Int) : Option (Out Bool Int) :=
  if decide (s3 < (p0h.2.length : Int)) then ((getI p0h.2 s3).bind fun x5 => (m_i_IsValidGraph (x5.1, x5.2)).bind fun r15 => if r15 then ((getI p0h.2 0).bind fun x6 => (m_g_slices_Equal_S_int_int x5.1 x6.1).bind fun r17 => if r17 then (some (.nxt (IntKind.i64.wrap (s3 + 1)))) else (some (.ret false))) else (some (.ret false))) else (some (.brk s3))
def m_i_IsValidHistory (p0h : Int × (List ((List Int) × (List (Int × Int × Int × Int))))) : Option Bool :=
  (m_i_within (p0h.2.length : Int) 1 8).bind fun r1 => if r1 then ((m_i_within p0h.1 1 (IntKind.i64.wrap ((IntKind.i64.wrap (999 - (p0h.2.length : Int))) + 1))).bind fun r2 => if r2 then (bindL (loopM (m_i_IsValidHistory_l0 p0h) FUEL 0) (fun r => some r) (fun s4 => some true)) else (some false)) else (some false)
def m_i_LatestVersion (p0h : Int × (List ((List Int) × (List (Int × Int × Int × Int))))) : Option Int :=
  (m_i_IsValidHistory (p0h.1, p0h.2)).bind fun r1 => if r1 then (some (IntKind.i64.wrap ((IntKind.i64.wrap (p0h.1 + (p0h.2.length : Int))) - 1))) else (some 0)
def m_i_ReplayLog_1 (p0 : Int × List ((List Int) × List (Int × Int × Int × Int))) : Option (Int × Int × List ((List Int) × List (Int × Int × Int × Int))) :=
  (m_i_LatestVersion (p0.1, p0.2)).bind fun r0 => some (r0, p0.1, p0.2)
def m_g_slices_IndexFunc_S_Edge_Edge_l0 (p0s : List (Int × Int × Int × Int)) (p1f : (Int × Int × Int × Int) → Option Bool) (s3 : Int) : Option (Out Int Int) :=
  if decide (s3 < (p0s.length : Int)) then ((getI p0s s3).bind fun x3 => (p1f (x3.1, x3.2.1, x3.2.2.1, x3.2.2.2)).bind fun r3 => if r3 then (some (.ret s3)) else (some (.nxt (IntKind.i64.wrap (s3 + 1))))) else (some (.brk s3))
def m_g_slices_IndexFunc_S_Edge_Edge (p0s : List (Int × Int × Int × Int)) (p1f : (Int × Int × Int × Int) → Option Bool) : Option Int :=
  bindL (loopM (m_g_slices_IndexFunc_S_Edge_Edge_l0 p0s p1f) FUEL 0) (fun r => some r) (fun s4 => some (-1))
def m_i_EdgeIndex_1 (p0e : Int × Int × Int × Int) (q0 : Int) : Option Bool :=
  some (p0e.1 == q0)
def m_i_EdgeIndex (p0g : (List Int) × (List (Int × Int × Int × Int))) (p1id : Int) : Option Int :=
  (m_g_slices_IndexFunc_S_Edge_Edge p0g.2 (fun a0 => m_i_EdgeIndex_1 a0 p1id)).bind fun r1 => some r1
def m_g_slices_Insert_S_Edge_Edge (p0 : List (Int × Int × Int × Int)) (p1 : Int) (p2 : List (Int × Int × Int × Int)) : Option ((List (Int × Int × Int × Int)) × (List (Int × Int × Int × Int))) := R.insI 32 p0 p1 p2
def m_i_InsertEdge_l0 (p1e : Int × Int × Int × Int) (r0 : (List Int) × List (Int × Int × Int × Int)) (s5 : Int) : Option (Out (((List Int) × List (Int × Int × Int × Int)) × Bool) Int) :=
  if decide (s5 < (r0.2.length : Int)) then ((getI r0.2 s5).bind fun x7 => if decide (x7.1 < p1e.1) then (some (.nxt (IntKind.i64.wrap (s5 + 1)))) else (some (.brk s5))) else (some (.brk s5))
def m_i_InsertEdge (p0g : (List Int) × List (Int × Int × Int × Int)) (p1e : Int × Int × Int × Int) : Option (((List Int) × List (Int × Int × Int × Int)) × Bool) :=
  (m_i_copyGraph (p0g.1, p0g.2)).bind fun r0 => (m_i_IsValidGraph (p0g.1, p0g.2)).bind fun r1 => if r1 then ((m_i_edgeOk (p1e.1, p1e.2.1, p1e.2.2.1, p1e.2.2.2) (p0g.1.length : Int)).bind fun r2 => if r2 then ((m_i_EdgeIndex (p0g.1, p0g.2) p1e.1).bind fun r3 => if decide (r3 ≥ 0) then (some ((r0.1, r0.2), false)) else (if (p0g.2.length : Int) == 12 then (some ((r0.1, r0.2), false)) else (bindL (loopM (m_i_InsertEdge_l0 p1e r0) FUEL 0) (fun r8 => some r8) (fun s9 => (m_g_slices_Insert_S_Edge_Edge r0.2 s9 ([(p1e.1, p1e.2.1, p1e.2.2.1, p1e.2.2.2)])).bind fun r10 => some ((r0.1, r10.1), true))))) else (some ((r0.1, r0.2), false))) else (some ((r0.1, r0.2), false))
def m_g_slices_Index_S_Edge_Edge_l0 (p0s : List (Int × Int × Int × Int)) (p1v : Int × Int × Int × Int) (s3 : Int) : Option (Out Int Int) :=
  if decide (s3 < (p0s.length : Int)) then ((getI p0s s3).bind fun x3 => if ((p1v.1 == x3.1) && ((p1v.2.1 == x3.2.1) && ((p1v.2.2.1 == x3.2.2.1) && ((p1v.2.2.2 == x3.2.2.2) && true)))) then (some (.ret s3)) else (some (.nxt (IntKind.i64.wrap (s3 + 1))))) else (some (.brk s3))
def m_g_slices_Index_S_Edge_Edge (p0s : List (Int × Int × Int × Int)) (p1v : Int × Int × Int × Int) : Option Int :=
  bindL (loopM (m_g_slices_Index_S_Edge_Edge_l0 p0s p1v) FUEL 0) (fun r => some r) (fun s4 => some (-1))
def m_g_slices_Contains_S_Edge_Edge (p0s : List (Int × Int × Int × Int)) (p1v : Int × Int × Int × Int) : Option Bool :=
  (m_g_slices_Index_S_Edge_Edge p0s (p1v.1, p1v.2.1, p1v.2.2.1, p1v.2.2.2)).bind fun r1 => some (decide (r1 ≥ 0))
def m_g_slices_Delete_S_Edge_Edge (p0 : List (Int × Int × Int × Int)) (p1 p2 : Int) : Option (List (Int × Int × Int × Int)) := R.delI p0 p1 p2
def m_i_DeleteEdge (p0g : (List Int) × List (Int × Int × Int × Int)) (p1id : Int) : Option (((List Int) × List (Int × Int × Int × Int)) × Bool) :=
  (m_i_copyGraph (p0g.1, p0g.2)).bind fun r0 => (m_i_EdgeIndex (p0g.1, p0g.2) p1id).bind fun r1 => if decide (r1 < 0) then (some ((r0.1, r0.2), false)) else ((m_i_IsValidGraph (p0g.1, p0g.2)).bind fun r2 => if r2 then ((m_g_slices_Delete_S_Edge_Edge r0.2 r1 (IntKind.i64.wrap (r1 + 1))).bind fun r3 => some ((r0.1, r3), true)) else (some ((r0.1, r0.2), false)))
def m_i_ApplyBatch_l0 (p0g : (List Int) × (List (Int × Int × Int × Int))) (p1b : (List (Bool × (Int × Int × Int × Int)))) (s5 : Int × (List Int) × (List (Int × Int × Int × Int))) : Option (Out (((List Int) × (List (Int × Int × Int × Int))) × Bool) (Int × (List Int) × (List (Int × Int × Int × Int)))) :=
  if decide (s5.1 < (p1b.length : Int)) then ((getI p1b s5.1).bind fun x3 => Option.bind ((if x3.1 then ((m_i_InsertEdge (s5.2.1, s5.2.2) (x3.2.1, x3.2.2.1, x3.2.2.2.1, x3.2.2.2.2)).bind fun r22 => some (r22.2, r22.1.1, r22.1.2)) else ((m_g_slices_Contains_S_Edge_Edge s5.2.2 (x3.2.1, x3.2.2.1, x3.2.2.2.1, x3.2.2.2.2)).bind fun r20 => if r20 then ((m_i_DeleteEdge (s5.2.1, s5.2.2) x3.2.1).bind fun r21 => some (r21.2, r21.1.1, r21.1.2)) else (some (false, s5.2.1, s5.2.2))) : Option (Bool × (List Int) × (List (Int × Int × Int × Int))))) (fun s7 => if s7.1 then (some (.nxt (IntKind.i64.wrap (s5.1 + 1), s7.2.1, s7.2.2))) else ((m_i_copyGraph (p0g.1, p0g.2)).bind fun r23 => some (.ret ((r23.1, r23.2), false))))) else (some (.brk (s5.1, s5.2.1, s5.2.2)))
def m_i_ApplyBatch (p0g : (List Int) × (List (Int × Int × Int × Int))) (p1b : (List (Bool × (Int × Int × Int × Int)))) : Option (((List Int) × (List (Int × Int × Int × Int))) × Bool) :=
  (m_i_copyGraph (p0g.1, p0g.2)).bind fun r1 => (m_i_IsValidGraph (p0g.1, p0g.2)).bind fun r2 => if r2 then (if decide ((p1b.length : Int) > 6) then (some ((r1.1, r1.2), false)) else (bindL (loopM (m_i_ApplyBatch_l0 p0g p1b) FUEL (0, r1.1, r1.2)) (fun r => some r) (fun s6 => some ((s6.2.1, s6.2.2), true)))) else (some ((r1.1, r1.2), false))
def m_i_AppendBatch (p0h : Int × List ((List Int) × List (Int × Int × Int × Int))) (p1b : List (Bool × Int × Int × Int × Int)) : Option ((Int × List ((List Int) × List (Int × Int × Int × Int))) × Bool) :=
  (m_i_copyHistory (p0h.1, p0h.2)).bind fun r0 => (m_i_LatestVersion (p0h.1, p0h.2)).bind fun r1 => if r1 == 0 then (some ((r0.1, r0.2), false)) else (if r1 == 999 then (some ((r0.1, r0.2), false)) else ((getI p0h.2 (IntKind.i64.wrap ((p0h.2.length : Int) - 1))).bind fun x4 => (m_i_ApplyBatch (x4.1, x4.2) p1b).bind fun r5 => if r5.2 then ((appI 48 r0.2 ([(r5.1.1, r5.1.2)])).bind fun z6 => Option.bind ((if decide ((z6.length : Int) > 8) then ((chk (And ((0 : Int) ≤ 1) (1 ≤ (z6.length : Int)))).bind fun _ => some (IntKind.i64.wrap (r0.1 + 1), z6.drop 1)) else (some (r0.1, z6)) : Option (Int × List ((List Int) × List (Int × Int × Int × Int))))) (fun s8 => some ((s8.1, s8.2), true))) else (some ((r0.1, r0.2), false))))
def m_i_ReplayLog_2 (p0b : List (Bool × Int × Int × Int × Int)) (p1 : Int × List ((List Int) × List (Int × Int × Int × Int))) : Option (Bool × Int × List ((List Int) × List (Int × Int × Int × Int))) :=
  (m_i_AppendBatch (p1.1, p1.2) p0b).bind fun r0 => some (r0.2, r0.1.1, r0.1.2)
def m_g_strings_IndexByte (p0 : ByteArray) (p1 : Int) : Option Int := R.indexByteS p0 p1
def m_g_strings_Split (p0 p1 : ByteArray) : Option (List ByteArray) := R.splitS p0 p1
def m_i_ParseInt (p0 : ByteArray) : Option (Int × Bool) := R.parseIntS p0
def m_g_strings_Cut (p0 p1 : ByteArray) : Option (ByteArray × ByteArray × Bool) := R.cutS p0 p1
def m_g_strconv_Itoa (p0 : Int) : Option (ByteArray) := R.itoaS p0
def m_i_FormatInt (p0n : Int) : Option ByteArray :=
  (m_g_strconv_Itoa p0n).bind fun r0 => some r0
def m_i_FormatEdge (p0e : Int × Int × Int × Int) : Option ByteArray :=
  (m_i_edgeOk (p0e.1, p0e.2.1, p0e.2.2.1, p0e.2.2.2) 5).bind fun r0 => if r0 then ((m_i_FormatInt p0e.1).bind fun r9 => (catS r9 (⟨#[58]⟩)).bind fun z10 => (m_i_FormatInt p0e.2.1).bind fun r11 => (catS z10 r11).bind fun z12 => (strSl (⟨#[97, 98, 99]⟩) p0e.2.2.2 (IntKind.i64.wrap (p0e.2.2.2 + 1))).bind fun z13 => (catS z12 z13).bind fun z14 => (m_i_FormatInt p0e.2.2.1).bind fun r15 => (catS z14 r15).bind fun z16 => some z16) else (some ((⟨#[]⟩ : ByteArray)))
def m_i_ParseEdge (p0s : ByteArray) : Option ((Int × Int × Int × Int) × Bool) :=
  (m_g_strings_Cut p0s (⟨#[58]⟩)).bind fun r0 => if ((r0.2.1.size : Nat) : Int) != 3 then (some ((0, 0, 0, 0), false)) else ((strAt r0.2.1 0).bind fun z4 => (strAt r0.2.1 1).bind fun z5 => (strAt r0.2.1 2).bind fun z6 => (m_i_ParseInt r0.1).bind fun r7 => (m_i_FormatEdge (r7.1, IntKind.i64.wrap ((IntKind.i64.wrap z4) - 48), IntKind.i64.wrap ((IntKind.i64.wrap z6) - 48), IntKind.i64.wrap ((IntKind.i64.wrap z5) - 97))).bind fun r8 => if r8 != p0s then (some ((0, 0, 0, 0), false)) else (some ((r7.1, IntKind.i64.wrap ((IntKind.i64.wrap z4) - 48), IntKind.i64.wrap ((IntKind.i64.wrap z6) - 48), IntKind.i64.wrap ((IntKind.i64.wrap z5) - 97)), true)))
def m_g_strings_Join (p0 : List ByteArray) (p1 : ByteArray) : Option (ByteArray) := R.joinS p0 p1
def m_i_FormatBatch_l0 (p0b : List (Bool × Int × Int × Int × Int)) (s1 : (List ByteArray) × Int) : Option (Out ByteArray ((List ByteArray) × Int)) :=
  if decide (s1.2 < (p0b.length : Int)) then (bindJ (S := List ByteArray) ((getI p0b s1.2).bind fun x2 => (m_i_FormatEdge (x2.2.1, x2.2.2.1, x2.2.2.2.1, x2.2.2.2.2)).bind fun r3 => if r3 == ((⟨#[]⟩ : ByteArray)) then (some (.inl (.ret ((⟨#[]⟩ : ByteArray))))) else (if x2.1 then ((catS (⟨#[43]⟩) r3).bind fun z4 => (appI 16 s1.1 ([z4])).bind fun z5 => some (.inr z5)) else ((catS (⟨#[45]⟩) r3).bind fun z6 => (appI 16 s1.1 ([z6])).bind fun z7 => some (.inr z7)))) (fun s8 => some (.nxt (s8, IntKind.i64.wrap (s1.2 + 1))))) else (some (.brk (s1.1, s1.2)))
def m_i_FormatBatch (p0b : List (Bool × Int × Int × Int × Int)) : Option ByteArray :=
  if decide ((p0b.length : Int) > 6) then (some ((⟨#[]⟩ : ByteArray))) else (bindL (loopM (m_i_FormatBatch_l0 p0b) FUEL (([] : List ByteArray), 0)) (fun r9 => some r9) (fun s10 => (m_g_strings_Join s10.1 (⟨#[32]⟩)).bind fun r11 => some r11))
def m_i_ParseBatch_l0 (r0 : List ByteArray) (s3 : Int × List (Bool × Int × Int × Int × Int)) : Option (Out ((List (Bool × Int × Int × Int × Int)) × Bool) (Int × List (Bool × Int × Int × Int × Int))) :=
  if decide (s3.1 < (r0.length : Int)) then ((getI r0 s3.1).bind fun x4 => if x4 == ((⟨#[]⟩ : ByteArray)) then (some (.ret (([] : List (Bool × Int × Int × Int × Int)), false))) else ((strSl x4 1 ((x4.size : Nat) : Int)).bind fun z5 => (m_i_ParseEdge z5).bind fun r6 => if r6.2 then ((strAt x4 0).bind fun z9 => (appI 40 s3.2 ([(z9 == 43, r6.1.1, r6.1.2.1, r6.1.2.2.1, r6.1.2.2.2)])).bind fun z10 => some (.nxt (IntKind.i64.wrap (s3.1 + 1), z10))) else (some (.ret (([] : List (Bool × Int × Int × Int × Int)), false))))) else (some (.brk (s3.1, s3.2)))
def m_i_ParseBatch (p0s : ByteArray) : Option ((List (Bool × Int × Int × Int × Int)) × Bool) :=
  if p0s == ((⟨#[]⟩ : ByteArray)) then (some (([] : List (Bool × Int × Int × Int × Int)), true)) else ((m_g_strings_Split p0s (⟨#[32]⟩)).bind fun r0 => bindL (loopM (m_i_ParseBatch_l0 r0) FUEL (0, ([] : List (Bool × Int × Int × Int × Int)))) (fun r11 => some r11) (fun s12 => (m_i_FormatBatch s12.2).bind fun r13 => if r13 != p0s then (some (([] : List (Bool × Int × Int × Int × Int)), false)) else (some (s12.2, true))))
def m_i_Checksum_l0 (p0s : ByteArray) (s1 : Int × Int) : Option (Out Int (Int × Int)) :=
  if decide (s1.2 < ((p0s.size : Nat) : Int)) then ((strAt p0s s1.2).bind fun z2 => some (.nxt (Int.tmod (IntKind.i64.wrap ((IntKind.i64.wrap ((IntKind.i64.wrap (257 * s1.1)) + (IntKind.i64.wrap z2))) + 1)) 9973, IntKind.i64.wrap (s1.2 + 1)))) else (some (.brk (s1.1, s1.2)))
def m_i_Checksum (p0s : ByteArray) : Option Int :=
  bindL (loopM (m_i_Checksum_l0 p0s) FUEL (1, 0)) (fun r3 => some r3) (fun s4 => some s4.1)
def m_i_EncodeRecord (p0version : Int) (p1b : List (Bool × Int × Int × Int × Int)) : Option ByteArray :=
  (m_i_FormatBatch p1b).bind fun r0 => (m_i_within p0version 1 999).bind fun r1 => if r1 then (if r0 == ((⟨#[]⟩ : ByteArray)) then (if decide ((p1b.length : Int) > 0) then (some ((⟨#[]⟩ : ByteArray))) else ((m_i_FormatInt p0version).bind fun r2 => (catS r2 (⟨#[59]⟩)).bind fun z3 => (catS z3 r0).bind fun z4 => (catS z4 (⟨#[59]⟩)).bind fun z5 => (m_i_Checksum z5).bind fun r6 => (m_i_FormatInt r6).bind fun r7 => (catS z5 r7).bind fun z8 => (catS z8 (⟨#[10]⟩)).bind fun z9 => some z9)) else ((m_i_FormatInt p0version).bind fun r10 => (catS r10 (⟨#[59]⟩)).bind fun z11 => (catS z11 r0).bind fun z12 => (catS z12 (⟨#[59]⟩)).bind fun z13 => (m_i_Checksum z13).bind fun r14 => (m_i_FormatInt r14).bind fun r15 => (catS z13 r15).bind fun z16 => (catS z16 (⟨#[10]⟩)).bind fun z17 => some z17)) else (some ((⟨#[]⟩ : ByteArray)))
def m_i_DecodeRecord (p0s : ByteArray) : Option (Int × (List (Bool × Int × Int × Int × Int)) × Bool) :=
  (m_g_strings_Split p0s (⟨#[59]⟩)).bind fun r0 => if (r0.length : Int) != 3 then (some (0, ([] : List (Bool × Int × Int × Int × Int)), false)) else ((getI r0 0).bind fun x1 => (m_i_ParseInt x1).bind fun r2 => (getI r0 1).bind fun x3 => (m_i_ParseBatch x3).bind fun r4 => if r2.2 then (if r4.2 then ((m_i_EncodeRecord r2.1 r4.1).bind fun r5 => if r5 != p0s then (some (0, ([] : List (Bool × Int × Int × Int × Int)), false)) else (some (r2.1, r4.1, true))) else (some (0, ([] : List (Bool × Int × Int × Int × Int)), false))) else (some (0, ([] : List (Bool × Int × Int × Int × Int)), false)))
def m_i_ScanLog_l0 (p0 : ByteArray) (s1 : (List Int) × (List (List (Bool × Int × Int × Int × Int))) × Int) : Option (Out ((List Int) × (List (List (Bool × Int × Int × Int × Int))) × Int) ((List Int) × (List (List (Bool × Int × Int × Int × Int))) × Int)) :=
  if decide (((p0.size : Nat) : Int) ≤ 4000) then ((strSl p0 s1.2.2 ((p0.size : Nat) : Int)).bind fun z2 => (m_g_strings_IndexByte z2 10).bind fun r3 => if decide (r3 < 0) then (some (.brk (s1.1, s1.2.1, s1.2.2))) else ((strSl p0 s1.2.2 (IntKind.i64.wrap ((IntKind.i64.wrap (s1.2.2 + r3)) + 1))).bind fun z4 => (m_i_DecodeRecord z4).bind fun r5 => if r5.2.2 then (if decide ((s1.1.length : Int) > 0) then ((getI s1.1 (IntKind.i64.wrap ((s1.1.length : Int) - 1))).bind fun x6 => if r5.1 != (IntKind.i64.wrap (x6 + 1)) then (some (.brk (s1.1, s1.2.1, s1.2.2))) else ((appI 8 s1.1 ([r5.1])).bind fun z7 => (appI 24 s1.2.1 ([r5.2.1])).bind fun z8 => some (.nxt (z7, z8, IntKind.i64.wrap (s1.2.2 + (IntKind.i64.wrap (r3 + 1))))))) else ((appI 8 s1.1 ([r5.1])).bind fun z9 => (appI 24 s1.2.1 ([r5.2.1])).bind fun z10 => some (.nxt (z9, z10, IntKind.i64.wrap (s1.2.2 + (IntKind.i64.wrap (r3 + 1))))))) else (some (.brk (s1.1, s1.2.1, s1.2.2))))) else (some (.brk (s1.1, s1.2.1, s1.2.2)))
def m_i_ScanLog (p0 : ByteArray) : Option ((List Int) × (List (List (Bool × Int × Int × Int × Int))) × Int) :=
  bindL (loopM (m_i_ScanLog_l0 p0) FUEL (([] : List Int), ([] : List (List (Bool × Int × Int × Int × Int))), 0)) (fun r11 => some r11) (fun s12 => some (s12.1, s12.2.1, s12.2.2))
def m_i_replay_l0 (r0 : (List Int) × (List (List (Bool × Int × Int × Int × Int))) × Int) (s3 : Int × Int × (List (List (Bool × Int × Int × Int × Int))) × Int × List ((List Int) × List (Int × Int × Int × Int))) : Option (Out (Int × Int × List ((List Int) × List (Int × Int × Int × Int))) (Int × Int × (List (List (Bool × Int × Int × Int × Int))) × Int × List ((List Int) × List (Int × Int × Int × Int)))) :=
  if decide (s3.2.1 < (r0.1.length : Int)) then (bindJ (S := Int × (List (List (Bool × Int × Int × Int × Int))) × Int × List ((List Int) × List (Int × Int × Int × Int))) ((getI r0.1 s3.2.1).bind fun x4 => (m_i_ReplayLog_1 (s3.2.2.2.1, s3.2.2.2.2)).bind fun r5 => if decide (x4 ≤ r5.1) then (some (.inr (s3.1, s3.2.2.1, r5.2.1, r5.2.2))) else ((m_i_ReplayLog_1 (r5.2.1, r5.2.2)).bind fun r6 => if x4 != (IntKind.i64.wrap (r6.1 + 1)) then (some (.inl (.brk (s3.1, s3.2.1, s3.2.2.1, r6.2.1, r6.2.2)))) else ((getI s3.2.2.1 s3.2.1).bind fun x7 => (m_i_ReplayLog_2 x7 (r6.2.1, r6.2.2)).bind fun r8 => if r8.1 then (some (.inr (IntKind.i64.wrap (s3.1 + 1), s3.2.2.1, r8.2.1, r8.2.2))) else (some (.inl (.brk (s3.1, s3.2.1, s3.2.2.1, r8.2.1, r8.2.2))))))) (fun s9 => some (.nxt (s9.1, IntKind.i64.wrap (s3.2.1 + 1), s9.2.1, s9.2.2.1, s9.2.2.2)))) else (some (.brk (s3.1, s3.2.1, s3.2.2.1, s3.2.2.2.1, s3.2.2.2.2)))
def m_i_replay (p0log : ByteArray) (p1latest : Int × List ((List Int) × List (Int × Int × Int × Int))) (p2apply : Unit) : Option (Int × Int × List ((List Int) × List (Int × Int × Int × Int))) :=
  (m_i_ScanLog p0log).bind fun r0 => bindL (loopM (m_i_replay_l0 r0) FUEL (0, 0, r0.2.1, p1latest.1, p1latest.2)) (fun r10 => some r10) (fun s11 => some (s11.1, s11.2.2.2.1, s11.2.2.2.2))
def m_i_ReplayLog (p0h : Int × List ((List Int) × List (Int × Int × Int × Int))) (p1log : ByteArray) : Option ((Int × List ((List Int) × List (Int × Int × Int × Int))) × Int) :=
  (m_i_copyHistory (p0h.1, p0h.2)).bind fun r0 => (m_i_IsValidHistory (p0h.1, p0h.2)).bind fun r1 => if r1 then ((m_i_replay p1log (r0.1, r0.2) ()).bind fun r2 => some ((r2.2.1, r2.2.2), r2.1)) else (some ((r0.1, r0.2), 0))
def m_w_eqIntS_l0 (p0a : List Int) (p1b : List Int) (s3 : Int) : Option (Out Bool Int) :=
  if decide (s3 < (p0a.length : Int)) then ((getI p0a s3).bind fun x5 => (getI p1b s3).bind fun x6 => if x5 != x6 then (some (.ret false)) else (some (.nxt (IntKind.i64.wrap (s3 + 1))))) else (some (.brk s3))
def m_w_eqIntS (p0a : List Int) (p1b : List Int) : Option Bool :=
  if (p0a.length : Int) != (p1b.length : Int) then (some false) else (bindL (loopM (m_w_eqIntS_l0 p0a p1b) FUEL 0) (fun r => some r) (fun s4 => some true))
def m_w_eqEdge (p0a : Int × Int × Int × Int) (p1b : Int × Int × Int × Int) : Option Bool :=
  if p0a.1 != p1b.1 then (some false) else (if p0a.2.1 != p1b.2.1 then (some false) else (if p0a.2.2.1 != p1b.2.2.1 then (some false) else (if p0a.2.2.2 != p1b.2.2.2 then (some false) else (some true))))
def m_w_eqEdgeS_l0 (p0a : List (Int × Int × Int × Int)) (p1b : List (Int × Int × Int × Int)) (s3 : Int) : Option (Out Bool Int) :=
  if decide (s3 < (p0a.length : Int)) then ((getI p0a s3).bind fun x5 => (getI p1b s3).bind fun x6 => (m_w_eqEdge (x5.1, x5.2.1, x5.2.2.1, x5.2.2.2) (x6.1, x6.2.1, x6.2.2.1, x6.2.2.2)).bind fun r3 => if r3 then (some (.nxt (IntKind.i64.wrap (s3 + 1)))) else (some (.ret false))) else (some (.brk s3))
def m_w_eqEdgeS (p0a : List (Int × Int × Int × Int)) (p1b : List (Int × Int × Int × Int)) : Option Bool :=
  if (p0a.length : Int) != (p1b.length : Int) then (some false) else (bindL (loopM (m_w_eqEdgeS_l0 p0a p1b) FUEL 0) (fun r => some r) (fun s4 => some true))
def m_w_eqGraph (p0a : (List Int) × (List (Int × Int × Int × Int))) (p1b : (List Int) × (List (Int × Int × Int × Int))) : Option Bool :=
  (m_w_eqIntS p0a.1 p1b.1).bind fun r1 => if r1 then ((m_w_eqEdgeS p0a.2 p1b.2).bind fun r2 => if r2 then (some true) else (some false)) else (some false)
def m_w_eqGraphS_l0 (p0a : List ((List Int) × (List (Int × Int × Int × Int)))) (p1b : List ((List Int) × (List (Int × Int × Int × Int)))) (s3 : Int) : Option (Out Bool Int) :=
  if decide (s3 < (p0a.length : Int)) then ((getI p0a s3).bind fun x5 => (getI p1b s3).bind fun x6 => (m_w_eqGraph (x5.1, x5.2) (x6.1, x6.2)).bind fun r15 => if r15 then (some (.nxt (IntKind.i64.wrap (s3 + 1)))) else (some (.ret false))) else (some (.brk s3))
def m_w_eqGraphS (p0a : List ((List Int) × (List (Int × Int × Int × Int)))) (p1b : List ((List Int) × (List (Int × Int × Int × Int)))) : Option Bool :=
  if (p0a.length : Int) != (p1b.length : Int) then (some false) else (bindL (loopM (m_w_eqGraphS_l0 p0a p1b) FUEL 0) (fun r => some r) (fun s4 => some true))
def m_w_eqHistory (p0a : Int × (List ((List Int) × (List (Int × Int × Int × Int))))) (p1b : Int × (List ((List Int) × (List (Int × Int × Int × Int))))) : Option Bool :=
  if p0a.1 != p1b.1 then (some false) else ((m_w_eqGraphS p0a.2 p1b.2).bind fun r1 => if r1 then (some true) else (some false))
def m_w_markIntS_l0 (s3 : (List Int) × Int × Int) : Option (Out (Int × (List Int)) ((List Int) × Int × Int)) :=
  if decide (s3.2.2 < (s3.1.length : Int)) then ((getI s3.1 s3.2.2).bind fun x3 => some (.nxt (s3.1.set s3.2.2.toNat s3.2.1, IntKind.i64.wrap (s3.2.1 + 1), IntKind.i64.wrap (s3.2.2 + 1)))) else (some (.brk (s3.1, s3.2.1, s3.2.2)))
def m_w_markIntS (p0a : List Int) (p1k : Int) : Option (Int × (List Int)) :=
  bindL (loopM (m_w_markIntS_l0) FUEL (p0a, p1k, 0)) (fun r => some r) (fun s4 => some (s4.2.1, s4.1))
def m_w_markEdgeS_l0 (s3 : (List (Int × Int × Int × Int)) × Int × Int) : Option (Out (Int × (List (Int × Int × Int × Int))) ((List (Int × Int × Int × Int)) × Int × Int)) :=
  if decide (s3.2.2 < (s3.1.length : Int)) then ((getI s3.1 s3.2.2).bind fun x9 => (getI (s3.1.set s3.2.2.toNat (s3.2.1, x9.2.1, x9.2.2.1, x9.2.2.2)) s3.2.2).bind fun x10 => (getI ((s3.1.set s3.2.2.toNat (s3.2.1, x9.2.1, x9.2.2.1, x9.2.2.2)).set s3.2.2.toNat (x10.1, IntKind.i64.wrap (s3.2.1 + 1), x10.2.2.1, x10.2.2.2)) s3.2.2).bind fun x11 => (getI (((s3.1.set s3.2.2.toNat (s3.2.1, x9.2.1, x9.2.2.1, x9.2.2.2)).set s3.2.2.toNat (x10.1, IntKind.i64.wrap (s3.2.1 + 1), x10.2.2.1, x10.2.2.2)).set s3.2.2.toNat (x11.1, x11.2.1, IntKind.i64.wrap ((IntKind.i64.wrap (s3.2.1 + 1)) + 1), x11.2.2.2)) s3.2.2).bind fun x12 => some (.nxt ((((s3.1.set s3.2.2.toNat (s3.2.1, x9.2.1, x9.2.2.1, x9.2.2.2)).set s3.2.2.toNat (x10.1, IntKind.i64.wrap (s3.2.1 + 1), x10.2.2.1, x10.2.2.2)).set s3.2.2.toNat (x11.1, x11.2.1, IntKind.i64.wrap ((IntKind.i64.wrap (s3.2.1 + 1)) + 1), x11.2.2.2)).set s3.2.2.toNat (x12.1, x12.2.1, x12.2.2.1, IntKind.i64.wrap ((IntKind.i64.wrap ((IntKind.i64.wrap (s3.2.1 + 1)) + 1)) + 1)), IntKind.i64.wrap ((IntKind.i64.wrap ((IntKind.i64.wrap ((IntKind.i64.wrap (s3.2.1 + 1)) + 1)) + 1)) + 1), IntKind.i64.wrap (s3.2.2 + 1)))) else (some (.brk (s3.1, s3.2.1, s3.2.2)))
def m_w_markEdgeS (p0a : List (Int × Int × Int × Int)) (p1k : Int) : Option (Int × (List (Int × Int × Int × Int))) :=
  bindL (loopM (m_w_markEdgeS_l0) FUEL (p0a, p1k, 0)) (fun r => some r) (fun s4 => some (s4.2.1, s4.1))
def m_w_markGraphS_l0 (s3 : (List ((List Int) × (List (Int × Int × Int × Int)))) × Int × Int) : Option (Out (Int × (List ((List Int) × (List (Int × Int × Int × Int))))) ((List ((List Int) × (List (Int × Int × Int × Int)))) × Int × Int)) :=
  if decide (s3.2.2 < (s3.1.length : Int)) then ((getI s3.1 s3.2.2).bind fun x5 => (m_w_markIntS x5.1 s3.2.1).bind fun r10 => (getI (s3.1.set s3.2.2.toNat (r10.2, x5.2)) s3.2.2).bind fun x6 => (m_w_markEdgeS x6.2 r10.1).bind fun r12 => some (.nxt ((s3.1.set s3.2.2.toNat (r10.2, x5.2)).set s3.2.2.toNat (x6.1, r12.2), r12.1, IntKind.i64.wrap (s3.2.2 + 1)))) else (some (.brk (s3.1, s3.2.1, s3.2.2)))
def m_w_markGraphS (p0a : List ((List Int) × (List (Int × Int × Int × Int)))) (p1k : Int) : Option (Int × (List ((List Int) × (List (Int × Int × Int × Int))))) :=
  bindL (loopM (m_w_markGraphS_l0) FUEL (p0a, p1k, 0)) (fun r => some r) (fun s4 => some (s4.2.1, s4.1))
def m_w_markHistory (p0a : Int × (List ((List Int) × (List (Int × Int × Int × Int))))) (p1k : Int) : Option (Int × (Int × (List ((List Int) × (List (Int × Int × Int × Int)))))) :=
  (m_w_markGraphS p0a.2 p1k).bind fun r1 => some (r1.1, (p0a.1, r1.2))
def m_w_heldIntS_l0 (p0a : List Int) (s3 : Int × Int) : Option (Out Int (Int × Int)) :=
  if decide (s3.2 < (p0a.length : Int)) then ((getI p0a s3.2).bind fun x3 => if x3 != s3.1 then (some (.ret (-1))) else (some (.nxt (IntKind.i64.wrap (s3.1 + 1), IntKind.i64.wrap (s3.2 + 1))))) else (some (.brk (s3.1, s3.2)))
def m_w_heldIntS (p0a : List Int) (p1k : Int) : Option Int :=
  bindL (loopM (m_w_heldIntS_l0 p0a) FUEL (p1k, 0)) (fun r => some r) (fun s4 => some s4.1)
def m_w_heldEdgeS_l0 (p0a : List (Int × Int × Int × Int)) (s3 : Int × Int) : Option (Out Int (Int × Int)) :=
  if decide (s3.2 < (p0a.length : Int)) then ((getI p0a s3.2).bind fun x9 => if x9.1 != s3.1 then (some (.ret (-1))) else ((getI p0a s3.2).bind fun x10 => if x10.2.1 != (IntKind.i64.wrap (s3.1 + 1)) then (some (.ret (-1))) else ((getI p0a s3.2).bind fun x11 => if x11.2.2.1 != (IntKind.i64.wrap ((IntKind.i64.wrap (s3.1 + 1)) + 1)) then (some (.ret (-1))) else ((getI p0a s3.2).bind fun x12 => if x12.2.2.2 != (IntKind.i64.wrap ((IntKind.i64.wrap ((IntKind.i64.wrap (s3.1 + 1)) + 1)) + 1)) then (some (.ret (-1))) else (some (.nxt (IntKind.i64.wrap ((IntKind.i64.wrap ((IntKind.i64.wrap ((IntKind.i64.wrap (s3.1 + 1)) + 1)) + 1)) + 1), IntKind.i64.wrap (s3.2 + 1)))))))) else (some (.brk (s3.1, s3.2)))
def m_w_heldEdgeS (p0a : List (Int × Int × Int × Int)) (p1k : Int) : Option Int :=
  bindL (loopM (m_w_heldEdgeS_l0 p0a) FUEL (p1k, 0)) (fun r => some r) (fun s4 => some s4.1)
def m_w_heldGraphS_l0 (p0a : List ((List Int) × (List (Int × Int × Int × Int)))) (s3 : Int × Int) : Option (Out Int (Int × Int)) :=
  if decide (s3.2 < (p0a.length : Int)) then ((getI p0a s3.2).bind fun x5 => (m_w_heldIntS x5.1 s3.1).bind fun r10 => if decide (r10 < 0) then (some (.ret (-1))) else ((getI p0a s3.2).bind fun x6 => (m_w_heldEdgeS x6.2 r10).bind fun r12 => if decide (r12 < 0) then (some (.ret (-1))) else (some (.nxt (r12, IntKind.i64.wrap (s3.2 + 1)))))) else (some (.brk (s3.1, s3.2)))
def m_w_heldGraphS (p0a : List ((List Int) × (List (Int × Int × Int × Int)))) (p1k : Int) : Option Int :=
  bindL (loopM (m_w_heldGraphS_l0 p0a) FUEL (p1k, 0)) (fun r => some r) (fun s4 => some s4.1)
def m_w_heldHistory (p0a : Int × (List ((List Int) × (List (Int × Int × Int × Int))))) (p1k : Int) : Option Int :=
  (m_w_heldGraphS p0a.2 p1k).bind fun r1 => if decide (r1 < 0) then (some (-1)) else (some r1)
def m_w_FnExactReplayLog (p0 : Int × (List ((List Int) × (List (Int × Int × Int × Int))))) (p1 : ByteArray) : Option Bool :=
  if decide ((p1.size : Int) > 1048576) then (some true) else ((m_w_szHistory (p0.1, p0.2) 1048576).bind fun r1 => if decide (r1 < 0) then (some true) else ((m_w_toHistory (p0.1, p0.2)).bind fun r2 => (m_s_ReplayLog (r2.1, r2.2) p1).bind fun r3 => (m_w_toHistory (p0.1, p0.2)).bind fun r4 => (m_i_ReplayLog (r4.1, r4.2) p1).bind fun r5 => (m_w_eqHistory (r5.1.1, r5.1.2) (r3.1.1, r3.1.2)).bind fun r6 => if r6 then (if r5.2 != r3.2 then (some false) else ((m_w_toHistory (p0.1, p0.2)).bind fun r7 => (m_w_eqHistory (r4.1, r4.2) (r7.1, r7.2)).bind fun r8 => if r8 then ((m_w_markHistory (r4.1, r4.2) 1).bind fun r9 => if decide (r9.1 < 0) then (some false) else ((m_w_eqHistory (r5.1.1, r5.1.2) (r3.1.1, r3.1.2)).bind fun r10 => if r10 then (if r5.2 != r3.2 then (some false) else ((m_w_markHistory (r5.1.1, r5.1.2) 1).bind fun r11 => (m_w_heldHistory (r5.1.1, r11.2.2) 1).bind fun r12 => if decide (r12 < 0) then (some false) else (if r12 != r11.1 then (some false) else ((m_w_toHistory (p0.1, p0.2)).bind fun r13 => (m_i_ReplayLog (r13.1, r13.2) p1).bind fun r14 => (m_w_eqHistory (r14.1.1, r14.1.2) (r3.1.1, r3.1.2)).bind fun r15 => if r15 then (if r14.2 != r3.2 then (some false) else ((m_w_heldHistory (r5.1.1, r11.2.2) 1).bind fun r16 => if decide (r16 < 0) then (some false) else (if r16 != r11.1 then (some false) else (some true)))) else (some false))))) else (some false))) else (some false))) else (some false)))
end Go.Proofs.YtfkjjnddefojjaaGreatDoor.D
