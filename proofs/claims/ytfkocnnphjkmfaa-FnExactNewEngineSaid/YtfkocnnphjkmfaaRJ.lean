/- Calls of known functions: arguments, the step. No program text is named here. -/
import Derived.Test.YtfkocnnphjkmfaaRI
set_option linter.unusedVariables false
set_option linter.unusedSimpArgs false
set_option linter.unnecessarySimpa false
set_option linter.unusedSectionVars false
namespace Go.Proofs.Ytfkocnnphjkmfaa.R
open Go.RowKit
open Go.Proofs.Ytfkocnnphjkmfaa.D

section
variable {P : Program} {I : Hp} {w0 w : World} {o : Oper} {ev : Operand → Value}
/-- what is owned, lent out; what is handed over besides comes under the greater frozen part -/
theorem St_lend {ls rn cs : List Ch} (h : St I w0 w (ls ++ (rn ++ cs))) : ∃ J, I.le J ∧ (∀ {α : Type} (R : Rep α) (v : List Value) (a : α), Ch.own R v a ∈ ls → R.rd J v a) ∧ (∀ g l E, Ch.blk g l E ∈ ls → J g = some (.cells l.toArray E (0, 0))) ∧ St J w0 w (rn ++ [Ch.fr I cs]) ∧
    ∀ w' ds, Ch.deeps ds → St J w0 w' (ds ++ [Ch.fr I cs]) → St I w0 w' (ds ++ (ls ++ cs)) := by
  obtain ⟨hb, hi, F, h1, h2, h3⟩ := h
  obtain ⟨G, K, rfl, e2, e3⟩ := h1.split
  obtain ⟨n1, n2, n3⟩ := List.nodup_append.1 h2
  let J : Hp := fun b => if b ∈ G then w.heap[b]? else I b
  have hIJ : I.le J := fun b o hb' => by
    show (if b ∈ G then w.heap[b]? else I b) = some o
    split
    · exact hi b o hb'
    · exact hb'
  have hJG : ∀ b, b ∈ G → J b = w.heap[b]? := fun b hb' => if_pos hb'
  have hJn : ∀ b, b ∉ G → J b = I b := fun b hb' => if_neg hb'
  have hmem : ∀ {ls : List Ch} {G : List Nat} {c : Ch}, Sep I ls w G → c ∈ ls → ∃ G', (∀ b, b ∈ G' → b ∈ G) ∧ c.holds I w G' := by
    intro ls
    induction ls with
    | nil => intro G c _ hc; cases hc
    | cons d ls ih =>
      rintro G c ⟨G1, K1, rfl, e, e'⟩ hc
      rcases List.mem_cons.1 hc with rfl | hc
      · exact ⟨G1, fun b hb => List.mem_append_left _ hb, e⟩
      · obtain ⟨G', f1, f2⟩ := ih e' hc
        exact ⟨G', fun b hb => List.mem_append_right _ (f1 b hb), f2⟩
  obtain ⟨K1, K2, rfl, g1, g2⟩ := e3.split
  refine ⟨J, hIJ, fun R v a hm => ?_, fun g l E hm => ?_, ⟨hb, fun b o hb' => ?_, K1 ++ K2, (g1.mono hIJ).append ⟨K2, [], by simp, g2, rfl⟩, n2, fun b hb' => ?_⟩, ?_⟩
  · obtain ⟨G', f1, f2⟩ := hmem e2 hm
    exact R.own_rd f2 hIJ fun b hb => hJG b (f1 b hb)
  · obtain ⟨G', f1, f2, f3⟩ := hmem e2 hm
    subst f2
    rw [hJG g (f1 g (by simp))]; exact f3
  · by_cases hg : b ∈ G
    · rw [hJG b hg] at hb'; exact hb'
    · rw [hJn b hg] at hb'; exact hi b o hb'
  · rw [hJn b fun hg => n3 b hg b hb' rfl]; exact h3 b (List.mem_append_right _ hb')
  · rintro w' ds hd ⟨kb, ki, F', k1, k2, k3⟩
    obtain ⟨F1, F2, rfl, q1, F3, F4, rfl, q4, rfl⟩ := k1.split
    have hl2 := e2.live
    have hlv : ∀ b, b ∈ G → w'.heap[b]? = w.heap[b]? := fun b hg => by
      obtain ⟨o, ho⟩ : ∃ o, w.heap[b]? = some o := ⟨_, Array.getElem?_eq_getElem (hl2 b hg)⟩
      rw [ho]
      exact ki b o (by rw [hJG b hg]; exact ho)
    have hgd : ∀ b, b ∈ G → b ∉ F1 ++ (F3 ++ []) := fun b hg hf => by
      have := k3 b hf
      rw [hJG b hg, Array.getElem?_eq_getElem (hl2 b hg)] at this
      cases this
    rw [List.append_nil] at k2 k3 hgd
    refine ⟨kb, hIJ.trans ki, F1 ++ (G ++ F3), (q1.deeps hd).append ((e2.stay hlv).append q4), ?_, fun b hb' => ?_⟩
    · have hp : (F1 ++ (G ++ F3)).Perm (G ++ (F1 ++ F3)) := List.perm_append_comm_assoc _ _ _
      exact hp.nodup_iff.2 (List.nodup_append.2 ⟨n1, k2, fun b hb1 c hb2 hbc => hgd b hb1 (hbc ▸ hb2)⟩)
    · have hb'' : b ∈ G ∨ b ∈ F1 ++ F3 := by simp at hb' ⊢; rcases hb' with h | h | h <;> simp [h]
      rcases hb'' with h | h
      · exact h3 b (List.mem_append_left _ h)
      · have := k3 b h
        rw [hJn b fun hg => hgd b hg h] at this
        exact this
theorem OpT_lend {ls rn : List Ch} {fact : Value → Prop} {gv : Value → List Ch} (hd : ∀ v, Ch.deeps (gv v))
    (h : ∀ J, I.le J → (∀ {α : Type} (R : Rep α) (v : List Value) (a : α), Ch.own R v a ∈ ls → R.rd J v a) → (∀ g l E, Ch.blk g l E ∈ ls → J g = some (.cells l.toArray E (0, 0))) → OpT P J w0 o ev rn fact gv) : OpT P I w0 o ev (ls ++ rn) fact (fun v => ls ++ gv v) := by
  intro w C hs
  rw [List.append_assoc] at hs
  obtain ⟨J, h1, h2, h3, h4, h5⟩ := St_lend hs
  refine (h J h1 h2 h3 w _ h4).imp fun v w' hv => ⟨hv.1, ?_⟩
  have := h5 w' _ (hd v) hv.2
  refine this.perm ?_
  rw [List.append_assoc]
  exact List.perm_append_comm_assoc _ _ _
end

/-! ### Arguments -/
def lendSl (chs : List Ent) (E : TypeId) (t : Ty) (x : LV) : Option (List t.den × List Hdr) := match x with
  | .own h => (rowOf h chs).bind fun q => (castTy (.sl q.E q.t) (.sl E t) q.xs).bind fun d => some (d, [h])
  | x => (lvSl E t x).bind fun d => some (d, [])
def lendData (chs : List Ent) : (t : Ty) → List LV → Option (t.den × List LV × List Hdr)
  | .prod a b, l => (lendData chs a l).bind fun x => (lendData chs b x.2.1).bind fun y => some ((x.1, y.1), y.2.1, x.2.2 ++ y.2.2)
  | .sl E t, l => match l with
    | x :: r => (lendSl chs E t x).bind fun q => some (q.1, r, q.2)
    | [] => none
  | .fro t, l => lendData chs t l
  | .wr t, l => lendData chs t l
  | .int k, l => (rdData (.int k) l).bind fun x => some (x.1, x.2, [])
  | .bool, l => (rdData .bool l).bind fun x => some (x.1, x.2, [])
  | .str, l => (rdData .str l).bind fun x => some (x.1, x.2, [])
/-- a block, and no other entry with this header -/
def blkU (h : Hdr) (chs : List Ent) : Option Blk := (blkOf h chs).bind fun b => chkT (noHdr h b.rest) (some b)
theorem blkU_ok {h : Hdr} {chs : List Ent} {b : Blk} (k : blkU h chs = some b) : blkOf h chs = some b ∧ ∀ e ∈ b.rest, e.1 ≠ h := by
  obtain ⟨b', hb, k⟩ := bind_some k
  obtain ⟨h1, k⟩ := chkT_ok k
  obtain rfl := Option.some.inj k
  exact ⟨hb, fun e he => noHdr_ok h1 he⟩
/-- the rows and blocks h are readable -/
def Lent (J : Hp) (θ : Th) (chs : List Ent) (hs : List Hdr) : Prop := ∀ h ∈ hs, (∀ q, rowOf h chs = some q → (Ty.sl q.E q.t).rep.rd J [hv θ h] q.xs) ∧ ∀ b, blkU h chs = some b → J (bk (hv θ h)) = some (.cells (b.cells.map (·.v θ)).toArray b.T (0, 0))
theorem Lent.l {J : Hp} {θ : Th} {chs : List Ent} {a b : List Hdr} (h : Lent J θ chs (a ++ b)) : Lent J θ chs a := fun x hx => h x (List.mem_append_left _ hx)
theorem Lent.r {J : Hp} {θ : Th} {chs : List Ent} {a b : List Hdr} (h : Lent J θ chs (a ++ b)) : Lent J θ chs b := fun x hx => h x (List.mem_append_right _ hx)
theorem lendData_ok {P : Program} {w0 : World} {J : Hp} {θ : Th} {n : Nat} {chs : List Ent} : ∀ {t : Ty} {cs : List LV} {r : t.den × List LV × List Hdr}, lendData chs t cs = some r → (∀ x ∈ cs, x.ok P w0 J θ n) → Lent J θ chs r.2.2 → ∃ c1, cs = c1 ++ r.2.1 ∧ t.rep.rd J (c1.map (·.v θ)) r.1 := by
  intro t
  induction t with
  | prod a b iha ihb =>
    intro cs r h hc hl
    obtain ⟨x, hx, h⟩ := bind_some (show (lendData chs a cs).bind _ = some r from h)
    obtain ⟨y, hy, h⟩ := bind_some h
    obtain rfl := Option.some.inj h
    obtain ⟨c1, rfl, k1⟩ := iha hx hc hl.l
    obtain ⟨c2, e2, k2⟩ := ihb hy (fun z hz => hc z (List.mem_append_right _ hz)) hl.r
    exact ⟨c1 ++ c2, by rw [e2, List.append_assoc], c1.map (·.v θ), c2.map (·.v θ), by rw [List.map_append], k1, k2⟩
  | sl E t ih =>
    intro cs r h hc hl
    cases cs with
    | nil => cases h
    | cons x l =>
      obtain ⟨q, hq, h⟩ := bind_some (show (lendSl chs E t x).bind _ = some r from h)
      obtain rfl := Option.some.inj h
      refine ⟨[x], rfl, ?_⟩
      cases x with
      | own h' =>
        obtain ⟨z, hz, hq⟩ := bind_some (show (rowOf h' chs).bind _ = some q from hq)
        obtain ⟨d, hd, hq⟩ := bind_some hq
        obtain rfl := Option.some.inj hq
        exact castTy_rd hd ((hl h' (by simp)).1 z hz)
      | rd h2 t2 d2 =>
        obtain ⟨d, hd, hq⟩ := bind_some (show (lvSl E t (.rd h2 t2 d2)).bind _ = some q from hq)
        obtain rfl := Option.some.inj hq
        exact lvSl_ok hd (hc _ (by simp))
      | val v =>
        obtain ⟨d, hd, hq⟩ := bind_some (show (lvSl E t (.val v)).bind _ = some q from hq)
        obtain rfl := Option.some.inj hq
        exact lvSl_ok hd (hc _ (by simp))
      | nb _ => cases (show none = some q from hq)
      | ptr _ _ => cases (show none = some q from hq)
      | fn _ _ _ _ => cases (show none = some q from hq)
      | fz _ _ _ _ _ => cases (show none = some q from hq)
      | fzf _ _ _ _ _ => cases (show none = some q from hq)
  | fro t ih =>
    intro cs r h hc hl
    exact ih (show lendData chs t cs = some r from h) hc hl
  | wr t ih =>
    intro cs r h hc hl
    exact ih (show lendData chs t cs = some r from h) hc hl
  | int k =>
    intro cs r h hc hl
    obtain ⟨x, hx, h⟩ := bind_some (show (rdData _ cs).bind _ = some r from h)
    obtain rfl := Option.some.inj h
    exact rdData_ok hx hc
  | bool =>
    intro cs r h hc hl
    obtain ⟨x, hx, h⟩ := bind_some (show (rdData _ cs).bind _ = some r from h)
    obtain rfl := Option.some.inj h
    exact rdData_ok hx hc
  | str =>
    intro cs r h hc hl
    obtain ⟨x, hx, h⟩ := bind_some (show (rdData _ cs).bind _ = some r from h)
    obtain rfl := Option.some.inj h
    exact rdData_ok hx hc
def lendAv (chs : List Ent) (t : Ty) (v : AV) : Option (t.den × List Hdr) := match v, t.isProd with
  | .agg cs, true => (lendData chs t cs).bind fun r => chkT r.2.1.isEmpty (some (r.1, r.2.2))
  | .one x, false => (lendData chs t [x]).bind fun r => chkT r.2.1.isEmpty (some (r.1, r.2.2))
  | _, _ => none
theorem lendAv_ok {P : Program} {w0 : World} {J : Hp} {θ : Th} {n : Nat} {chs : List Ent} {t : Ty} {v : AV} {r : t.den × List Hdr} (h : lendAv chs t v = some r) (hv' : v.ok P w0 J θ n chs) (hl : Lent J θ chs r.2) : ∃ cs, Lds t.isProd cs (v.v θ) ∧ t.rep.rd J cs r.1 := by
  unfold lendAv at h
  split at h
  · rename_i cs hb
    obtain ⟨q, hq, h⟩ := bind_some h
    obtain ⟨he, h⟩ := chkT_ok h
    obtain rfl := Option.some.inj h
    obtain ⟨c1, e, k⟩ := lendData_ok hq hv' hl
    rw [List.isEmpty_iff.1 he, List.append_nil] at e
    subst e
    exact ⟨_, by rw [hb]; rfl, k⟩
  · rename_i x hb
    obtain ⟨q, hq, h⟩ := bind_some h
    obtain ⟨he, h⟩ := chkT_ok h
    obtain rfl := Option.some.inj h
    obtain ⟨c1, e, k⟩ := lendData_ok hq (fun y hy => by obtain rfl := List.mem_singleton.1 hy; exact hv') hl
    rw [List.isEmpty_iff.1 he, List.append_nil] at e
    subst e
    exact ⟨_, by rw [hb]; rfl, k⟩
  · cases h
/-- a function value as an argument -/
def castFn (ps rs ps' rs' : List Ty) (e : cur ps (Option (dens rs))) : Option (cur ps' (Option (dens rs'))) := if h : ps = ps' ∧ rs = rs' then some (h.1 ▸ h.2 ▸ e) else none
theorem castFn_ok {ps rs ps' rs' : List Ty} {e : cur ps (Option (dens rs))} {e' : cur ps' (Option (dens rs'))} (h : castFn ps rs ps' rs' e = some e') {P : Program} {w0 : World} {J : Hp} {v : Value} (hf : FnOk P w0 J v ps rs e) : FnOk P w0 J v ps' rs' e' := by
  unfold castFn at h
  split at h
  · rename_i hh
    obtain ⟨rfl, rfl⟩ := hh
    obtain rfl := Option.some.inj h
    exact hf
  · cases h
/-! ### Function values -/
structure FnR (a b : List Ty) where
  e : cur a (Option (dens b))
  lent : List Hdr
structure CapR (p : PM) where
  d : p.den
  lent : List Hdr
section
variable (ft : FT) (chs : List Ent)
def capOf (rec : (a b : List Ty) → LV → Option (FnR a b)) : (p : PM) → LV → Option (CapR p)
  | .cap T t, x => match x with
    | .ptr h off => chkT (Nat.beq off 0) ((blkU h chs).bind fun b => chkT (Nat.beq b.T T) ((lendData chs t b.cells).bind fun r => chkT r.2.1.isEmpty (some ⟨r.1, h :: r.2.2⟩)))
    | .fz h T' t' d off => chkT (Nat.beq off 0 && Nat.beq T' T) ((castTy t' t d).bind fun d => some ⟨d, []⟩)
    | _ => none
  | .capf T a b, x => match x with
    | .ptr h off => chkT (Nat.beq off 0) ((blkU h chs).bind fun bl => chkT (Nat.beq bl.T T) (match bl.cells with
      | [y] => (rec a b y).bind fun r => some ⟨r.e, h :: r.lent⟩
      | _ => none))
    | .fzf h T' a' b' e => chkT (Nat.beq T' T) ((castFn a' b' a b e).bind fun e => some ⟨e, []⟩)
    | _ => none
  | _, _ => none
def capsOf (rec : (a b : List Ty) → LV → Option (FnR a b)) : (qs : List PM) → List LV → Option (denP qs × List Hdr)
  | [], [] => some ((), [])
  | q :: qs, x :: xs => (capOf chs rec q x).bind fun r => (capsOf rec qs xs).bind fun s => some ((r.d, s.1), r.lent ++ s.2)
  | _, _ => none
def firstOf : (ts : List Ty) → List (Bool × List LV) → Option (denH ts × List Hdr)
  | [], [] => some ((), [])
  | t :: ts, y :: ys => chkT (y.1 == t.isProd) ((lendData chs t y.2).bind fun r => chkT (r.2.1.isEmpty && (y.1 || Nat.beq y.2.length 1)) ((firstOf ts ys).bind fun q => some ((r.1, q.1), r.2.2 ++ q.2)))
  | _, _ => none
end
def rdTys : List PM → Option (List Ty)
  | [] => some []
  | .rd t :: ps => (rdTys ps).bind fun ts => some (t :: ts)
  | _ => none
def rds : List Ty → List PM → List PM
  | [], qs => qs
  | t :: ts, qs => .rd t :: rds ts qs
def rdsP : (ts : List Ty) → (qs : List PM) → denH ts → denP qs → denP (rds ts qs)
  | [], _, _, e => e
  | _ :: ts, qs, d, e => (d.1, rdsP ts qs d.2 e)
def curOf {R : Type} : (a : List Ty) → (denH a → R) → cur a R
  | [], g => g ()
  | _ :: a, g => fun x => curOf a fun d => g (x, d)
theorem app_curOf {R : Type} : ∀ (a : List Ty) (g : denH a → R) (d : denH a), app a (curOf a g) d = g d
  | [], _, _ => rfl
  | _ :: a, g, d => app_curOf a (fun x => g (d.1, x)) d.2
def isCap : PM → Bool
  | .cap _ _ => true
  | .capf _ _ _ => true
  | _ => false
def allCap : List PM → Bool
  | [] => true
  | p :: ps => isCap p && allCap ps
def mkFnQ (chs : List Ent) (rec : (a b : List Ty) → LV → Option (FnR a b)) (a b : List Ty) (f : FS) (r1 : List Ty) (qs : List PM) (first : List (Bool × List LV)) (capt : List LV) : Option (FnR a b) :=
  if h : f.ps = rds r1 (rds a qs) ∧ f.rs ++ outs f.ps = b then
    (firstOf chs r1 first).bind fun d1 => (capsOf chs rec qs capt).bind fun dc =>
      some ⟨curOf a fun x => h.2 ▸ appP f.ps f.m (h.1 ▸ rdsP r1 (rds a qs) d1.1 (rdsP a qs x dc.1)), d1.2 ++ dc.2⟩
  else none
def mkFn (ft : FT) (chs : List Ent) (rec : (a b : List Ty) → LV → Option (FnR a b)) (a b : List Ty) (k : FuncId) (first : List (Bool × List LV)) (capt : List LV) : Option (FnR a b) := (fs ft k).bind fun f => (rdTys (f.ps.take first.length)).bind fun r1 =>
  chkT (allCap (f.ps.drop (first.length + a.length))) (mkFnQ chs rec a b f r1 (f.ps.drop (first.length + a.length)) first capt)
def cloOf (h : Hdr) (chs : List Ent) : Option (FuncId × List (Bool × List LV) × List LV) := (pull h chs).bind fun r => match r.1.2.2 with
  | .clo k first capt => some (k, first, capt)
  | _ => none
def fnOf (ft : FT) (chs : List Ent) : Nat → (a b : List Ty) → LV → Option (FnR a b)
  | 0, _, _, _ => none
  | n + 1, a, b, x => match x with
    | .fn h a' b' e => (castFn a' b' a b e).bind fun e => some ⟨e, []⟩
    | .own h => (cloOf h chs).bind fun q => mkFn ft chs (fnOf ft chs n) a b q.1 q.2.1 q.2.2
    | .val v => match v with
      | .func (.func k) f c => chkT (f.toList.isEmpty && c.toList.isEmpty) (mkFn ft chs (fnOf ft chs n) a b k [] [])
      | _ => none
    | _ => none
section
variable {P : Program} {w0 : World} {J J' : Hp} {θ : Th} {n : Nat} {chs chs0 : List Ent} {ft : FT}
theorem resGo_nil : ∀ (rs us : List Ty) (i : Nat) (d : denH (rs ++ us)) (v : Value), us = [] → resGo i (rs ++ us) d v = resGo i rs (hFst rs us d) v
  | [], us, i, d, v, h => by subst h; rfl
  | t :: rs, us, i, d, v, h => by
    show Ch.own _ _ _ :: resGo (i + 1) (rs ++ us) d.2 v = Ch.own _ _ _ :: resGo (i + 1) rs (hFst rs us d.2) v
    rw [resGo_nil rs us (i + 1) d.2 v h]; rfl
theorem resGv_nil (rs us : List Ty) (d : denH (rs ++ us)) (v : Value) (h : us = []) : resGv (rs ++ us) d v = resGv rs (hFst rs us d) v := by
  match rs, d with
  | [], d => subst h; rfl
  | [t], d => subst h; rfl
  | t :: u :: rs, d => exact resGo_nil (t :: u :: rs) us 0 d v h
theorem resFa_nil (rs us : List Ty) (v : Value) (h : us = []) : resFa rs v → resFa (rs ++ us) v := by
  subst h
  rw [List.append_nil]
  exact id
theorem outs_rds {qs : List PM} : ∀ ts : List Ty, outs (rds ts qs) = outs qs
  | [] => rfl
  | _ :: ts => outs_rds ts
theorem outs_cap {qs : List PM} : allCap qs = true → outs qs = [] := by
  induction qs with
  | nil => intro _; rfl
  | cons q qs ih =>
    intro h
    have h : (isCap q && allCap qs) = true := h
    rw [Bool.and_eq_true] at h
    cases q with
    | cap _ _ => exact ih h.2
    | capf _ _ _ => exact ih h.2
    | _ => cases h.1
theorem owCh_rds {qs : List PM} : ∀ (ts : List Ty) (vs us : List Value) (d : denH ts) (e : denP qs), vs.length = ts.length → owCh (rds ts qs) (vs ++ us) (rdsP ts qs d e) = owCh qs us e
  | [], [], us, d, e, _ => rfl
  | _ :: ts, v :: vs, us, d, e, h => owCh_rds ts vs us d.2 e (by simpa using h)
  | [], _ :: _, _, _, _, h => by cases h
  | _ :: _, [], _, _, _, h => by cases h
theorem owCh_cap {qs : List PM} : ∀ (us : List Value) (e : denP qs), allCap qs = true → owCh qs us e = [] := by
  induction qs with
  | nil => intro us e _; cases us <;> rfl
  | cons q qs ih =>
    intro us e h
    cases us with
    | nil => rfl
    | cons u us =>
      have h : (isCap q && allCap qs) = true := h
      rw [Bool.and_eq_true] at h
      cases q with
      | cap _ _ => exact ih us e.2 h.2
      | capf _ _ _ => exact ih us e.2 h.2
      | _ => cases h.1
theorem outCh_rds {qs : List PM} {us : List Value} : ∀ (ts : List Ty) (vs : List Value), vs.length = ts.length → allCap qs = true → ∀ d : denH (outs (rds ts qs)), outCh (rds ts qs) (vs ++ us) d = []
  | [], [], _, h => fun d => by
    have key : ∀ {qs : List PM} (us : List Value) (d : denH (outs qs)), allCap qs = true → outCh qs us d = [] := by
      intro qs
      induction qs with
      | nil => intro us d _; cases us <;> rfl
      | cons q qs ih =>
        intro us d h
        cases us with
        | nil => rfl
        | cons u us =>
          have h : (isCap q && allCap qs) = true := h
          rw [Bool.and_eq_true] at h
          cases q with
          | cap _ _ => exact ih us d h.2
          | capf _ _ _ => exact ih us d h.2
          | _ => cases h.1
    exact key us d h
  | _ :: ts, v :: vs, hl, h => fun d => outCh_rds ts vs (by simpa using hl) h d
  | [], _ :: _, h, _ => by cases h
  | _ :: _, [], h, _ => by cases h
theorem pargs_rds {qs : List PM} {us : List Value} {e : denP qs} (h : PArgs P w0 J qs us e) : ∀ {ts : List Ty} {vs : List Value} {d : denH ts}, RArgs J ts vs d → PArgs P w0 J (rds ts qs) (vs ++ us) (rdsP ts qs d e) ∧ vs.length = ts.length
  | [], vs, d, hr => by
    have hr : vs = [] := hr
    subst hr
    exact ⟨h, rfl⟩
  | t :: ts, vs, d, hr => by
    obtain ⟨v, cs, r, rfl, k1, k2, k3⟩ := hr
    obtain ⟨q1, q2⟩ := pargs_rds h k3
    exact ⟨⟨v, r ++ us, rfl, ⟨cs, k1, k2⟩, q1⟩, by simpa using q2⟩
theorem blkU_ent {h : Hdr} {b : Blk} (k : blkU h chs = some b) (hc : ∀ e ∈ chs, okE P w0 J θ n chs0 e) : okE P w0 J θ n chs0 (b.ent h) := hc _ ((blkOf_ok (blkU_ok k).1).mem_iff.2 (List.mem_cons_self ..))
theorem capOf_ok {rec : (a b : List Ty) → LV → Option (FnR a b)} (hrec : ∀ a b x r, rec a b x = some r → x.ok P w0 J θ n → Lent J' θ chs r.lent → FnOk P w0 J' (x.v θ) a b r.e) (hJ : J.le J') (hc : ∀ e ∈ chs, okE P w0 J θ n chs0 e) {p : PM} {x : LV} {r : CapR p} (h : capOf chs rec p x = some r) (hx : x.ok P w0 J θ n) (hl : Lent J' θ chs r.lent) : PArg P w0 J' p (x.v θ) r.d := by
  cases p with
  | cap T t =>
    cases x with
    | ptr hh off =>
      obtain ⟨ho, h⟩ := chkT_ok (show chkT (Nat.beq off 0) _ = some r from h)
      obtain ⟨b, hb, h⟩ := bind_some h
      obtain ⟨hT, h⟩ := chkT_ok h
      obtain ⟨q, hq, h⟩ := bind_some h
      obtain ⟨he, h⟩ := chkT_ok h
      obtain rfl := Option.some.inj h
      obtain rfl := Nat.eq_of_beq_eq_true ho
      have hT := Nat.eq_of_beq_eq_true hT
      have hk := (hl hh (by simp)).2 b hb
      have hbo := blkU_ent (P := P) (w0 := w0) (J := J) (n := n) hb hc
      obtain ⟨c1, e1, k⟩ := lendData_ok (J := J') hq (fun x hx => LV.ok_same Same.rfl (Nat.le_refl _) (hbo.2.2 x hx) hJ) (fun y hy => hl y (by simp [hy]))
      rw [List.isEmpty_iff.1 he, List.append_nil] at e1
      subst e1
      exact ⟨_, rfl, _, by rw [← hT]; exact hk, k⟩
    | fz hh T' t' d off =>
      obtain ⟨ho, h⟩ := chkT_ok (show chkT (Nat.beq off 0 && Nat.beq T' T) _ = some r from h)
      rw [Bool.and_eq_true] at ho
      obtain ⟨d', hd, h⟩ := bind_some h
      obtain rfl := Option.some.inj h
      obtain rfl := Nat.eq_of_beq_eq_true ho.1
      obtain rfl := Nat.eq_of_beq_eq_true ho.2
      obtain ⟨h1, cells, h2, h3⟩ := hx
      exact ⟨_, rfl, cells, hJ _ _ h2, castTy_rd hd (Rep.rd_mono _ h3 hJ)⟩
    | _ => cases h
  | capf T a b =>
    cases x with
    | ptr hh off =>
      obtain ⟨ho, g1⟩ := chkT_ok (show chkT (Nat.beq off 0) _ = some r from h)
      obtain ⟨bl, hb, g2⟩ := bind_some g1
      obtain ⟨hT, g3⟩ := chkT_ok g2
      clear h g1 g2
      obtain rfl := Nat.eq_of_beq_eq_true ho
      have hT := Nat.eq_of_beq_eq_true hT
      have hbo := blkU_ent (P := P) (w0 := w0) (J := J) (n := n) hb hc
      split at g3
      · rename_i y hy
        obtain ⟨q, hq, g4⟩ := bind_some g3
        obtain rfl := Option.some.inj g4
        have hk := (hl hh (by simp)).2 bl hb
        rw [hy] at hk
        exact ⟨_, rfl, _, by rw [← hT]; exact hk, hrec a b y q hq (hbo.2.2 y (by show y ∈ bl.cells; rw [hy]; simp)) fun z hz => hl z (by simp [hz])⟩
      · cases g3
    | fzf hh T' a' b' e =>
      obtain ⟨ho, h⟩ := chkT_ok (show chkT (Nat.beq T' T) _ = some r from h)
      obtain ⟨e', he, h⟩ := bind_some h
      obtain rfl := Option.some.inj h
      obtain rfl := Nat.eq_of_beq_eq_true ho
      obtain ⟨h1, u, h2, h3⟩ := hx
      exact ⟨_, rfl, u, hJ _ _ h2, (castFn_ok he h3).mono hJ⟩
    | _ => cases h
  | _ => cases h
theorem capsOf_ok {rec : (a b : List Ty) → LV → Option (FnR a b)} (hrec : ∀ a b x r, rec a b x = some r → x.ok P w0 J θ n → Lent J' θ chs r.lent → FnOk P w0 J' (x.v θ) a b r.e) (hJ : J.le J') (hc : ∀ e ∈ chs, okE P w0 J θ n chs0 e) : ∀ {qs : List PM} {xs : List LV} {r : denP qs × List Hdr}, capsOf chs rec qs xs = some r → (∀ x ∈ xs, x.ok P w0 J θ n) → Lent J' θ chs r.2 → PArgs P w0 J' qs (xs.map (·.v θ)) r.1
  | [], [], r, h, _, _ => by obtain rfl := Option.some.inj (show some _ = some r from h); exact Eq.refl _
  | q :: qs, x :: xs, r, h, hx, hl => by
    obtain ⟨a, ha, h⟩ := bind_some (show (capOf chs rec q x).bind _ = some r from h)
    obtain ⟨s, hs, h⟩ := bind_some h
    obtain rfl := Option.some.inj h
    exact ⟨_, _, rfl, capOf_ok hrec hJ hc ha (hx x (by simp)) hl.l, capsOf_ok hrec hJ hc hs (fun y hy => hx y (by simp [hy])) hl.r⟩
  | [], _ :: _, r, h, _, _ => by cases h
  | _ :: _, [], r, h, _, _ => by cases h
theorem firstOf_ok (hJ : J.le J') : ∀ {ts : List Ty} {ys : List (Bool × List LV)} {r : denH ts × List Hdr}, firstOf chs ts ys = some r → (∀ y ∈ ys, ∀ x ∈ y.2, x.ok P w0 J θ n) → Lent J' θ chs r.2 → RArgs J' ts (ys.map (partV θ)) r.1
  | [], [], r, h, _, _ => by obtain rfl := Option.some.inj (show some _ = some r from h); exact Eq.refl _
  | t :: ts, y :: ys, r, h, hy, hl => by
    obtain ⟨hg, h⟩ := chkT_ok (show chkT (y.1 == t.isProd) _ = some r from h)
    obtain ⟨a, ha, h⟩ := bind_some h
    obtain ⟨he, h⟩ := chkT_ok h
    obtain ⟨q, hq, h⟩ := bind_some h
    obtain rfl := Option.some.inj h
    rw [Bool.and_eq_true] at he
    have hg : y.1 = t.isProd := by simpa using hg
    obtain ⟨c1, e1, k⟩ := lendData_ok (J := J') ha (fun x hx => LV.ok_same Same.rfl (Nat.le_refl _) (hy y (by simp) x hx) hJ) hl.l
    rw [List.isEmpty_iff.1 he.1, List.append_nil] at e1
    refine ⟨_, y.2.map (·.v θ), _, rfl, ?_, by rw [e1]; exact k, firstOf_ok hJ hq (fun z hz => hy z (by simp [hz])) hl.r⟩
    obtain ⟨yb, yl⟩ := y
    simp only at hg he
    subst hg
    cases hb : t.isProd with
    | true => show partV θ (true, yl) = _; rfl
    | false =>
      rw [hb] at he
      have hlen : yl.length = 1 := Nat.eq_of_beq_eq_true (by simpa using he.2)
      obtain ⟨x, rfl⟩ := List.length_eq_one_iff.1 hlen
      rfl
  | [], _ :: _, r, h, _, _ => by cases h
  | _ :: _, [], r, h, _, _ => by cases h
theorem mkFn_ok (hF : FTok P ft) {rec : (a b : List Ty) → LV → Option (FnR a b)} (hrec : ∀ a b x r, rec a b x = some r → x.ok P w0 J θ n → ∀ J', J.le J' → Lent J' θ chs r.lent → FnOk P w0 J' (x.v θ) a b r.e) (hJ : J.le J') (hc : ∀ e ∈ chs, okE P w0 J θ n chs0 e) {a b : List Ty} {k : FuncId} {first : List (Bool × List LV)} {capt : List LV} {r : FnR a b} (h : mkFn ft chs rec a b k first capt = some r)
    (h1 : ∀ y ∈ first, ∀ x ∈ y.2, x.ok P w0 J θ n) (h2 : ∀ x ∈ capt, x.ok P w0 J θ n) (hl : Lent J' θ chs r.lent) : FnOk P w0 J' (.func (.func k) (first.map (partV θ)).toArray (capt.map (·.v θ)).toArray) a b r.e := by
  obtain ⟨f, hf, h⟩ := bind_some h
  obtain ⟨r1, hr1, h⟩ := bind_some h
  obtain ⟨hcap, h⟩ := chkT_ok h
  have hfo := hF.get hf
  generalize f.ps.drop (first.length + a.length) = qs at h hcap
  unfold mkFnQ at h
  split at h
  · rename_i hh
    obtain ⟨d1, hd1, h⟩ := bind_some h
    obtain ⟨dc, hdc, h⟩ := bind_some h
    obtain rfl := Option.some.inj h
    clear hf hr1
    obtain ⟨ps, rs, m⟩ := f
    obtain ⟨e1, e2⟩ := hh
    simp only at e1 e2
    subst e1
    subst e2
    refine ⟨k, _, _, rfl, hfo.en, fun J2 hJ2 args d hargs q hq => ?_⟩
    have hl2 : Lent J2 θ chs (d1.2 ++ dc.2) := fun x hx => ⟨fun z hz => Rep.rd_mono _ ((hl x hx).1 z hz) hJ2, fun z hz => hJ2 _ _ ((hl x hx).2 z hz)⟩
    have k1 := firstOf_ok (hJ.trans hJ2) hd1 h1 hl2.l
    have k2 := capsOf_ok (fun a b x r hr hx hlx => hrec a b x r hr hx J2 (hJ.trans hJ2) hlx) (hJ.trans hJ2) hc hdc h2 hl2.r
    obtain ⟨k3, k4⟩ := pargs_rds k2 hargs
    obtain ⟨k5, k6⟩ := pargs_rds k3 k1
    have hq : app a (curOf a fun x => appP _ m (rdsP r1 (rds a qs) d1.1 (rdsP a qs x dc.1))) d = some q := hq
    rw [app_curOf] at hq
    have hcon := hfo.con w0 J2 _ _ q k5 hq
    have hou : outs (rds r1 (rds a qs)) = [] := by rw [outs_rds, outs_rds]; exact outs_cap hcap
    have how : owCh (rds r1 (rds a qs)) ((first.map (partV θ)) ++ (args ++ capt.map (·.v θ))) (rdsP r1 (rds a qs) d1.1 (rdsP a qs d dc.1)) = [] := by
      rw [owCh_rds _ _ _ _ _ k6, owCh_rds _ _ _ _ _ k4]; exact owCh_cap _ _ hcap
    have hout : ∀ z, outCh (rds r1 (rds a qs)) ((first.map (partV θ)) ++ (args ++ capt.map (·.v θ))) z = [] := by
      intro z
      have hrd : ∀ (x y : List Ty), rds x (rds y qs) = rds (x ++ y) qs := by
        intro x y
        induction x with
        | nil => rfl
        | cons t x ih => exact congrArg (PM.rd t :: ·) ih
      have key : ∀ (X : List PM), X = rds (r1 ++ a) qs → ∀ z : denH (outs X), outCh X ((first.map (partV θ)) ++ (args ++ capt.map (·.v θ))) z = [] := by
        rintro X rfl z
        rw [← List.append_assoc]
        exact outCh_rds (r1 ++ a) _ (by rw [List.length_append, List.length_append, k6, k4]) hcap z
      exact key _ (hrd r1 a) z
    rw [how] at hcon
    intro w C hS
    have hS' := hcon w C hS
    have hargs' : ((first.map (partV θ)) ++ (args ++ capt.map (·.v θ))).toArray = ((first.map (partV θ)).toArray.toList ++ args ++ (capt.map (·.v θ)).toArray.toList).toArray := by simp
    rw [hargs'] at hS'
    refine hS'.mono fun e w' ⟨v, he, hfa, hst⟩ => ⟨v, he, resFa_nil _ _ v hou hfa, ?_⟩
    have e3 := resGv_nil rs (outs (rds r1 (rds a qs))) (toH _ q) v hou
    show St J2 w0 w' (resGv (rs ++ outs (rds r1 (rds a qs))) (toH _ q) v ++ C)
    rw [e3]
    have hst : St J2 w0 w' ((resGv rs (hFst rs (outs (rds r1 (rds a qs))) (toH _ q)) v ++ outCh _ _ _) ++ C) := hst
    rw [hout, List.append_nil] at hst
    exact hst
  · cases h
theorem cloOf_ok {h : Hdr} {q : FuncId × List (Bool × List LV) × List LV} (k : cloOf h chs = some q) : ∃ ver, (h, ver, Chk.clo q.1 q.2.1 q.2.2) ∈ chs := by
  obtain ⟨r, hr, k⟩ := bind_some k
  obtain ⟨p, e⟩ := pull_ok hr
  obtain ⟨⟨h', ver, c⟩, rest⟩ := r
  obtain rfl : h' = h := e
  cases c with
  | clo f first capt =>
    obtain rfl := Option.some.inj (show some _ = some q from k)
    exact ⟨ver, p.mem_iff.2 (List.mem_cons_self ..)⟩
  | _ => cases k
theorem fnOf_ok (hF : FTok P ft) (hc : ∀ e ∈ chs, okE P w0 J θ n chs0 e) : ∀ {m : Nat} {a b : List Ty} {x : LV} {r : FnR a b}, fnOf ft chs m a b x = some r → x.ok P w0 J θ n → ∀ J', J.le J' → Lent J' θ chs r.lent → FnOk P w0 J' (x.v θ) a b r.e
  | 0, _, _, _, _, h, _, _, _, _ => by cases h
  | m + 1, a, b, x, r, h, hx, J', hJ, hl => by
    have hrec : ∀ a b x r, fnOf ft chs m a b x = some r → x.ok P w0 J θ n → ∀ J', J.le J' → Lent J' θ chs r.lent → FnOk P w0 J' (x.v θ) a b r.e := fun a b x r h hx J' hJ hl => fnOf_ok hF hc h hx J' hJ hl
    cases x with
    | fn hh a' b' e =>
      obtain ⟨e', he, h⟩ := bind_some (show (castFn a' b' a b e).bind _ = some r from h)
      obtain rfl := Option.some.inj h
      exact (castFn_ok he hx.2).mono hJ
    | own hh =>
      obtain ⟨q, hq, h⟩ := bind_some (show (cloOf hh chs).bind _ = some r from h)
      obtain ⟨ver, hm⟩ := cloOf_ok hq
      obtain ⟨-, -, k1, k2, k3⟩ := hc _ hm
      have := mkFn_ok hF hrec hJ hc h k1 k2 hl
      show FnOk P w0 J' (hv θ hh) a b r.e
      rw [show hv θ hh = _ from k3]; exact this
    | val v =>
      cases v with
      | func fk f c =>
        cases fk with
        | func k =>
          obtain ⟨he, h⟩ := chkT_ok (show chkT (f.toList.isEmpty && c.toList.isEmpty) (mkFn ft chs (fnOf ft chs m) a b k [] []) = some r from h)
          rw [Bool.and_eq_true, List.isEmpty_iff, List.isEmpty_iff] at he
          have := mkFn_ok hF hrec hJ hc h (fun y hy => by cases hy) (fun y hy => by cases hy) hl
          have e1 : f = #[] := by simpa using he.1
          have e2 : c = #[] := by simpa using he.2
          subst e1
          subst e2
          exact this
        | _ => cases h
      | _ => cases h
    | _ => cases h
end
/-- the entries with these headers, each once -/
def pullAll : List Hdr → List Ent → Option (List Ent × List Ent)
  | [], chs => some ([], chs)
  | h :: hs, chs => (pull h chs).bind fun r => (pullAll hs r.2).bind fun q => some (r.1 :: q.1, q.2)
theorem pullAll_ok : ∀ {hs : List Hdr} {chs : List Ent} {r : List Ent × List Ent}, pullAll hs chs = some r → chs.Perm (r.1 ++ r.2) ∧ r.1.map (·.1) = hs
  | [], chs, r, h => by obtain rfl := Option.some.inj (show some _ = some r from h); exact ⟨List.Perm.refl _, rfl⟩
  | h' :: hs, chs, r, h => by
    obtain ⟨q, hq, h⟩ := bind_some (show (pull h' chs).bind _ = some r from h)
    obtain ⟨q2, hq2, h⟩ := bind_some h
    obtain rfl := Option.some.inj h
    obtain ⟨p1, e1⟩ := pull_ok hq
    obtain ⟨p2, e2⟩ := pullAll_ok hq2
    exact ⟨p1.trans (p2.cons _), by show q.1.1 :: q2.1.map _ = _; rw [e1, e2]⟩
def hasH (h : Hdr) (l : List Hdr) : Bool := l.any fun x => Hdr.beq x h
def dedup : List Hdr → List Hdr → List Hdr
  | [], _ => []
  | h :: hs, acc => if hasH h acc then dedup hs acc else h :: dedup hs (h :: acc)
theorem dedup_mem {h : Hdr} : ∀ {hs acc : List Hdr}, h ∈ hs → h ∈ dedup hs acc ∨ h ∈ acc
  | x :: hs, acc, hm => by
    unfold dedup
    split
    · rename_i hh
      rcases List.mem_cons.1 hm with rfl | hm
      · obtain ⟨y, hy, he⟩ := List.any_eq_true.1 hh
        exact .inr (Hdr.beq_eq he ▸ hy)
      · exact dedup_mem hm
    · rcases List.mem_cons.1 hm with rfl | hm
      · exact .inl (by simp)
      · rcases dedup_mem (acc := x :: acc) hm with h1 | h1
        · exact .inl (by simp [h1])
        · rcases List.mem_cons.1 h1 with rfl | h1
          · exact .inl (by simp)
          · exact .inr h1

end Go.Proofs.Ytfkocnnphjkmfaa.R
