/- Cuts: what a loop or a join carries along. No program text is named here. -/
import Derived.Test.YtfkocnnphjkmfaaRK
set_option linter.unusedVariables false
set_option linter.unusedSimpArgs false
set_option linter.unnecessarySimpa false
set_option linter.unusedSectionVars false
namespace Go.Proofs.Ytfkocnnphjkmfaa.R
open Go.RowKit
open Go.Proofs.Ytfkocnnphjkmfaa.D

/-! ### Kinds of places -/
inductive Knd
  | num (k : IntKind) | boo | str
  | rd (E : TypeId) (t : Ty)
  | own (E : TypeId) (t : Ty)
def Knd.den : Knd → Type
  | .num _ => Int
  | .boo => Bool
  | .str => ByteArray
  | .rd _ t => List t.den
  | .own _ t => List t.den
def denK : List Knd → Type
  | [] => Unit
  | [k] => k.den
  | k :: l :: ks => k.den × denK (l :: ks)
def denN : List Knd → Type
  | [] => Unit
  | k :: ks => k.den × denN ks
def toN : (ks : List Knd) → denK ks → denN ks
  | [], _ => ()
  | [_], d => (d, ())
  | _ :: l :: ks, d => (d.1, toN (l :: ks) d.2)
def ofN : (ks : List Knd) → denN ks → denK ks
  | [], _ => ()
  | [_], d => d.1
  | _ :: l :: ks, d => (d.1, ofN (l :: ks) d.2)
theorem toN_ofN : ∀ (ks : List Knd) (d : denN ks), toN ks (ofN ks d) = d
  | [], _ => rfl
  | [_], _ => rfl
  | _ :: l :: ks, d => congrArg (Prod.mk d.1) (toN_ofN (l :: ks) d.2)
/-- a place's datum; what is left of the entries -/
def getK (k : Knd) (x : LV) (chs : List Ent) : Option (k.den × List Ent) := match k with
  | .num k => (lvInt k x).bind fun d => some (d, chs)
  | .boo => (lvBool x).bind fun d => some (d, chs)
  | .str => (lvStr x).bind fun d => some (d, chs)
  | .rd E t => (lvSl E t x).bind fun d => some (d, chs)
  | .own E t => (takeSl E t x chs).bind fun q => some (q.1, q.2.2)
/-- the place anew -/
def putK (id : Nat) : (k : Knd) → k.den → LV
  | .num k, d => .val (.int k d)
  | .boo, d => .val (.bool d)
  | .str, d => .val (.string d)
  | .rd E t, d => .rd ⟨id, []⟩ (.sl E t) d
  | .own _ _, _ => .own ⟨id, []⟩
def newK (id ver : Nat) : (k : Knd) → k.den → List Ent
  | .own E t, d => [(⟨id, []⟩, ver, .own (.sl E t) d)]
  | _, _ => []
def getKs : (ks : List Knd) → List LV → List Ent → Option (denN ks × List Ent)
  | [], [], chs => some ((), chs)
  | k :: ks, x :: xs, chs => (getK k x chs).bind fun q => (getKs ks xs q.2).bind fun r => some ((q.1, r.1), r.2)
  | _, _, _ => none
def putKs (id : Nat) : (ks : List Knd) → denN ks → List LV
  | [], _ => []
  | k :: ks, d => putK id k d.1 :: putKs (id + 1) ks d.2
def newKs (id ver : Nat) : (ks : List Knd) → denN ks → List Ent
  | [], _ => []
  | k :: ks, d => newK id ver k d.1 ++ newKs (id + 1) ver ks d.2
section
variable {P : Program} {w0 w : World} {J : Hp} {θ : Th} {n : Nat} {C : List Ch}
/-- a bundle becomes a chunk -/
theorem St.bun {ls : List Ch} {α : Type} {R : Rep α} {cs : List Value} {x : α} (h : St J w0 w (ls ++ C)) (hb : Bun J ls R cs x) : St J w0 w (Ch.own R cs x :: C) := by
  obtain ⟨h1, h2, F, h3, h4, h5⟩ := h
  obtain ⟨G, K, rfl, e1, e2⟩ := h3.split
  exact ⟨h1, h2, G ++ K, ⟨G, K, rfl, hb w G e1, e2⟩, h4, h5⟩
theorem own_one' {α : Type} {R : Rep α} {u : Value} {x : α} (h : St J w0 w (Ch.own R [u] x :: C)) : u.oneCell' = true := by
  obtain ⟨h1, h2, F, ⟨G, K, rfl, k, e⟩, h4, h5⟩ := h
  exact R.own_one k u (by simp)
/-- one place: at θ' the value of 'id' is what stands there -/
theorem getK_ok {k : Knd} {x : LV} {chs : List Ent} {q : k.den × List Ent} (h : getK k x chs = some q) (hx : x.ok P w0 J θ n) (hS : St J w0 w (chs.map (toCh P θ) ++ C)) {θ' : Th} {id ver m : Nat} (hid : θ' id = x.v θ) (hm : id < m) :
    (putK id k q.1).ok P w0 J θ' m ∧ (putK id k q.1).v θ' = x.v θ ∧ St J w0 w ((newK id ver k q.1).map (toCh P θ') ++ (q.2.map (toCh P θ) ++ C)) ∧ ∀ e ∈ q.2, e ∈ chs := by
  have hh : hv θ' ⟨id, []⟩ = x.v θ := hid
  cases k with
  | num k =>
    obtain ⟨d, hd, h⟩ := bind_some (show (lvInt k x).bind _ = some q from h)
    obtain rfl := Option.some.inj h
    exact ⟨Eq.refl true, (lvInt_ok hd θ).symm, hS, fun e he => he⟩
  | boo =>
    obtain ⟨d, hd, h⟩ := bind_some (show (lvBool x).bind _ = some q from h)
    obtain rfl := Option.some.inj h
    exact ⟨Eq.refl true, (lvBool_ok hd θ).symm, hS, fun e he => he⟩
  | str =>
    obtain ⟨d, hd, h⟩ := bind_some (show (lvStr x).bind _ = some q from h)
    obtain rfl := Option.some.inj h
    exact ⟨Eq.refl true, (lvStr_ok hd θ).symm, hS, fun e he => he⟩
  | rd E t =>
    obtain ⟨d, hd, h⟩ := bind_some (show (lvSl E t x).bind _ = some q from h)
    obtain rfl := Option.some.inj h
    refine ⟨⟨hm, ?_⟩, hh, hS, fun e he => he⟩
    rw [hh]; exact lvSl_ok hd hx
  | own E t =>
    obtain ⟨r, hr, h⟩ := bind_some (show (takeSl E t x chs).bind _ = some q from h)
    obtain rfl := Option.some.inj h
    obtain ⟨p, hb⟩ := takeSl_ok hr P J θ
    have h1 : St J w0 w (Ch.own (Ty.sl E t).rep [x.v θ] r.1 :: (r.2.2.map (toCh P θ) ++ C)) := by
      refine St.bun ?_ hb
      have := hS.perm ((p.map (toCh P θ)).append_right C)
      rwa [List.map_append, List.append_assoc] at this
    refine ⟨⟨hm, by rw [hh]; exact own_one' h1⟩, hh, ?_, fun e he => p.mem_iff.2 (by simp [he])⟩
    show St J w0 w (Ch.own _ [hv θ' ⟨id, []⟩] _ :: _)
    rw [hh]; exact h1
theorem getKs_ok : ∀ {ks : List Knd} {xs : List LV} {chs : List Ent} {q : denN ks × List Ent} {id ver : Nat} {C : List Ch}, getKs ks xs chs = some q → (∀ x ∈ xs, x.ok P w0 J θ n) → St J w0 w (chs.map (toCh P θ) ++ C) → ∀ {θ' : Th} {m : Nat}, (∀ i x, xs[i]? = some x → θ' (id + i) = x.v θ) → id + ks.length ≤ m →
    (∀ x ∈ putKs id ks q.1, x.ok P w0 J θ' m) ∧ (putKs id ks q.1).map (·.v θ') = xs.map (·.v θ) ∧ St J w0 w ((newKs id ver ks q.1).map (toCh P θ') ++ (q.2.map (toCh P θ) ++ C)) ∧ ∀ e ∈ q.2, e ∈ chs
  | [], [], chs, q, id, ver, C, h, _, hS, θ', m, _, _ => by
    obtain rfl := Option.some.inj (show some _ = some q from h)
    exact ⟨fun x hx => (by cases hx), rfl, hS, fun e he => he⟩
  | k :: ks, x :: xs, chs, q, id, ver, C, h, hx, hS, θ', m, hid, hm => by
    obtain ⟨a, ha, h⟩ := bind_some (show (getK k x chs).bind _ = some q from h)
    obtain ⟨b, hb, h⟩ := bind_some h
    obtain rfl := Option.some.inj h
    have hm' : id < m := by rw [List.length_cons] at hm; omega
    obtain ⟨a1, a2, a3, a4⟩ := getK_ok (ver := ver) ha (hx x (by simp)) hS (θ' := θ') (id := id) (m := m) (hid 0 x rfl) hm'
    obtain ⟨b1, b2, b3, b4⟩ := getKs_ok (id := id + 1) (ver := ver) (C := (newK id ver k a.1).map (toCh P θ') ++ C) hb (fun y hy => hx y (by simp [hy])) (a3.perm (List.perm_append_comm_assoc _ _ _)) (θ' := θ') (m := m) (fun i y hy => by
      have := hid (i + 1) y hy
      rwa [show id + (i + 1) = id + 1 + i from by omega] at this) (by rw [List.length_cons] at hm; omega)
    refine ⟨fun y hy => ?_, ?_, ?_, fun e he => a4 e (b4 e he)⟩
    · rcases List.mem_cons.1 hy with rfl | hy
      · exact a1
      · exact b1 y hy
    · show LV.v θ' _ :: (putKs (id + 1) ks b.1).map _ = _
      rw [a2, b2]; rfl
    · show St J w0 w ((newK id ver k a.1 ++ newKs (id + 1) ver ks b.1).map _ ++ _)
      rw [List.map_append]
      refine b3.perm ?_
      have := List.perm_append_comm_assoc ((newKs (id + 1) ver ks b.1).map (toCh P θ') ++ b.2.map (toCh P θ)) ((newK id ver k a.1).map (toCh P θ')) C
      rw [List.append_assoc, List.append_assoc] at this
      rw [List.append_assoc]
      exact this
  | [], _ :: _, chs, q, id, ver, C, h, _, _, _, _, _, _ => by cases h
  | _ :: _, [], chs, q, id, ver, C, h, _, _, _, _, _, _ => by cases h
end

/-! ### Places of a state -/
inductive It
  | slot (t : Nat) (k : Knd)
  | box (t : Nat) (ks : List Knd)
  | row (t : Nat) (E : TypeId) (u : Ty)
  | agg (t : Nat) (ks : List Knd)
  | par (i : Nat) (p : List Nat) (E : TypeId) (u : Ty)
/-- the same, with what does not turn: the heads -/
inductive RIt
  | slot (t : Nat) (k : Knd)
  | box (h : Hdr) (T : TypeId) (ks : List Knd)
  | row (h : Hdr) (E : TypeId) (u : Ty)
  | agg (t : Nat) (k : Knd) (ks : List Knd)
def RIt.ks : RIt → List Knd
  | .slot _ k => [k]
  | .box _ _ ks => ks
  | .row _ E u => [.own E u]
  | .agg _ k ks => k :: ks
def ksOf : List RIt → List Knd
  | [] => []
  | r :: rs => r.ks ++ ksOf rs
def ptr0 : Option AV → Option Hdr
  | some (.one (.ptr h off)) => if Nat.beq off 0 then some h else none
  | _ => none
def own0 : Option AV → Option Hdr
  | some (.one (.own h)) => some h
  | _ => none
theorem own0_ok {v : Option AV} {h : Hdr} (k : own0 v = some h) : v = some (.one (.own h)) := by
  unfold own0 at k
  split at k
  · rw [Option.some.inj k]
  · cases k
def resolve (s : Sg) : It → Option RIt
  | .slot t k => some (.slot t k)
  | .box t ks => (ptr0 (look s.env t)).bind fun h => (blkOf h s.chs).bind fun b => some (.box h b.T ks)
  | .row t E u => (own0 (look s.env t)).bind fun h => some (.row h E u)
  | .agg t ks => match ks with
    | k :: ks => some (.agg t k ks)
    | [] => none
  | .par i p E u => chkT (Nat.blt i s.nxt) (some (.row ⟨i, p⟩ E u))
def resolveL (s : Sg) : List It → Option (List RIt)
  | [] => some []
  | i :: is => (resolve s i).bind fun r => (resolveL s is).bind fun rs => some (r :: rs)
def oneOf : Option AV → Option LV
  | some (.one x) => some x
  | _ => none
theorem oneOf_ok {v : Option AV} {x : LV} (h : oneOf v = some x) : v = some (.one x) := by
  unfold oneOf at h
  split at h
  · rw [Option.some.inj h]
  · cases h
def aggOf : Option AV → Option (List LV)
  | some (.agg xs) => some xs
  | _ => none
theorem aggOf_ok {v : Option AV} {x : List LV} (h : aggOf v = some x) : v = some (.agg x) := by
  unfold aggOf at h
  split at h
  · rw [Option.some.inj h]
  · cases h
/-- the data of a place -/
def getI1 (env : List (Nat × Nat × AV)) (chs : List Ent) : (r : RIt) → Option (denN r.ks × List Ent)
  | .slot t k => (oneOf (look env t)).bind fun x => getKs [k] [x] chs
  | .box h T ks => (blkOf h chs).bind fun b => chkT (Nat.beq b.T T) (getKs ks b.cells b.rest)
  | .row h E u => getKs [.own E u] [.own h] chs
  | .agg t k ks => (aggOf (look env t)).bind fun xs => getKs (k :: ks) xs chs
def appN : (ks ls : List Knd) → denN ks → denN ls → denN (ks ++ ls)
  | [], _, _, e => e
  | _ :: ks, ls, d, e => (d.1, appN ks ls d.2 e)
def fstN : (ks ls : List Knd) → denN (ks ++ ls) → denN ks
  | [], _, _ => ()
  | _ :: ks, ls, d => (d.1, fstN ks ls d.2)
def sndN : (ks ls : List Knd) → denN (ks ++ ls) → denN ls
  | [], _, d => d
  | _ :: ks, ls, d => sndN ks ls d.2
theorem fst_app : ∀ (ks ls : List Knd) (d : denN ks) (e : denN ls), fstN ks ls (appN ks ls d e) = d
  | [], _, _, _ => rfl
  | _ :: ks, ls, d, e => congrArg (Prod.mk d.1) (fst_app ks ls d.2 e)
theorem snd_app : ∀ (ks ls : List Knd) (d : denN ks) (e : denN ls), sndN ks ls (appN ks ls d e) = e
  | [], _, _, _ => rfl
  | _ :: ks, ls, d, e => snd_app ks ls d.2 e
def getIs (env : List (Nat × Nat × AV)) : (rs : List RIt) → List Ent → Option (denN (ksOf rs) × List Ent)
  | [], chs => some ((), chs)
  | r :: rs, chs => (getI1 env chs r).bind fun q => (getIs env rs q.2).bind fun p => some (appN r.ks (ksOf rs) q.1 p.1, p.2)
/-- the places anew: slots and entries -/
def newE (id : Nat) : (r : RIt) → denN r.ks → List (Nat × Nat × AV)
  | .slot t k, d => [(t, id, .one (putK id k d.1))]
  | .agg t k ks, d => [(t, id, .agg (putKs id (k :: ks) d))]
  | _, _ => []
def newC (id ver : Nat) : (r : RIt) → denN r.ks → List Ent
  | .slot _ k, d => newKs id ver [k] d
  | .agg _ k ks, d => newKs id ver (k :: ks) d
  | .box h T ks, d => (h, ver, .blk T (putKs id ks d)) :: newKs id ver ks d
  | .row h E u, d => [(h, ver, .own (.sl E u) d.1)]
def newEs : (id : Nat) → (rs : List RIt) → denN (ksOf rs) → List (Nat × Nat × AV)
  | _, [], _ => []
  | id, r :: rs, d => newE id r (fstN r.ks (ksOf rs) d) ++ newEs (id + r.ks.length) rs (sndN r.ks (ksOf rs) d)
def newCs (ver : Nat) : (id : Nat) → (rs : List RIt) → denN (ksOf rs) → List Ent
  | _, [], _ => []
  | id, r :: rs, d => newC id ver r (fstN r.ks (ksOf rs) d) ++ newCs ver (id + r.ks.length) rs (sndN r.ks (ksOf rs) d)
structure Cut where
  nxt : Nat
  its : List RIt
  env : List (Nat × Nat × AV)
  chs : List Ent
def Cut.top (c : Cut) : Nat := c.nxt + (ksOf c.its).length
/-- the state behind the cut -/
def Cut.at (c : Cut) (d : denN (ksOf c.its)) : Sg := ⟨newEs c.nxt c.its d ++ c.env, newCs c.top c.nxt c.its d ++ c.chs, c.top + 1⟩
def hasN (t : Nat) : List Nat → Bool
  | [] => false
  | u :: l => Nat.beq u t || hasN t l
def lookV (l : List (Nat × Nat × AV)) (t : Nat) : Option Nat := match l with
  | [] => none
  | (u, k, _) :: l => if Nat.beq u t then some k else lookV l t
/-- what stays is there as it was -/
def envStays (env : List (Nat × Nat × AV)) : List (Nat × Nat × AV) → Bool
  | [] => true
  | e :: l => (match lookV env e.1 with | some v => Nat.beq v e.2.1 | none => false) && envStays env l
def chsStay : List Ent → List Ent → Option (List Ent)
  | [], chs => some chs
  | e :: l, chs => (pull e.1 chs).bind fun r => chkT (Nat.beq r.1.2.1 e.2.1) (chsStay l r.2)
def distinctH : List Ent → Bool
  | [] => true
  | e :: l => noHdr e.1 l && distinctH l
def ritHdrs (s : Sg) : List RIt → List Hdr
  | [] => []
  | .slot t _ :: rs => (match look s.env t with | some v => avHdrs v | none => []) ++ ritHdrs s rs
  | .box h _ _ :: rs => (match blkOf h s.chs with | some b => avHdrs (.agg b.cells) | none => []) ++ ritHdrs s rs
  | .row h _ _ :: rs => h :: ritHdrs s rs
  | .agg t _ _ :: rs => (match look s.env t with | some v => avHdrs v | none => []) ++ ritHdrs s rs
def rowHdrs : List Ent → List Hdr
  | [] => []
  | (h, _, .own _ _) :: l => h :: rowHdrs l
  | _ :: l => rowHdrs l
/-- a state is cut: its data -/
def Cut.of (c : Cut) (s0 : Sg) : Option (denN (ksOf c.its)) := match prepL (rowHdrs c.chs) (prepL (ritHdrs s0 c.its) s0) with
  | s => (getIs s.env c.its s.chs).bind fun q => (chsStay c.chs q.2).bind fun _ => chkT (envStays s.env c.env) (some q.1)
def RIt.hdrs : RIt → List Hdr
  | .slot _ _ => []
  | .box h _ _ => [h]
  | .row h _ _ => [h]
  | .agg _ _ _ => []
def hdrsR : List RIt → List Hdr
  | [] => []
  | r :: rs => r.hdrs ++ hdrsR rs
/-- of each slot what it holds -/
def firstE : List (Nat × Nat × AV) → List Nat → List (Nat × Nat × AV)
  | [], _ => []
  | e :: l, seen => match hasN e.1 seen with
    | true => firstE l seen
    | false => e :: firstE l (e.1 :: seen)
theorem firstE_sub : ∀ {l : List (Nat × Nat × AV)} {seen : List Nat}, (firstE l seen).Sublist l
  | [], _ => List.Sublist.refl _
  | e :: l, seen => by
    unfold firstE
    split
    · exact firstE_sub.cons _
    · exact firstE_sub.cons_cons _
/-- the cut at a state: 'ks' are the slots that are written behind it -/
def mkCut (ks : List Nat) (is : List It) (s : Sg) : Option Cut := (resolveL s is).bind fun rs => chkT (distinctH s.chs) (some ⟨s.nxt, rs, firstE (s.env.filter fun e => !hasN e.1 ks) [], s.chs.filter fun e => !hasH e.1 (ritHdrs s rs ++ hdrsR rs)⟩)

/-! ### Cuts are so -/
theorem newK_ok {P : Program} {w0 : World} {J : Hp} {θ : Th} {m id ver : Nat} {chs : List Ent} {k : Knd} {d : k.den} (h1 : id < m) (h2 : ver < m) : ∀ e ∈ newK id ver k d, okE P w0 J θ m chs e := by
  cases k with
  | own E t => intro e he; obtain rfl := List.mem_singleton.1 he; exact ⟨h1, h2, trivial⟩
  | _ => intro e he; cases he
theorem newKs_ok {P : Program} {w0 : World} {J : Hp} {θ : Th} {m ver : Nat} {chs : List Ent} (h2 : ver < m) : ∀ {ks : List Knd} {id : Nat} {d : denN ks}, id + ks.length ≤ m → ∀ e ∈ newKs id ver ks d, okE P w0 J θ m chs e
  | [], _, _, _ => fun e he => by cases he
  | k :: ks, id, d, h1 => fun e he => by
    rw [List.length_cons] at h1
    rcases List.mem_append.1 he with he | he
    · exact newK_ok (by omega) h2 e he
    · exact newKs_ok h2 (by omega) e he
section
variable {P : Program} {w0 w : World} {J : Hp} {θ : Th} {n : Nat} {C : List Ch}
/-- what is said of a place that is cut -/
def CutI (P : Program) (w0 w : World) (J : Hp) (θ : Th) (env : List (Nat × Nat × AV)) (chs : List Ent) (hs : List Hdr) (len : Nat) (rest : List Ent) (E : Nat → List (Nat × Nat × AV)) (N : Nat → Nat → List Ent) : Prop :=
  ∃ vals : List Value, vals.length = len ∧ ∀ (θ' : Th) (id ver m : Nat), (∀ i v, vals[i]? = some v → θ' (id + i) = v) → id + len ≤ m → ver < m → (∀ h ∈ hs, hv θ' h = hv θ h ∧ h.id < m) → ∀ C, St J w0 w (chs.map (toCh P θ) ++ C) →
    (∀ e ∈ E id, (∀ chs', e.2.2.ok P w0 J θ' m chs') ∧ ∃ x, look env e.1 = some x ∧ e.2.2.v θ' = x.v θ) ∧ (∀ chs', ∀ e ∈ N id ver, okE P w0 J θ' m chs' e) ∧ St J w0 w ((N id ver).map (toCh P θ') ++ (rest.map (toCh P θ) ++ C))
theorem getI1_ok {env : List (Nat × Nat × AV)} {chs chs0 : List Ent} {r : RIt} {q : denN r.ks × List Ent} (h : getI1 env chs r = some q) (henv : ∀ e ∈ env, e.2.2.ok P w0 J θ n chs0) (hchs : ∀ e ∈ chs, okE P w0 J θ n chs0 e) :
    CutI P w0 w J θ env chs r.hdrs r.ks.length q.2 (fun id => newE id r q.1) (fun id ver => newC id ver r q.1) := by
  cases r with
  | slot t k =>
    obtain ⟨x, hx, h⟩ := bind_some (show (oneOf (look env t)).bind _ = some q from h)
    have hx := oneOf_ok hx
    · have hxo : x.ok P w0 J θ n := by
        obtain ⟨e, he, h1⟩ := look_mem hx
        have := henv e he
        rw [h1] at this
        exact this
      refine ⟨[x.v θ], rfl, fun θ' id ver m hid hm hv' hh C hS => ?_⟩
      obtain ⟨k1, k2, k3, k4⟩ := getKs_ok (ver := ver) (C := C) (id := id) (θ' := θ') (m := m) h (fun y hy => by obtain rfl := List.mem_singleton.1 hy; exact hxo) hS (fun i y hy => by
        cases i with
        | zero => simp at hy; rw [← hy]; exact hid 0 _ rfl
        | succ i => simp at hy) hm
      refine ⟨fun e he => ?_, fun chs' => newKs_ok hv' hm, k3⟩
      obtain rfl := List.mem_singleton.1 he
      exact ⟨fun chs' => k1 _ (by simp [putKs]), _, hx, (List.cons.inj (show _ :: _ = _ :: _ from k2)).1⟩
  | box hh T ks =>
    obtain ⟨b, hb, h⟩ := bind_some (show (blkOf hh chs).bind _ = some q from h)
    obtain ⟨hT, h⟩ := chkT_ok h
    have hT := Nat.eq_of_beq_eq_true hT
    have hp := blkOf_ok hb
    have hbk := hchs (b.ent hh) (hp.mem_iff.2 (by simp))
    have hlen : ∀ {ks : List Knd} {xs : List LV} {chs : List Ent} {q : denN ks × List Ent}, getKs ks xs chs = some q → xs.length = ks.length := by
      intro ks
      induction ks with
      | nil => intro xs chs q h; cases xs with
        | nil => rfl
        | cons _ _ => cases h
      | cons k ks ih => intro xs chs q h; cases xs with
        | nil => cases h
        | cons x xs =>
          obtain ⟨a, ha, h⟩ := bind_some (show (getK k x chs).bind _ = some q from h)
          obtain ⟨c, hc, h⟩ := bind_some h
          rw [List.length_cons, List.length_cons, ih hc]
    have hl := hlen h
    have hvl : (b.cells.map (·.v θ)).length = ks.length := by rw [List.length_map]; exact hl
    have hget : ∀ {θ' : Th} {id : Nat}, (∀ i v, (b.cells.map (·.v θ))[i]? = some v → θ' (id + i) = v) → ∀ i x, b.cells[i]? = some x → θ' (id + i) = x.v θ := fun hid i x hx => hid i _ (by rw [List.getElem?_map, hx]; rfl)
    refine ⟨b.cells.map (·.v θ), hvl, fun θ' id ver m hid hm hv' hh' C hS => ?_⟩
    · have hS' : St J w0 w (b.rest.map (toCh P θ) ++ (Ch.blk (bk (hv θ hh)) (b.cells.map (·.v θ)) b.T :: C)) := by
        refine (hS.perm ((hp.map (toCh P θ)).append_right C)).perm ?_
        exact (List.perm_middle (l₁ := b.rest.map (toCh P θ)) (l₂ := C)).symm
      obtain ⟨k1, k2, k3, k4⟩ := getKs_ok (ver := ver) (id := id) (θ' := θ') (m := m) h hbk.2.2 hS' (hget hid) hm
      obtain ⟨g1, g2⟩ := hh' hh (by simp [RIt.hdrs])
      refine ⟨fun e he => (by cases he), fun chs' e he => ?_, ?_⟩
      · rcases List.mem_cons.1 he with rfl | he
        · exact ⟨g2, hv', k1⟩
        · exact newKs_ok hv' hm e he
      · show St J w0 w (Ch.blk (bk (hv θ' hh)) ((putKs id ks q.1).map (·.v θ')) T :: ((newKs id ver ks q.1).map (toCh P θ') ++ (q.2.map (toCh P θ) ++ C)))
        rw [g1, k2, ← hT]
        refine k3.perm ?_
        rw [← List.append_assoc, ← List.append_assoc]
        exact List.perm_middle
  | agg t k ks =>
    obtain ⟨xs, hx, h⟩ := bind_some (show (aggOf (look env t)).bind _ = some q from h)
    have hx := aggOf_ok hx
    have hxo : ∀ x ∈ xs, x.ok P w0 J θ n := by
      obtain ⟨e, he, h1⟩ := look_mem hx
      have := henv e he
      rw [h1] at this
      exact this
    have hlen : ∀ {ks : List Knd} {xs : List LV} {chs : List Ent} {q : denN ks × List Ent}, getKs ks xs chs = some q → xs.length = ks.length := by
      intro ks
      induction ks with
      | nil => intro xs chs q h; cases xs with
        | nil => rfl
        | cons _ _ => cases h
      | cons k ks ih => intro xs chs q h; cases xs with
        | nil => cases h
        | cons x xs =>
          obtain ⟨a, ha, h⟩ := bind_some (show (getK k x chs).bind _ = some q from h)
          obtain ⟨c, hc, h⟩ := bind_some h
          rw [List.length_cons, List.length_cons, ih hc]
    refine ⟨xs.map (·.v θ), by rw [List.length_map]; exact hlen h, fun θ' id ver m hid hm hv' hh C hS => ?_⟩
    obtain ⟨k1, k2, k3, k4⟩ := getKs_ok (ver := ver) (C := C) (id := id) (θ' := θ') (m := m) h hxo hS (fun i y hy => hid i _ (by rw [List.getElem?_map, hy]; rfl)) hm
    refine ⟨fun e he => ?_, fun chs' => newKs_ok hv' hm, k3⟩
    obtain rfl := List.mem_singleton.1 he
    refine ⟨fun chs' => k1, _, hx, ?_⟩
    show Value.agg ((putKs id (k :: ks) q.1).map (·.v θ')).toArray = Value.agg (xs.map (·.v θ)).toArray
    rw [k2]
  | row hh E u =>
    have h : getKs [.own E u] [.own hh] chs = some q := h
    obtain ⟨a, ha, h⟩ := bind_some (show (getK (.own E u) (.own hh) chs).bind _ = some q from h)
    obtain ⟨c, hc, h⟩ := bind_some h
    obtain rfl := Option.some.inj (show some ((), a.2) = some c from hc)
    obtain rfl := Option.some.inj h
    obtain ⟨r, hr, ha⟩ := bind_some (show (takeSl E u (.own hh) chs).bind _ = some a from ha)
    obtain rfl := Option.some.inj ha
    obtain ⟨p, hb⟩ := takeSl_ok hr P J θ
    refine ⟨[hv θ hh], rfl, fun θ' id ver m hid hm hv' hh' C hS => ?_⟩
    have h1 : St J w0 w (Ch.own (Ty.sl E u).rep [hv θ hh] r.1 :: (r.2.2.map (toCh P θ) ++ C)) := by
      refine St.bun ?_ hb
      have := hS.perm ((p.map (toCh P θ)).append_right C)
      rwa [List.map_append, List.append_assoc] at this
    refine ⟨fun e he => (by cases he), fun chs' e he => ?_, ?_⟩
    · obtain rfl := List.mem_singleton.1 he
      exact ⟨(hh' hh (by simp [RIt.hdrs])).2, hv', trivial⟩
    · show St J w0 w (Ch.own _ [hv θ' hh] _ :: _)
      rw [(hh' hh (by simp [RIt.hdrs])).1]; exact h1
theorem getK_sub {k : Knd} {x : LV} {chs : List Ent} {q : k.den × List Ent} (h : getK k x chs = some q) : ∀ e ∈ q.2, e ∈ chs := by
  cases k with
  | num k => obtain ⟨d, hd, h⟩ := bind_some (show (lvInt k x).bind _ = some q from h); obtain rfl := Option.some.inj h; exact fun e he => he
  | boo => obtain ⟨d, hd, h⟩ := bind_some (show (lvBool x).bind _ = some q from h); obtain rfl := Option.some.inj h; exact fun e he => he
  | str => obtain ⟨d, hd, h⟩ := bind_some (show (lvStr x).bind _ = some q from h); obtain rfl := Option.some.inj h; exact fun e he => he
  | rd E t => obtain ⟨d, hd, h⟩ := bind_some (show (lvSl E t x).bind _ = some q from h); obtain rfl := Option.some.inj h; exact fun e he => he
  | own E t =>
    obtain ⟨r, hr, h⟩ := bind_some (show (takeSl E t x chs).bind _ = some q from h)
    obtain rfl := Option.some.inj h
    exact fun e he => (takeSl_perm hr).mem_iff.2 (by simp [he])
theorem getKs_sub : ∀ {ks : List Knd} {xs : List LV} {chs : List Ent} {q : denN ks × List Ent}, getKs ks xs chs = some q → ∀ e ∈ q.2, e ∈ chs
  | [], [], chs, q, h => by obtain rfl := Option.some.inj (show some _ = some q from h); exact fun e he => he
  | k :: ks, x :: xs, chs, q, h => by
    obtain ⟨a, ha, h⟩ := bind_some (show (getK k x chs).bind _ = some q from h)
    obtain ⟨b, hb, h⟩ := bind_some h
    obtain rfl := Option.some.inj h
    exact fun e he => getK_sub ha e (getKs_sub hb e he)
  | [], _ :: _, chs, q, h => by cases h
  | _ :: _, [], chs, q, h => by cases h
theorem getI1_sub {env : List (Nat × Nat × AV)} {chs : List Ent} {r : RIt} {q : denN r.ks × List Ent} (h : getI1 env chs r = some q) : ∀ e ∈ q.2, e ∈ chs := by
  cases r with
  | slot t k =>
    obtain ⟨x, hx, h⟩ := bind_some (show (oneOf (look env t)).bind _ = some q from h)
    exact getKs_sub h
  | box hh T ks =>
    obtain ⟨b, hb, h⟩ := bind_some (show (blkOf hh chs).bind _ = some q from h)
    obtain ⟨hT, h⟩ := chkT_ok h
    exact fun e he => (blkOf_ok hb).mem_iff.2 (List.mem_cons_of_mem _ (getKs_sub h e he))
  | row hh E u => exact getKs_sub (show getKs [.own E u] [.own hh] chs = some q from h)
  | agg t k ks =>
    obtain ⟨x, hx, h⟩ := bind_some (show (aggOf (look env t)).bind _ = some q from h)
    exact getKs_sub h
theorem getIs_ok {env : List (Nat × Nat × AV)} {chs0 : List Ent} (henv : ∀ e ∈ env, e.2.2.ok P w0 J θ n chs0) : ∀ {rs : List RIt} {chs : List Ent} {q : denN (ksOf rs) × List Ent}, getIs env rs chs = some q → (∀ e ∈ chs, okE P w0 J θ n chs0 e) →
    (∀ e ∈ q.2, e ∈ chs) ∧ CutI P w0 w J θ env chs (hdrsR rs) (ksOf rs).length q.2 (fun id => newEs id rs q.1) (fun id ver => newCs ver id rs q.1)
  | [], chs, q, h, _ => by
    obtain rfl := Option.some.inj (show some _ = some q from h)
    exact ⟨fun e he => he, [], rfl, fun θ' id ver m _ _ _ _ C hS => ⟨fun e he => (by cases he), fun chs' e he => (by cases he), hS⟩⟩
  | r :: rs, chs, q, h, hchs => by
    obtain ⟨a, ha, h⟩ := bind_some (show (getI1 env chs r).bind _ = some q from h)
    obtain ⟨b, hb, h⟩ := bind_some h
    obtain rfl := Option.some.inj h
    have hsub := getI1_sub ha
    obtain ⟨v1, l1, k1⟩ := getI1_ok (w := w) ha henv hchs
    obtain ⟨s2, v2, l2, k2⟩ := getIs_ok henv hb fun e he => hchs e (hsub e he)
    refine ⟨fun e he => hsub e (s2 e he), v1 ++ v2, by rw [List.length_append, l1, l2]; exact (List.length_append ..).symm, fun θ' id ver m hid hm hv' hh C hS => ?_⟩
    have hm : id + (r.ks.length + (ksOf rs).length) ≤ m := by
      have : (ksOf (r :: rs)).length = r.ks.length + (ksOf rs).length := List.length_append ..
      rw [this] at hm; exact hm
    obtain ⟨a1, a2, a3⟩ := k1 θ' id ver m (fun i v hi => hid i v (by rw [List.getElem?_append_left (List.getElem?_eq_some_iff.1 hi).1]; exact hi)) (by omega) hv' (fun x hx => hh x (List.mem_append_left _ hx)) C hS
    obtain ⟨b1, b2, b3⟩ := k2 θ' (id + r.ks.length) ver m (fun i v hi => by
      have := hid (r.ks.length + i) v (by rw [List.getElem?_append_right (by omega), l1, Nat.add_sub_cancel_left]; exact hi)
      rwa [← Nat.add_assoc] at this) (by omega) hv' (fun x hx => hh x (List.mem_append_right _ hx)) ((newC id ver r a.1).map (toCh P θ') ++ C) (a3.perm (List.perm_append_comm_assoc _ _ _))
    have e1 : newEs id (r :: rs) (appN r.ks (ksOf rs) a.1 b.1) = newE id r a.1 ++ newEs (id + r.ks.length) rs b.1 := by
      show newE id r (fstN _ _ _) ++ newEs _ rs (sndN _ _ _) = _
      rw [fst_app, snd_app]
    have e2 : newCs ver id (r :: rs) (appN r.ks (ksOf rs) a.1 b.1) = newC id ver r a.1 ++ newCs ver (id + r.ks.length) rs b.1 := by
      show newC id ver r (fstN _ _ _) ++ newCs ver _ rs (sndN _ _ _) = _
      rw [fst_app, snd_app]
    show (∀ e ∈ newEs id (r :: rs) (appN r.ks (ksOf rs) a.1 b.1), _) ∧ (∀ chs', ∀ e ∈ newCs ver id (r :: rs) (appN r.ks (ksOf rs) a.1 b.1), _) ∧ St J w0 w ((newCs ver id (r :: rs) (appN r.ks (ksOf rs) a.1 b.1)).map _ ++ _)
    rw [e1, e2]
    refine ⟨fun e he => ?_, fun chs' e he => ?_, ?_⟩
    · rcases List.mem_append.1 he with he | he
      · exact a1 e he
      · exact b1 e he
    · rcases List.mem_append.1 he with he | he
      · exact a2 chs' e he
      · exact b2 chs' e he
    · rw [List.map_append]
      refine b3.perm ?_
      have := List.perm_append_comm_assoc ((newCs ver (id + r.ks.length) rs b.1).map (toCh P θ') ++ b.2.map (toCh P θ)) ((newC id ver r a.1).map (toCh P θ')) C
      rw [List.append_assoc, List.append_assoc] at this
      rw [List.append_assoc]
      exact this
end
end Go.Proofs.Ytfkocnnphjkmfaa.R
