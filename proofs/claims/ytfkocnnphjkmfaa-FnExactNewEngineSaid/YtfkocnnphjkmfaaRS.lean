/- A drawn region, run on states: the plan, and that it serves. No program text is named here. -/
import Derived.Test.YtfkocnnphjkmfaaRR
set_option linter.unusedVariables false
set_option linter.unusedSimpArgs false
set_option linter.unnecessarySimpa false
set_option linter.unusedSectionVars false
namespace Go.Proofs.Ytfkocnnphjkmfaa.R
open Go.RowKit
open Go.Proofs.Ytfkocnnphjkmfaa.D

def verOf (l : List (Nat × Nat × AV)) (t : Nat) : Option Nat := match l with
  | [] => none
  | (u, k, _) :: l => if Nat.beq u t then some k else verOf l t
def numOf (e : Ent) : List Ent → Nat
  | [] => 0
  | x :: l => if sameKey x e then 0 else numOf e l + 1
def opOf (n0 v : Nat) : Option Nat := if Nat.blt v n0 then none else some (v - n0)
def srcsOf (n0 : Nat) (env : List (Nat × Nat × AV)) : List Nat → List (Nat × Option Nat)
  | [] => []
  | t :: l => match verOf env t with
    | some v => (t, opOf n0 v) :: srcsOf n0 env l
    | none => srcsOf n0 env l
def opK (n0 : Nat) (T : List Ent) (ops : Array Oper) (x : TR) : OpK := ⟨x.r.rs.map (numOf · T), x.r.ns.map (numOf · T), (givesOf n0 x).map (numOf · T), srcsOf n0 x.s.env (slotsOf ops x.o)⟩
def finOf (n0 : Nat) : List (Nat × Nat × AV) → List Nat → List (Nat × Option Nat)
  | [], _ => []
  | e :: l, seen => match isIn e.1 seen with
    | true => finOf n0 l seen
    | false => (e.1, opOf n0 e.2.1) :: finOf n0 l (e.1 :: seen)
def skelOf (s0 : Sg) (ops : List Oper) (l : List TR) (T : List Ent) : Skel :=
  ⟨(l.map (opK s0.nxt T ops.toArray)).reverse, T.length, s0.chs.map (numOf · T), (l.map (·.b)).reverse, finOf s0.nxt (endS s0 l).env [], (endS s0 l).chs.map (numOf · T)⟩
def distinctK : List Ent → Bool
  | [] => true
  | e :: l => !(l.any fun x => sameKey x e) && distinctK l
def distinctB : List Ent → Bool
  | [] => true
  | e :: l => noHdr e.1 l && distinctB l
def saysK (h : Hdr) (ver : Nat) (e : Ent) : Bool := Hdr.beq e.1 h && (Nat.beq e.2.1 ver || match e.2.2 with
  | .hole over _ _ _ _ _ _ _ _ _ => Nat.beq over ver
  | _ => false)
def allowed (n0 : Nat) (x : TR) (v : Nat) : Bool := Nat.blt v n0 || (Nat.beq (v - n0) x.i || isIn (v - n0) x.b)
def elosOf (n0 : Nat) (x : TR) : List (Hdr × Nat) := x.r.av.elos ++ x.r.gives.flatMap fun g => g.2.elos (n0 + x.i)
def idsOf (x : TR) : List Nat := x.r.av.ids ++ x.r.gives.flatMap fun g => entIds g.1 g.2
def recChk (n0 : Nat) (x : TR) : Bool := allN (idsOf x) (allowed n0 x) && (elosOf n0 x).all fun q => (x.r.chs (n0 + x.i)).any (saysK q.1 q.2)
def knS (s0 : Sg) (t : Nat) : Bool := (look s0.env t).isSome
def planOk (n : Nat) (s0 : Sg) (ops : List Oper) (l : List TR) (T : List Ent) : Bool := distinctB s0.chs && (distinctK T && (l.all (recChk s0.nxt) && ((skelOf s0 ops l T).ok n (knS s0) ops && (skelOf s0 ops l T).okB (knS s0) ops)))
section
variable {Y : Type} (V : Env)
def allHdrs (s0 : Sg) : List Oper → List Hdr
  | [] => []
  | o :: os => hdrsOf s0 o.op.operands.toList ++ allHdrs s0 os
def drawS (ops : List Oper) (k : Sg → Option Y) (s : Sg) : Option Y := match prepL (allHdrs s ops) s with
  | s0 => goD V ops s0 (fun l => chkT (planOk V.n s0 ops l (tabOf s0.nxt s0.chs l)) (k (endS s0 l))) ops 0 []
end

/-! ### That it serves -/
theorem sameKey_ok {a b : Ent} : sameKey a b = true ↔ a.2.1 = b.2.1 ∧ a.1 = b.1 := by
  unfold sameKey
  rw [Bool.and_eq_true, nbeq]
  constructor
  · rintro ⟨h1, h2⟩; exact ⟨h1, Hdr.beq_eq h2⟩
  · rintro ⟨h1, h2⟩; exact ⟨h1, by rw [h2]; exact hdr_refl _⟩
theorem distinctK_ok {l : List Ent} : distinctK l = true → ∀ a ∈ l, ∀ b ∈ l, a.2.1 = b.2.1 → a.1 = b.1 → a = b := by
  induction l with
  | nil => intro _ a ha; cases ha
  | cons e l ih =>
    intro h a ha b hb
    unfold distinctK at h
    rw [Bool.and_eq_true, Bool.not_eq_true'] at h
    obtain ⟨h1, h2⟩ := h
    have key : ∀ x ∈ l, ¬ (x.2.1 = e.2.1 ∧ x.1 = e.1) := fun x hx hk => by
      have : (l.any fun x => sameKey x e) = true := List.any_eq_true.2 ⟨x, hx, sameKey_ok.2 hk⟩
      rw [h1] at this; cases this
    intro k1 k2
    rcases List.mem_cons.1 ha with ha' | ha'
    · rcases List.mem_cons.1 hb with hb' | hb'
      · rw [ha', hb']
      · rw [ha'] at k1 k2; exact absurd ⟨k1.symm, k2.symm⟩ (key b hb')
    · rcases List.mem_cons.1 hb with hb' | hb'
      · rw [hb'] at k1 k2; exact absurd ⟨k1, k2⟩ (key a ha')
      · exact ih h2 a ha' b hb' k1 k2
theorem distinctB_ok {l : List Ent} : distinctB l = true → ∀ a ∈ l, ∀ b ∈ l, a.1 = b.1 → a = b := by
  induction l with
  | nil => intro _ a ha; cases ha
  | cons e l ih =>
    intro h a ha b hb
    unfold distinctB at h
    rw [Bool.and_eq_true] at h
    obtain ⟨h1, h2⟩ := h
    intro k
    rcases List.mem_cons.1 ha with ha' | ha'
    · rcases List.mem_cons.1 hb with hb' | hb'
      · rw [ha', hb']
      · rw [ha'] at k; exact absurd k.symm (noHdr_ok h1 hb')
    · rcases List.mem_cons.1 hb with hb' | hb'
      · rw [hb'] at k; exact absurd k (noHdr_ok h1 ha')
      · exact ih h2 a ha' b hb' k
theorem numOf_ok {e : Ent} : ∀ {T : List Ent}, distinctK T = true → e ∈ T → T[numOf e T]? = some e
  | x :: T, hd, he => by
    unfold numOf
    split
    · rename_i hk
      obtain ⟨k1, k2⟩ := sameKey_ok.1 hk
      exact congrArg some (distinctK_ok hd x (by simp) e he k1 k2)
    · rename_i hk
      have hd' := hd
      unfold distinctK at hd'
      rw [Bool.and_eq_true] at hd'
      rcases List.mem_cons.1 he with rfl | he
      · exact absurd (sameKey_ok.2 ⟨rfl, rfl⟩) hk
      · exact numOf_ok hd'.2 he
theorem saysK_ok {h : Hdr} {ver : Nat} {e : Ent} (k : saysK h ver e = true) : ∃ c, Says e h ver c := by
  unfold saysK at k
  rw [Bool.and_eq_true, Bool.or_eq_true] at k
  obtain ⟨h1, h2⟩ := k
  have h1 := Hdr.beq_eq h1
  obtain ⟨g, v, c⟩ := e
  rcases h2 with h2 | h2
  · exact ⟨c, h1, .inl ⟨Nat.eq_of_beq_eq_true h2, rfl⟩⟩
  · cases c with
    | hole over t d u y f i kk off lv => exact ⟨.own t d, h1, .inr ⟨Nat.eq_of_beq_eq_true h2, rfl⟩⟩
    | _ => cases h2
section
variable {P : Program} {w0 : World} {n : Nat} {s0 : Sg} {ops : List Oper} {l : List TR}
theorem AllOk.lt : AllOk P w0 n s0 ops l → ∀ y ∈ l, y.i < l.length := by
  induction l with
  | nil => intro _ y hy; cases hy
  | cons w l ih =>
    rintro ⟨e1, e2⟩ y hy
    rcases List.mem_cons.1 hy with rfl | hy
    · rw [e1.hi, List.length_cons]; omega
    · have := ih e2 y hy
      rw [List.length_cons]; omega
theorem AllOk.uniq : AllOk P w0 n s0 ops l → ∀ x ∈ l, ∀ y ∈ l, x.i = y.i → x = y := by
  induction l with
  | nil => intro _ y hy; cases hy
  | cons w l ih =>
    rintro ⟨e1, e2⟩ x hx y hy h
    have hw := e1.hi
    rcases List.mem_cons.1 hx with hx | hx
    · rcases List.mem_cons.1 hy with hy | hy
      · rw [hx, hy]
      · have := e2.lt y hy
        rw [hx] at h; omega
    · rcases List.mem_cons.1 hy with hy | hy
      · have := e2.lt x hx
        rw [hy] at h; omega
      · exact ih e2 x hx y hy h
theorem AllOk.get {x : TR} : AllOk P w0 n s0 ops l → x ∈ l → ∃ l1, RecOk P w0 n s0 ops l1 x ∧ AllOk P w0 n s0 ops l1 ∧ (∀ y ∈ l1, y ∈ l) ∧ ∀ y ∈ l, y.i < x.i → y ∈ l1 := by
  induction l with
  | nil => intro _ hx; cases hx
  | cons z l ih =>
    rintro ⟨h1, h2⟩ hx
    rcases List.mem_cons.1 hx with hx | hx
    · subst hx
      exact ⟨l, h1, h2, fun y hy => by simp [hy], fun y hy hlt => by
        rcases List.mem_cons.1 hy with hy | hy
        · rw [hy] at hlt; exact absurd hlt (Nat.lt_irrefl _)
        · exact hy⟩
    · obtain ⟨l1, k1, k2, k3, k4⟩ := ih h2 hx
      refine ⟨l1, k1, k2, fun y hy => by simp [k3 y hy], fun y hy hlt => ?_⟩
      rcases List.mem_cons.1 hy with hy | hy
      · exfalso
        have h3 := h2.lt x hx
        have h4 := h1.hi
        rw [hy] at hlt
        omega
      · exact k4 y hy hlt
/-- operation i's record -/
theorem AllOk.at {α : Type} (f : TR → α) : AllOk P w0 n s0 ops l → ∀ i, i < l.length → ∃ x ∈ l, x.i = i ∧ (l.map f).reverse[i]? = some (f x) := by
  induction l with
  | nil => intro _ i hi; cases hi
  | cons w l ih =>
    rintro ⟨e1, e2⟩ i hi
    rw [List.map_cons, List.reverse_cons]
    by_cases h : i < l.length
    · obtain ⟨x, hx, h1, h2⟩ := ih e2 i h
      exact ⟨x, by simp [hx], h1, by rw [List.getElem?_append_left (by simpa using h)]; exact h2⟩
    · have h3 : i = l.length := by rw [List.length_cons] at hi; omega
      subst h3
      refine ⟨w, by simp, e1.hi, ?_⟩
      rw [List.getElem?_append_right (by simp)]; simp
theorem AllOk.opAt (ha : AllOk P w0 n s0 ops l) {x : TR} (hx : x ∈ l) (T : List Ent) : (skelOf s0 ops l T).op x.i = opK s0.nxt T ops.toArray x ∧ (skelOf s0 ops l T).before x.i = x.b := by
  have hlt := ha.lt x hx
  obtain ⟨y, hy, h1, h2⟩ := ha.at (opK s0.nxt T ops.toArray) x.i hlt
  obtain ⟨z, hz, h3, h4⟩ := ha.at (·.b) x.i hlt
  obtain rfl := ha.uniq y hy x hx h1
  obtain rfl := ha.uniq z hz y hx h3
  constructor
  · show (l.map (opK s0.nxt T ops.toArray)).reverse.getD z.i _ = _
    rw [List.getD_eq_getElem?_getD, h2]; rfl
  · show (l.map (·.b)).reverse.getD z.i [] = _
    rw [List.getD_eq_getElem?_getD, h4]; rfl
theorem tab_mem {n0 : Nat} {chs : List Ent} {e : Ent} : ∀ {l : List TR}, e ∈ tabOf n0 chs l ↔ e ∈ chs ∨ ∃ x ∈ l, e ∈ givesOf n0 x
  | [] => by simp [tabOf]
  | y :: l => by
    unfold tabOf
    rw [List.mem_append, tab_mem (l := l)]
    constructor
    · rintro (h | h | ⟨x, hx, h⟩)
      · exact .inr ⟨y, by simp, h⟩
      · exact .inl h
      · exact .inr ⟨x, by simp [hx], h⟩
    · rintro (h | ⟨x, hx, h⟩)
      · exact .inr (.inl h)
      · rcases List.mem_cons.1 hx with rfl | hx
        · exact .inl h
        · exact .inr (.inr ⟨x, hx, h⟩)
theorem gives_ver {n0 : Nat} {x : TR} {e : Ent} (h : e ∈ givesOf n0 x) : e.2.1 = n0 + x.i ∧ (e.1, e.2.2) ∈ x.r.gives := by
  obtain ⟨g, hg, rfl⟩ := List.mem_map.1 h
  exact ⟨rfl, hg⟩
theorem env_mem {n0 : Nat} {env : List (Nat × Nat × AV)} {e : Nat × Nat × AV} : ∀ {l : List TR}, e ∈ envOf n0 env l → e ∈ env ∨ ∃ x ∈ l, x.o.dst = some e.1 ∧ e.2.1 = n0 + x.i ∧ e.2.2 = x.r.av
  | [], h => .inl h
  | y :: l, h => by
    unfold envOf putE at h
    split at h
    · rename_i d hd
      rcases List.mem_cons.1 h with rfl | h
      · exact .inr ⟨y, by simp, hd, rfl, rfl⟩
      · exact (env_mem h).imp id fun ⟨x, hx, k⟩ => ⟨x, by simp [hx], k⟩
    · exact (env_mem h).imp id fun ⟨x, hx, k⟩ => ⟨x, by simp [hx], k⟩
theorem inB_ok {n0 : Nat} {b : List Nat} {v : Nat} : inB n0 b v = true ↔ v < n0 ∨ v - n0 ∈ b := by unfold inB; rw [Bool.or_eq_true, nblt, isIn_ok]
theorem sub_chs {i : Nat} {b : List Nat} {e : Ent} (h : e ∈ (subS s0 l i b).chs) : e ∈ tabOf s0.nxt s0.chs l ∧ (e.2.1 < s0.nxt ∨ e.2.1 - s0.nxt ∈ b) := by
  obtain ⟨h1, h2⟩ := List.mem_filter.1 h
  rw [Bool.and_eq_true] at h2
  exact ⟨h1, inB_ok.1 h2.1⟩
theorem sub_env {i : Nat} {b : List Nat} {e : Nat × Nat × AV} (h : e ∈ (subS s0 l i b).env) : e ∈ envOf s0.nxt s0.env l ∧ (e.2.1 < s0.nxt ∨ e.2.1 - s0.nxt ∈ b) := by
  obtain ⟨h1, h2⟩ := List.mem_filter.1 h
  exact ⟨h1, inB_ok.1 h2⟩
/-- the entries' values, of the operations' values -/
def thOf (θ : Th) (n0 : Nat) (vs : Nat → Value) : Th := fun id => if id < n0 then θ id else vs (id - n0)
theorem thOf_same {θ : Th} {n0 : Nat} {vs : Nat → Value} : Same n0 θ (thOf θ n0 vs) := fun i hi => if_pos hi
theorem thOf_upd {θ : Th} {n0 i : Nat} {vs : Nat → Value} {v : Value} : thOf θ n0 (upd vs i v) = upd (thOf θ n0 vs) (n0 + i) v := by
  funext id
  show (if id < n0 then θ id else if id - n0 = i then v else vs (id - n0)) = if id = n0 + i then v else if id < n0 then θ id else vs (id - n0)
  by_cases h : id < n0
  · rw [if_pos h, if_neg (show ¬ id = n0 + i by omega), if_pos h]
  · rw [if_neg h]
    by_cases h2 : id = n0 + i
    · rw [if_pos h2, if_pos (show id - n0 = i by omega)]
    · rw [if_neg h2, if_neg h, if_neg (show ¬ id - n0 = i by omega)]
def RawF (P : Program) (w0 : World) (J : Hp) (θ : Th) (n0 : Nat) (x : TR) (v : Value) : Prop :=
  x.r.av.ok P w0 J θ (n0 + x.i + 1) (x.r.chs (n0 + x.i)) ∧ x.r.av.v θ = v ∧ ∀ g ∈ x.r.gives, okE P w0 J θ (n0 + x.i + 1) (x.r.chs (n0 + x.i)) (g.1, n0 + x.i, g.2)
end
section
variable {P : Program} {w0 : World} {n : Nat} {s0 : Sg} {ops : List Oper} {l : List TR} {J : Hp} {θ : Th} {vs : Nat → Value}
/-- where a word of an entry stems from -/
def Orig (s0 : Sg) (l : List TR) (h : Hdr) (ver : Nat) (c : Chk) : Prop := (∃ e0 ∈ s0.chs, Says e0 h ver c) ∨ ∃ x ∈ l, (h, ver, c) ∈ givesOf s0.nxt x
theorem says_lt {e : Ent} {h : Hdr} {ver : Nat} {c : Chk} {chs : List Ent} {m : Nat} (k : okE P w0 J θ m chs e) (hs : Says e h ver c) : ver < m := by
  obtain ⟨g, v, x⟩ := e
  obtain ⟨-, hs⟩ := hs
  rcases hs with ⟨h1, -⟩ | hs
  · rw [← h1]; exact k.2.1
  · cases x with
    | hole over t d u y f i kk off lv =>
      rw [← hs.1]
      exact Nat.lt_trans k.2.2.2.1 k.2.1
    | _ => exact hs.elim
theorem orig_fn (hB : distinctB s0.chs = true) (hK : distinctK (tabOf s0.nxt s0.chs l) = true) (hf : Fine P w0 J θ s0) {h : Hdr} {ver : Nat} {c c' : Chk} (h1 : Orig s0 l h ver c) (h2 : Orig s0 l h ver c') : c = c' := by
  have base : ∀ e1 ∈ s0.chs, ∀ e2 ∈ s0.chs, ∀ c c', Says e1 h ver c → Says e2 h ver c' → c = c' := by
    intro e1 he1 e2 he2 c c' k1 k2
    obtain rfl := distinctB_ok hB e1 he1 e2 he2 (k1.1.trans k2.1.symm)
    have hok := hf.chs e1 he1
    obtain ⟨g, v, x⟩ := e1
    rcases k1.2 with ⟨a1, a2⟩ | a
    · rcases k2.2 with ⟨b1, b2⟩ | b
      · rw [a2, b2]
      · cases x with
        | hole over t d u y f i kk off lv =>
          have := hok.2.2.2.1
          have e1 : v = ver := a1
          have e2 : over = ver := b.1
          exfalso
          have : over < v := this
          omega
        | _ => exact b.elim
    · rcases k2.2 with ⟨b1, b2⟩ | b
      · cases x with
        | hole over t d u y f i kk off lv =>
          have := hok.2.2.2.1
          have e1 : v = ver := b1
          have e2 : over = ver := a.1
          exfalso
          have : over < v := this
          omega
        | _ => exact a.elim
      · cases x with
        | hole over t d u y f i kk off lv => rw [a.2, b.2]
        | _ => exact a.elim
  rcases h1 with ⟨e1, he1, k1⟩ | ⟨x, hx, k1⟩
  · rcases h2 with ⟨e2, he2, k2⟩ | ⟨y, hy, k2⟩
    · exact base e1 he1 e2 he2 c c' k1 k2
    · have := says_lt (hf.chs e1 he1) k1
      have := (gives_ver k2).1
      exfalso; simp only at this; omega
  · rcases h2 with ⟨e2, he2, k2⟩ | ⟨y, hy, k2⟩
    · have := says_lt (hf.chs e2 he2) k2
      have := (gives_ver k1).1
      exfalso; simp only at this; omega
    · have := distinctK_ok hK _ (tab_mem.2 (.inr ⟨x, hx, k1⟩)) _ (tab_mem.2 (.inr ⟨y, hy, k2⟩)) rfl rfl
      exact congrArg (fun e => e.2.2) this
/-- what the sub-state of an operation says -/
theorem fine_sub (hB : distinctB s0.chs = true) (hK : distinctK (tabOf s0.nxt s0.chs l) = true) (hf : Fine P w0 J θ s0) (ha : AllOk P w0 n s0 ops l) (hc : ∀ x ∈ l, recChk s0.nxt x = true)
    (L1 : List TR) (hL : ∀ y ∈ L1, y ∈ l) (b : List Nat) (i : Nat) (hbi : ∀ j ∈ b, j < i)
    (hfact : ∀ y ∈ l, y.i ∈ b → RawF P w0 J (thOf θ s0.nxt vs) s0.nxt y (vs y.i))
    (horig : ∀ y ∈ l, y.i ∈ b → ∀ e ∈ givesOf s0.nxt y, ∀ h ver c, Says e h ver c → Orig s0 l h ver c)
    (hback : ∀ y ∈ l, y.i ∈ b → ∀ e ∈ y.r.chs (s0.nxt + y.i), ∀ h ver c, Says e h ver c → Orig s0 l h ver c)
    (hnd : (envOf s0.nxt s0.env L1).Pairwise fun a b => a.2.1 ≠ b.2.1) : Fine P w0 J (thOf θ s0.nxt vs) (subS s0 L1 i b) := by
  have own : ∀ e ∈ (subS s0 L1 i b).chs, ∀ h ver c, Says e h ver c → Orig s0 l h ver c := by
    intro e he h ver c hs
    obtain ⟨h1, h2⟩ := sub_chs he
    rcases tab_mem.1 h1 with h1 | ⟨y, hy, h1⟩
    · exact .inl ⟨e, h1, hs⟩
    · have hv := (gives_ver h1).1
      rcases h2 with h2 | h2
      · omega
      · exact horig y (hL y hy) (by rw [hv, Nat.add_sub_cancel_left] at h2; exact h2) e h1 h ver c hs
  have mem0 : ∀ h ver c, Mem s0.chs s0.nxt h ver c → ∀ e ∈ (subS s0 L1 i b).chs, ∀ c', Says e h ver c' → c' = c := by
    intro h ver c hm e he c' hs
    rcases own e he h ver c' hs with ⟨e0, he0, k⟩ | ⟨y, hy, k⟩
    · exact hm.2 e0 he0 c' k
    · have := (gives_ver k).1
      have := hm.1
      exfalso; simp only at *; omega
  have memj : ∀ y ∈ l, y.i ∈ b → ∀ h ver, (h, ver) ∈ elosOf s0.nxt y → ∀ c, Mem (y.r.chs (s0.nxt + y.i)) (s0.nxt + y.i + 1) h ver c → ∀ e ∈ (subS s0 L1 i b).chs, ∀ c', Says e h ver c' → c' = c := by
    intro y hy hyb h ver hel c hm e he c' hs
    have hch := hc y hy
    unfold recChk at hch
    rw [Bool.and_eq_true] at hch
    have := (List.all_eq_true.1 hch.2) (h, ver) hel
    obtain ⟨e1, he1, hk⟩ := List.any_eq_true.1 this
    obtain ⟨c1, hs1⟩ := saysK_ok hk
    have hc1 := hm.2 e1 he1 c1 hs1
    subst hc1
    exact orig_fn hB hK hf (own e he h ver c' hs) (hback y hy hyb e1 he1 h ver c1 hs1)
  refine ⟨fun e he => ?_, fun e he => ?_, List.Pairwise.filter _ hnd, fun e he => ?_⟩
  · obtain ⟨h1, h2⟩ := sub_env he
    rcases env_mem h1 with h1 | ⟨y, hy, k1, k2, k3⟩
    · have := hf.env e h1
      refine AV.ok_move (n := s0.nxt) (Nat.le_add_right _ _) (fun h ver c _ hm => mem0 h ver c hm) ?_
      exact AV.ok_same thOf_same (Nat.le_refl _) Newer.rfl this Hp.le.rfl
    · rcases h2 with h2 | h2
      · omega
      · have hyb : y.i ∈ b := by rw [k2, Nat.add_sub_cancel_left] at h2; exact h2
        have hr := hfact y (hL y hy) hyb
        have := hbi _ hyb
        rw [k3]
        refine AV.ok_move (n := s0.nxt + y.i + 1) (by show s0.nxt + y.i + 1 ≤ s0.nxt + i; omega) (fun h ver c hel hm => memj y (hL y hy) hyb h ver (List.mem_append_left _ hel) c hm) hr.1
  · obtain ⟨h1, h2⟩ := sub_env he
    rcases env_mem h1 with h1 | ⟨y, hy, k1, k2, k3⟩
    · exact Nat.lt_of_lt_of_le (hf.ver e h1) (Nat.le_add_right _ _)
    · rcases h2 with h2 | h2
      · omega
      · have := hbi _ h2
        show e.2.1 < s0.nxt + i
        omega
  · obtain ⟨h1, h2⟩ := sub_chs he
    rcases tab_mem.1 h1 with h1 | ⟨y, hy, h1⟩
    · refine okE_move (n := s0.nxt) (Nat.le_add_right _ _) (fun h ver c _ hm => mem0 h ver c hm) ?_
      exact okE_same thOf_same (Nat.le_refl _) Newer.rfl (hf.chs e h1) Hp.le.rfl
    · obtain ⟨hv, hg⟩ := gives_ver h1
      rcases h2 with h2 | h2
      · omega
      · have hyb : y.i ∈ b := by rw [hv, Nat.add_sub_cancel_left] at h2; exact h2
        have hr := hfact y (hL y hy) hyb
        have := hbi _ hyb
        have hk := hr.2.2 _ hg
        have he2 : e = (e.1, s0.nxt + y.i, e.2.2) := by rw [← hv]
        rw [he2]
        refine okE_move (n := s0.nxt + y.i + 1) (by show s0.nxt + y.i + 1 ≤ s0.nxt + i; omega) (fun h ver c hel hm => ?_) hk
        exact memj y (hL y hy) hyb h ver (List.mem_append_right _ (List.mem_flatMap.2 ⟨_, hg, hel⟩)) c hm
end
end Go.Proofs.Ytfkocnnphjkmfaa.R
