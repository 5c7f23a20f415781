/- FnExactCompileExpr: for every input the law returns true and changes nothing that was there. Part 5 of 7. -/
import Derived.Test.YtofopdbnkafljaaPC3
/- A drawn region, run on states: the plan, and that it serves. No program text is named here. -/
set_option linter.unusedVariables false
set_option linter.unusedSimpArgs false
set_option linter.unnecessarySimpa false
set_option linter.unusedSectionVars false
namespace Go.Proofs.Ytofopdbnkafljaa.R
open Go.RowKit
open Go.Proofs.Ytofopdbnkafljaa.D

def verOf (l : List (Nat × Nat × AV)) (t : Nat) : Option Nat := match l with
  | [] => none
  | (u, k, _) :: l => if Nat.beq u t then some k else verOf l t
def numOf (e : Ent) : List Ent → Nat
  | [] => 0
  | x :: l => if sameKey x e then 0 else numOf e l + 1
def opOf (n0 v : Nat) : Option Nat := if Nat.blt v n0 then none else some (v - n0)
def srcsOf (n0 : Nat) (env : List (Nat × Nat × AV)) : List Nat → List (Nat × Option Nat)
  | [] => []
  | t :: l => match verOf env t with
    | some v => (t, opOf n0 v) :: srcsOf n0 env l
    | none => srcsOf n0 env l
def opK (n0 : Nat) (T : List Ent) (ops : Array Oper) (x : TR) : OpK := ⟨x.r.rs.map (numOf · T), x.r.ns.map (numOf · T), (givesOf n0 x).map (numOf · T), srcsOf n0 x.s.env (slotsOf ops x.o)⟩
def finOf (n0 : Nat) : List (Nat × Nat × AV) → List Nat → List (Nat × Option Nat)
  | [], _ => []
  | e :: l, seen => match isIn e.1 seen with
    | true => finOf n0 l seen
    | false => (e.1, opOf n0 e.2.1) :: finOf n0 l (e.1 :: seen)
def skelOf (s0 : Sg) (ops : List Oper) (l : List TR) (T : List Ent) : Skel :=
  ⟨(l.map (opK s0.nxt T ops.toArray)).reverse, T.length, s0.chs.map (numOf · T), (l.map (·.b)).reverse, finOf s0.nxt (endS s0 l).env [], (endS s0 l).chs.map (numOf · T)⟩
def distinctK : List Ent → Bool
  | [] => true
  | e :: l => !(l.any fun x => sameKey x e) && distinctK l
def distinctB : List Ent → Bool
  | [] => true
  | e :: l => noHdr e.1 l && distinctB l
def saysK (h : Hdr) (ver : Nat) (e : Ent) : Bool := Hdr.beq e.1 h && (Nat.beq e.2.1 ver || match e.2.2 with
  | .hole over _ _ _ _ _ _ _ _ _ => Nat.beq over ver
  | _ => false)
def allowed (n0 : Nat) (x : TR) (v : Nat) : Bool := Nat.blt v n0 || (Nat.beq (v - n0) x.i || isIn (v - n0) x.b)
def elosOf (n0 : Nat) (x : TR) : List (Hdr × Nat) := x.r.av.elos ++ x.r.gives.flatMap fun g => g.2.elos (n0 + x.i)
def idsOf (x : TR) : List Nat := x.r.av.ids ++ x.r.gives.flatMap fun g => entIds g.1 g.2
def recChk (n0 : Nat) (x : TR) : Bool := allN (idsOf x) (allowed n0 x) && (elosOf n0 x).all fun q => (x.r.chs (n0 + x.i)).any (saysK q.1 q.2)
def knS (s0 : Sg) (t : Nat) : Bool := (look s0.env t).isSome
def planOk (n : Nat) (s0 : Sg) (ops : List Oper) (l : List TR) (T : List Ent) : Bool := distinctB s0.chs && (distinctK T && (l.all (recChk s0.nxt) && ((skelOf s0 ops l T).ok n (knS s0) ops && (skelOf s0 ops l T).okB (knS s0) ops)))
section
variable {Y : Type} (V : Env)
def allHdrs (s0 : Sg) : List Oper → List Hdr
  | [] => []
  | o :: os => hdrsOf s0 o.op.operands.toList ++ allHdrs s0 os
def drawS0 (ops : List Oper) (k : Sg → Option Y) (s0 : Sg) : Option Y := goD V ops s0 (fun l => chkT (planOk V.n s0 ops l (tabOf s0.nxt s0.chs l)) (k (endS s0 l))) ops 0 []
def allFrz (s0 : Sg) : List Oper → List (Bool × Hdr)
  | [] => []
  | o :: os => frzH s0 (keeps o) (keptO o) ++ allFrz s0 os
def prepFD (tr : Trs) (ops : List Oper) (s : Sg) : Sg := match tr with
  | [] => s
  | _ => frzL tr (allFrz s ops) s
def prepD (tr : Trs) (ops : List Oper) (s0 : Sg) : Sg := match openA s0 with
  | s => prepFD tr ops (prepL (allHdrs s ops) s)
def drawS (ops : List Oper) (k : Sg → Option Y) (s : Sg) : Option Y := drawS0 V ops k (prepD V.tr ops s)
end

/-! ### That it serves -/
theorem sameKey_ok {a b : Ent} : sameKey a b = true ↔ a.2.1 = b.2.1 ∧ a.1 = b.1 := by
  unfold sameKey
  rw [Bool.and_eq_true, nbeq]
  constructor
  · rintro ⟨h1, h2⟩; exact ⟨h1, Hdr.beq_eq h2⟩
  · rintro ⟨h1, h2⟩; exact ⟨h1, by rw [h2]; exact hdr_refl _⟩
theorem distinctK_ok {l : List Ent} : distinctK l = true → ∀ a ∈ l, ∀ b ∈ l, a.2.1 = b.2.1 → a.1 = b.1 → a = b := by
  induction l with
  | nil => intro _ a ha; cases ha
  | cons e l ih =>
    intro h a ha b hb
    unfold distinctK at h
    rw [Bool.and_eq_true, Bool.not_eq_true'] at h
    obtain ⟨h1, h2⟩ := h
    have key : ∀ x ∈ l, ¬ (x.2.1 = e.2.1 ∧ x.1 = e.1) := fun x hx hk => by
      have : (l.any fun x => sameKey x e) = true := List.any_eq_true.2 ⟨x, hx, sameKey_ok.2 hk⟩
      rw [h1] at this; cases this
    intro k1 k2
    rcases List.mem_cons.1 ha with ha' | ha'
    · rcases List.mem_cons.1 hb with hb' | hb'
      · rw [ha', hb']
      · rw [ha'] at k1 k2; exact absurd ⟨k1.symm, k2.symm⟩ (key b hb')
    · rcases List.mem_cons.1 hb with hb' | hb'
      · rw [hb'] at k1 k2; exact absurd ⟨k1, k2⟩ (key a ha')
      · exact ih h2 a ha' b hb' k1 k2
theorem distinctB_ok {l : List Ent} : distinctB l = true → ∀ a ∈ l, ∀ b ∈ l, a.1 = b.1 → a = b := by
  induction l with
  | nil => intro _ a ha; cases ha
  | cons e l ih =>
    intro h a ha b hb
    unfold distinctB at h
    rw [Bool.and_eq_true] at h
    obtain ⟨h1, h2⟩ := h
    intro k
    rcases List.mem_cons.1 ha with ha' | ha'
    · rcases List.mem_cons.1 hb with hb' | hb'
      · rw [ha', hb']
      · rw [ha'] at k; exact absurd k.symm (noHdr_ok h1 hb')
    · rcases List.mem_cons.1 hb with hb' | hb'
      · rw [hb'] at k; exact absurd k (noHdr_ok h1 ha')
      · exact ih h2 a ha' b hb' k
theorem numOf_ok {e : Ent} : ∀ {T : List Ent}, distinctK T = true → e ∈ T → T[numOf e T]? = some e
  | x :: T, hd, he => by
    unfold numOf
    split
    · rename_i hk
      obtain ⟨k1, k2⟩ := sameKey_ok.1 hk
      exact congrArg some (distinctK_ok hd x (by simp) e he k1 k2)
    · rename_i hk
      have hd' := hd
      unfold distinctK at hd'
      rw [Bool.and_eq_true] at hd'
      rcases List.mem_cons.1 he with rfl | he
      · exact absurd (sameKey_ok.2 ⟨rfl, rfl⟩) hk
      · exact numOf_ok hd'.2 he
theorem saysK_ok {h : Hdr} {ver : Nat} {e : Ent} (k : saysK h ver e = true) : ∃ c, Says e h ver c := by
  unfold saysK at k
  rw [Bool.and_eq_true, Bool.or_eq_true] at k
  obtain ⟨h1, h2⟩ := k
  have h1 := Hdr.beq_eq h1
  obtain ⟨g, v, c⟩ := e
  rcases h2 with h2 | h2
  · exact ⟨c, h1, .inl ⟨Nat.eq_of_beq_eq_true h2, rfl⟩⟩
  · cases c with
    | hole over t d u y f i kk off lv => exact ⟨.own t d, h1, .inr ⟨Nat.eq_of_beq_eq_true h2, rfl⟩⟩
    | _ => cases h2
section
variable {P : Program} {w0 : World} {n : Nat} {s0 : Sg} {ops : List Oper} {l : List TR}
theorem AllOk.lt : AllOk P w0 n s0 ops l → ∀ y ∈ l, y.i < l.length := by
  induction l with
  | nil => intro _ y hy; cases hy
  | cons w l ih =>
    rintro ⟨e1, e2⟩ y hy
    rcases List.mem_cons.1 hy with rfl | hy
    · rw [e1.hi, List.length_cons]; omega
    · have := ih e2 y hy
      rw [List.length_cons]; omega
theorem AllOk.uniq : AllOk P w0 n s0 ops l → ∀ x ∈ l, ∀ y ∈ l, x.i = y.i → x = y := by
  induction l with
  | nil => intro _ y hy; cases hy
  | cons w l ih =>
    rintro ⟨e1, e2⟩ x hx y hy h
    have hw := e1.hi
    rcases List.mem_cons.1 hx with hx | hx
    · rcases List.mem_cons.1 hy with hy | hy
      · rw [hx, hy]
      · have := e2.lt y hy
        rw [hx] at h; omega
    · rcases List.mem_cons.1 hy with hy | hy
      · have := e2.lt x hx
        rw [hy] at h; omega
      · exact ih e2 x hx y hy h
theorem AllOk.get {x : TR} : AllOk P w0 n s0 ops l → x ∈ l → ∃ l1, RecOk P w0 n s0 ops l1 x ∧ AllOk P w0 n s0 ops l1 ∧ (∀ y ∈ l1, y ∈ l) ∧ ∀ y ∈ l, y.i < x.i → y ∈ l1 := by
  induction l with
  | nil => intro _ hx; cases hx
  | cons z l ih =>
    rintro ⟨h1, h2⟩ hx
    rcases List.mem_cons.1 hx with hx | hx
    · subst hx
      exact ⟨l, h1, h2, fun y hy => by simp [hy], fun y hy hlt => by
        rcases List.mem_cons.1 hy with hy | hy
        · rw [hy] at hlt; exact absurd hlt (Nat.lt_irrefl _)
        · exact hy⟩
    · obtain ⟨l1, k1, k2, k3, k4⟩ := ih h2 hx
      refine ⟨l1, k1, k2, fun y hy => by simp [k3 y hy], fun y hy hlt => ?_⟩
      rcases List.mem_cons.1 hy with hy | hy
      · exfalso
        have h3 := h2.lt x hx
        have h4 := h1.hi
        rw [hy] at hlt
        omega
      · exact k4 y hy hlt
/-- operation i's record -/
theorem AllOk.at {α : Type} (f : TR → α) : AllOk P w0 n s0 ops l → ∀ i, i < l.length → ∃ x ∈ l, x.i = i ∧ (l.map f).reverse[i]? = some (f x) := by
  induction l with
  | nil => intro _ i hi; cases hi
  | cons w l ih =>
    rintro ⟨e1, e2⟩ i hi
    rw [List.map_cons, List.reverse_cons]
    by_cases h : i < l.length
    · obtain ⟨x, hx, h1, h2⟩ := ih e2 i h
      exact ⟨x, by simp [hx], h1, by rw [List.getElem?_append_left (by simpa using h)]; exact h2⟩
    · have h3 : i = l.length := by rw [List.length_cons] at hi; omega
      subst h3
      refine ⟨w, by simp, e1.hi, ?_⟩
      rw [List.getElem?_append_right (by simp)]; simp
theorem AllOk.opAt (ha : AllOk P w0 n s0 ops l) {x : TR} (hx : x ∈ l) (T : List Ent) : (skelOf s0 ops l T).op x.i = opK s0.nxt T ops.toArray x ∧ (skelOf s0 ops l T).before x.i = x.b := by
  have hlt := ha.lt x hx
  obtain ⟨y, hy, h1, h2⟩ := ha.at (opK s0.nxt T ops.toArray) x.i hlt
  obtain ⟨z, hz, h3, h4⟩ := ha.at (·.b) x.i hlt
  obtain rfl := ha.uniq y hy x hx h1
  obtain rfl := ha.uniq z hz y hx h3
  constructor
  · show (l.map (opK s0.nxt T ops.toArray)).reverse.getD z.i _ = _
    rw [List.getD_eq_getElem?_getD, h2]; rfl
  · show (l.map (·.b)).reverse.getD z.i [] = _
    rw [List.getD_eq_getElem?_getD, h4]; rfl
theorem tab_mem {n0 : Nat} {chs : List Ent} {e : Ent} : ∀ {l : List TR}, e ∈ tabOf n0 chs l ↔ e ∈ chs ∨ ∃ x ∈ l, e ∈ givesOf n0 x
  | [] => by simp [tabOf]
  | y :: l => by
    unfold tabOf
    rw [List.mem_append, tab_mem (l := l)]
    constructor
    · rintro (h | h | ⟨x, hx, h⟩)
      · exact .inr ⟨y, by simp, h⟩
      · exact .inl h
      · exact .inr ⟨x, by simp [hx], h⟩
    · rintro (h | ⟨x, hx, h⟩)
      · exact .inr (.inl h)
      · rcases List.mem_cons.1 hx with rfl | hx
        · exact .inl h
        · exact .inr (.inr ⟨x, hx, h⟩)
theorem gives_ver {n0 : Nat} {x : TR} {e : Ent} (h : e ∈ givesOf n0 x) : e.2.1 = n0 + x.i ∧ (e.1, e.2.2) ∈ x.r.gives := by
  obtain ⟨g, hg, rfl⟩ := List.mem_map.1 h
  exact ⟨rfl, hg⟩
theorem env_mem {n0 : Nat} {env : List (Nat × Nat × AV)} {e : Nat × Nat × AV} : ∀ {l : List TR}, e ∈ envOf n0 env l → e ∈ env ∨ ∃ x ∈ l, x.o.dst = some e.1 ∧ e.2.1 = n0 + x.i ∧ e.2.2 = x.r.av
  | [], h => .inl h
  | y :: l, h => by
    unfold envOf putE at h
    split at h
    · rename_i d hd
      rcases List.mem_cons.1 h with rfl | h
      · exact .inr ⟨y, by simp, hd, rfl, rfl⟩
      · exact (env_mem h).imp id fun ⟨x, hx, k⟩ => ⟨x, by simp [hx], k⟩
    · exact (env_mem h).imp id fun ⟨x, hx, k⟩ => ⟨x, by simp [hx], k⟩
theorem inB_ok {n0 : Nat} {b : List Nat} {v : Nat} : inB n0 b v = true ↔ v < n0 ∨ v - n0 ∈ b := by unfold inB; rw [Bool.or_eq_true, nblt, isIn_ok]
theorem sub_chs {i : Nat} {b : List Nat} {e : Ent} (h : e ∈ (subS s0 l i b).chs) : e ∈ tabOf s0.nxt s0.chs l ∧ (e.2.1 < s0.nxt ∨ e.2.1 - s0.nxt ∈ b) := by
  obtain ⟨h1, h2⟩ := List.mem_filter.1 h
  rw [Bool.and_eq_true] at h2
  exact ⟨h1, inB_ok.1 h2.1⟩
theorem sub_env {i : Nat} {b : List Nat} {e : Nat × Nat × AV} (h : e ∈ (subS s0 l i b).env) : e ∈ envOf s0.nxt s0.env l ∧ (e.2.1 < s0.nxt ∨ e.2.1 - s0.nxt ∈ b) := by
  obtain ⟨h1, h2⟩ := List.mem_filter.1 h
  exact ⟨h1, inB_ok.1 h2⟩
/-- the entries' values, of the operations' values -/
def thOf (θ : Th) (n0 : Nat) (vs : Nat → Value) : Th := fun id => if id < n0 then θ id else vs (id - n0)
theorem thOf_same {θ : Th} {n0 : Nat} {vs : Nat → Value} : Same n0 θ (thOf θ n0 vs) := fun i hi => if_pos hi
theorem thOf_upd {θ : Th} {n0 i : Nat} {vs : Nat → Value} {v : Value} : thOf θ n0 (upd vs i v) = upd (thOf θ n0 vs) (n0 + i) v := by
  funext id
  show (if id < n0 then θ id else if id - n0 = i then v else vs (id - n0)) = if id = n0 + i then v else if id < n0 then θ id else vs (id - n0)
  by_cases h : id < n0
  · rw [if_pos h, if_neg (show ¬ id = n0 + i by omega), if_pos h]
  · rw [if_neg h]
    by_cases h2 : id = n0 + i
    · rw [if_pos h2, if_pos (show id - n0 = i by omega)]
    · rw [if_neg h2, if_neg h, if_neg (show ¬ id - n0 = i by omega)]
def RawF (P : Program) (w0 : World) (J : Hp) (θ : Th) (n0 : Nat) (x : TR) (v : Value) : Prop :=
  x.r.av.ok P w0 J θ (n0 + x.i + 1) (x.r.chs (n0 + x.i)) ∧ x.r.av.v θ = v ∧ ∀ g ∈ x.r.gives, okE P w0 J θ (n0 + x.i + 1) (x.r.chs (n0 + x.i)) (g.1, n0 + x.i, g.2)
end
section
variable {P : Program} {w0 : World} {n : Nat} {s0 : Sg} {ops : List Oper} {l : List TR} {J : Hp} {θ : Th} {vs : Nat → Value}
/-- where a word of an entry stems from -/
def Orig (s0 : Sg) (l : List TR) (h : Hdr) (ver : Nat) (c : Chk) : Prop := (∃ e0 ∈ s0.chs, Says e0 h ver c) ∨ ∃ x ∈ l, (h, ver, c) ∈ givesOf s0.nxt x
theorem says_lt {e : Ent} {h : Hdr} {ver : Nat} {c : Chk} {chs : List Ent} {m : Nat} (k : okE P w0 J θ m chs e) (hs : Says e h ver c) : ver < m := by
  obtain ⟨g, v, x⟩ := e
  obtain ⟨-, hs⟩ := hs
  rcases hs with ⟨h1, -⟩ | hs
  · rw [← h1]; exact k.2.1
  · cases x with
    | hole over t d u y f i kk off lv =>
      rw [← hs.1]
      exact Nat.lt_trans k.2.2.2.1 k.2.1
    | _ => exact hs.elim
theorem orig_fn (hB : distinctB s0.chs = true) (hK : distinctK (tabOf s0.nxt s0.chs l) = true) (hf : Fine P w0 J θ s0) {h : Hdr} {ver : Nat} {c c' : Chk} (h1 : Orig s0 l h ver c) (h2 : Orig s0 l h ver c') : c = c' := by
  have base : ∀ e1 ∈ s0.chs, ∀ e2 ∈ s0.chs, ∀ c c', Says e1 h ver c → Says e2 h ver c' → c = c' := by
    intro e1 he1 e2 he2 c c' k1 k2
    obtain rfl := distinctB_ok hB e1 he1 e2 he2 (k1.1.trans k2.1.symm)
    have hok := hf.chs e1 he1
    obtain ⟨g, v, x⟩ := e1
    rcases k1.2 with ⟨a1, a2⟩ | a
    · rcases k2.2 with ⟨b1, b2⟩ | b
      · rw [a2, b2]
      · cases x with
        | hole over t d u y f i kk off lv =>
          have := hok.2.2.2.1
          have e1 : v = ver := a1
          have e2 : over = ver := b.1
          exfalso
          have : over < v := this
          omega
        | _ => exact b.elim
    · rcases k2.2 with ⟨b1, b2⟩ | b
      · cases x with
        | hole over t d u y f i kk off lv =>
          have := hok.2.2.2.1
          have e1 : v = ver := b1
          have e2 : over = ver := a.1
          exfalso
          have : over < v := this
          omega
        | _ => exact a.elim
      · cases x with
        | hole over t d u y f i kk off lv => rw [a.2, b.2]
        | _ => exact a.elim
  rcases h1 with ⟨e1, he1, k1⟩ | ⟨x, hx, k1⟩
  · rcases h2 with ⟨e2, he2, k2⟩ | ⟨y, hy, k2⟩
    · exact base e1 he1 e2 he2 c c' k1 k2
    · have := says_lt (hf.chs e1 he1) k1
      have := (gives_ver k2).1
      exfalso; simp only at this; omega
  · rcases h2 with ⟨e2, he2, k2⟩ | ⟨y, hy, k2⟩
    · have := says_lt (hf.chs e2 he2) k2
      have := (gives_ver k1).1
      exfalso; simp only at this; omega
    · have := distinctK_ok hK _ (tab_mem.2 (.inr ⟨x, hx, k1⟩)) _ (tab_mem.2 (.inr ⟨y, hy, k2⟩)) rfl rfl
      exact congrArg (fun e => e.2.2) this
/-- what the sub-state of an operation says -/
theorem fine_sub (hB : distinctB s0.chs = true) (hK : distinctK (tabOf s0.nxt s0.chs l) = true) (hf : Fine P w0 J θ s0) (ha : AllOk P w0 n s0 ops l) (hc : ∀ x ∈ l, recChk s0.nxt x = true)
    (L1 : List TR) (hL : ∀ y ∈ L1, y ∈ l) (b : List Nat) (i : Nat) (hbi : ∀ j ∈ b, j < i)
    (hfact : ∀ y ∈ l, y.i ∈ b → RawF P w0 J (thOf θ s0.nxt vs) s0.nxt y (vs y.i))
    (horig : ∀ y ∈ l, y.i ∈ b → ∀ e ∈ givesOf s0.nxt y, ∀ h ver c, Says e h ver c → Orig s0 l h ver c)
    (hback : ∀ y ∈ l, y.i ∈ b → ∀ e ∈ y.r.chs (s0.nxt + y.i), ∀ h ver c, Says e h ver c → Orig s0 l h ver c)
    (hnd : (envOf s0.nxt s0.env L1).Pairwise fun a b => a.2.1 ≠ b.2.1) : Fine P w0 J (thOf θ s0.nxt vs) (subS s0 L1 i b) := by
  have own : ∀ e ∈ (subS s0 L1 i b).chs, ∀ h ver c, Says e h ver c → Orig s0 l h ver c := by
    intro e he h ver c hs
    obtain ⟨h1, h2⟩ := sub_chs he
    rcases tab_mem.1 h1 with h1 | ⟨y, hy, h1⟩
    · exact .inl ⟨e, h1, hs⟩
    · have hv := (gives_ver h1).1
      rcases h2 with h2 | h2
      · omega
      · exact horig y (hL y hy) (by rw [hv, Nat.add_sub_cancel_left] at h2; exact h2) e h1 h ver c hs
  have mem0 : ∀ h ver c, Mem s0.chs s0.nxt h ver c → ∀ e ∈ (subS s0 L1 i b).chs, ∀ c', Says e h ver c' → c' = c := by
    intro h ver c hm e he c' hs
    rcases own e he h ver c' hs with ⟨e0, he0, k⟩ | ⟨y, hy, k⟩
    · exact hm.2 e0 he0 c' k
    · have := (gives_ver k).1
      have := hm.1
      exfalso; simp only at *; omega
  have memj : ∀ y ∈ l, y.i ∈ b → ∀ h ver, (h, ver) ∈ elosOf s0.nxt y → ∀ c, Mem (y.r.chs (s0.nxt + y.i)) (s0.nxt + y.i + 1) h ver c → ∀ e ∈ (subS s0 L1 i b).chs, ∀ c', Says e h ver c' → c' = c := by
    intro y hy hyb h ver hel c hm e he c' hs
    have hch := hc y hy
    unfold recChk at hch
    rw [Bool.and_eq_true] at hch
    have := (List.all_eq_true.1 hch.2) (h, ver) hel
    obtain ⟨e1, he1, hk⟩ := List.any_eq_true.1 this
    obtain ⟨c1, hs1⟩ := saysK_ok hk
    have hc1 := hm.2 e1 he1 c1 hs1
    subst hc1
    exact orig_fn hB hK hf (own e he h ver c' hs) (hback y hy hyb e1 he1 h ver c1 hs1)
  refine ⟨fun e he => ?_, fun e he => ?_, List.Pairwise.filter _ hnd, fun e he => ?_⟩
  · obtain ⟨h1, h2⟩ := sub_env he
    rcases env_mem h1 with h1 | ⟨y, hy, k1, k2, k3⟩
    · have := hf.env e h1
      refine AV.ok_move (n := s0.nxt) (Nat.le_add_right _ _) (fun h ver c _ hm => mem0 h ver c hm) ?_
      exact AV.ok_same thOf_same (Nat.le_refl _) Newer.rfl this Hp.le.rfl
    · rcases h2 with h2 | h2
      · omega
      · have hyb : y.i ∈ b := by rw [k2, Nat.add_sub_cancel_left] at h2; exact h2
        have hr := hfact y (hL y hy) hyb
        have := hbi _ hyb
        rw [k3]
        refine AV.ok_move (n := s0.nxt + y.i + 1) (by show s0.nxt + y.i + 1 ≤ s0.nxt + i; omega) (fun h ver c hel hm => memj y (hL y hy) hyb h ver (List.mem_append_left _ hel) c hm) hr.1
  · obtain ⟨h1, h2⟩ := sub_env he
    rcases env_mem h1 with h1 | ⟨y, hy, k1, k2, k3⟩
    · exact Nat.lt_of_lt_of_le (hf.ver e h1) (Nat.le_add_right _ _)
    · rcases h2 with h2 | h2
      · omega
      · have := hbi _ h2
        show e.2.1 < s0.nxt + i
        omega
  · obtain ⟨h1, h2⟩ := sub_chs he
    rcases tab_mem.1 h1 with h1 | ⟨y, hy, h1⟩
    · refine okE_move (n := s0.nxt) (Nat.le_add_right _ _) (fun h ver c _ hm => mem0 h ver c hm) ?_
      exact okE_same thOf_same (Nat.le_refl _) Newer.rfl (hf.chs e h1) Hp.le.rfl
    · obtain ⟨hv, hg⟩ := gives_ver h1
      rcases h2 with h2 | h2
      · omega
      · have hyb : y.i ∈ b := by rw [hv, Nat.add_sub_cancel_left] at h2; exact h2
        have hr := hfact y (hL y hy) hyb
        have := hbi _ hyb
        have hk := hr.2.2 _ hg
        have he2 : e = (e.1, s0.nxt + y.i, e.2.2) := by rw [← hv]
        rw [he2]
        refine okE_move (n := s0.nxt + y.i + 1) (by show s0.nxt + y.i + 1 ≤ s0.nxt + i; omega) (fun h ver c hel hm => ?_) hk
        exact memj y (hL y hy) hyb h ver (List.mem_append_right _ (List.mem_flatMap.2 ⟨_, hg, hel⟩)) c hm
end
end Go.Proofs.Ytofopdbnkafljaa.R
/- A drawn region, run on states: the words of the plan hold. No program text is named here. -/
set_option linter.unusedVariables false
set_option linter.unusedSimpArgs false
set_option linter.unnecessarySimpa false
set_option linter.unusedSectionVars false
namespace Go.Proofs.Ytofopdbnkafljaa.R
open Go.RowKit
open Go.Proofs.Ytofopdbnkafljaa.D

theorem addN_ok {t j : Nat} {l : List Nat} : j ∈ addN t l ↔ j = t ∨ j ∈ l := by
  unfold addN
  split
  · rename_i h
    have := isIn_ok.1 h
    constructor
    · exact fun h => .inr h
    · rintro (rfl | h)
      · exact this
      · exact h
  · exact List.mem_cons
theorem addAll_ok {j : Nat} : ∀ {l acc : List Nat}, j ∈ addAll l acc ↔ j ∈ l ∨ j ∈ acc
  | [], acc => by simp [addAll]
  | t :: l, acc => by
    unfold addAll
    rw [addAll_ok (l := l), addN_ok, List.mem_cons]
    constructor
    · rintro (h | h | h) <;> simp [h]
    · rintro ((h | h) | h) <;> simp [h]
def bAt (l : List TR) (k : Nat) : List Nat := match recAt k l with
  | some y => y.b
  | none => []
theorem bOf_ok {l : List TR} {j : Nat} : ∀ {js acc : List Nat}, j ∈ bOf l js acc ↔ j ∈ acc ∨ ∃ k ∈ js, j = k ∨ j ∈ bAt l k
  | [], acc => by simp [bOf]
  | k :: js, acc => by
    unfold bOf
    rw [bOf_ok (js := js), addAll_ok, addN_ok]
    show (j ∈ bAt l k ∨ j = k ∨ j ∈ acc) ∨ _ ↔ _
    constructor
    · rintro ((h | h | h) | ⟨k', hk, h⟩)
      · exact .inr ⟨k, by simp, .inr h⟩
      · exact .inr ⟨k, by simp, .inl h⟩
      · exact .inl h
      · exact .inr ⟨k', by simp [hk], h⟩
    · rintro (h | ⟨k', hk, h⟩)
      · exact .inl (.inr (.inr h))
      · rcases List.mem_cons.1 hk with hk | hk
        · subst hk
          rcases h with h | h
          · exact .inl (.inr (.inl h))
          · exact .inl (.inl h)
        · exact .inr ⟨k', hk, h⟩
theorem recAt_some {y : TR} : ∀ {l : List TR}, y ∈ l → ∃ z, recAt y.i l = some z
  | x :: l, h => by
    unfold recAt
    split
    · exact ⟨_, rfl⟩
    · rename_i hx
      rcases List.mem_cons.1 h with h | h
      · rw [h] at hx; exact absurd (Nat.beq_refl _) hx
      · exact recAt_some h
section
variable {P : Program} {w0 : World} {n : Nat} {s0 : Sg} {ops : List Oper} {l : List TR} {J : Hp} {θ : Th} {vs : Nat → Value}
/-- what comes before what comes before, comes before -/
theorem AllOk.closed (ha : AllOk P w0 n s0 ops l) (hlt : ∀ x ∈ l, ∀ j ∈ x.b, j < x.i) : ∀ x ∈ l, ∀ y ∈ l, y.i ∈ x.b → ∀ k ∈ y.b, k ∈ x.b := by
  have main : ∀ m, ∀ x ∈ l, x.i = m → ∀ y ∈ l, y.i ∈ x.b → ∀ k ∈ y.b, k ∈ x.b := by
    intro m
    induction m using Nat.strongRecOn with
    | _ m ih =>
      intro x hx hxm y hy hyb k hk
      obtain ⟨l1, h1, h2, h3, h4⟩ := ha.get hx
      have hyl := hlt x hx _ hyb
      have hy1 := h4 y hy hyl
      rw [h1.hb, bOf_ok] at hyb ⊢
      rcases hyb with hyb | ⟨q, hq, hyb | hyb⟩
      · cases hyb
      · refine .inr ⟨q, hq, .inr ?_⟩
        subst hyb
        obtain ⟨z, hz⟩ := recAt_some hy1
        unfold bAt
        rw [hz]
        obtain ⟨hz1, hz2⟩ := recAt_ok hz
        obtain rfl := ha.uniq z (h3 z hz1) y hy hz2
        exact hk
      · refine .inr ⟨q, hq, .inr ?_⟩
        unfold bAt at hyb ⊢
        split at hyb
        · rename_i z hz
          obtain ⟨hz1, hz2⟩ := recAt_ok hz
          have hzl := h2.lt z hz1
          rw [← h1.hi] at hzl
          exact ih z.i (by omega) z (h3 z hz1) rfl y hy hyb k hk
        · cases hyb
  exact fun x hx => main x.i x hx rfl
theorem env_nd (hf : Fine P w0 J θ s0) : AllOk P w0 n s0 ops l → (envOf s0.nxt s0.env l).Pairwise fun a b => a.2.1 ≠ b.2.1 := by
  induction l with
  | nil => intro _; exact hf.nd
  | cons x l ih =>
    rintro ⟨h1, h2⟩
    refine nd_go x.o.dst (ih h2) fun e he => ?_
    rcases env_mem he with h | ⟨y, hy, k1, k2, k3⟩
    · have := hf.ver e h; omega
    · have := h2.lt y hy
      have := h1.hi
      omega
where nd_go {env : List (Nat × Nat × AV)} {k : Nat} {av : AV} (d : Option Nat) (h : env.Pairwise fun a b => a.2.1 ≠ b.2.1) (hv : ∀ e ∈ env, e.2.1 < k) : (putE d k av env).Pairwise fun a b => a.2.1 ≠ b.2.1 := nd_put h hv
/-- all of an operation's words, out of those of what comes before -/
theorem words (hB : distinctB s0.chs = true) (hK : distinctK (tabOf s0.nxt s0.chs l) = true) (hf : Fine P w0 J θ s0) (ha : AllOk P w0 n s0 ops l) (hc : ∀ x ∈ l, recChk s0.nxt x = true) (hlt : ∀ x ∈ l, ∀ j ∈ x.b, j < x.i)
    (B : List Nat) (hcl : ∀ y ∈ l, y.i ∈ B → ∀ k ∈ y.b, k ∈ B) (hfact : ∀ y ∈ l, y.i ∈ B → RawF P w0 J (thOf θ s0.nxt vs) s0.nxt y (vs y.i)) :
    ∀ x ∈ l, (∀ k ∈ x.b, k ∈ B) → Fine P w0 J (thOf θ s0.nxt vs) x.s ∧ (∀ e ∈ givesOf s0.nxt x, ∀ h ver c, Says e h ver c → Orig s0 l h ver c) ∧ ∀ e ∈ x.r.chs (s0.nxt + x.i), ∀ h ver c, Says e h ver c → Orig s0 l h ver c := by
  have main : ∀ m, ∀ x ∈ l, x.i = m → (∀ k ∈ x.b, k ∈ B) → Fine P w0 J (thOf θ s0.nxt vs) x.s ∧ (∀ e ∈ givesOf s0.nxt x, ∀ h ver c, Says e h ver c → Orig s0 l h ver c) ∧ ∀ e ∈ x.r.chs (s0.nxt + x.i), ∀ h ver c, Says e h ver c → Orig s0 l h ver c := by
    intro m
    induction m using Nat.strongRecOn with
    | _ m ih =>
      intro x hx hxm hxB
      obtain ⟨l1, h1, h2, h3, h4⟩ := ha.get hx
      have IH : ∀ y ∈ l, y.i ∈ x.b → _ := fun y hy hyb => ih y.i (by have := hlt x hx _ hyb; omega) y hy rfl (hcl y hy (hxB _ hyb))
      have hF : Fine P w0 J (thOf θ s0.nxt vs) x.s := by
        rw [h1.hs]
        exact fine_sub hB hK hf ha hc l1 h3 x.b x.i (hlt x hx) (fun y hy hyb => hfact y hy (hxB _ hyb)) (fun y hy hyb => (IH y hy hyb).2.1) (fun y hy hyb => (IH y hy hyb).2.2) (env_nd hf h2)
      have hsub : ∀ e ∈ x.s.chs, ∀ h ver c, Says e h ver c → Orig s0 l h ver c := by
        intro e he h ver c hs
        rw [h1.hs] at he
        obtain ⟨k1, k2⟩ := sub_chs he
        rcases tab_mem.1 k1 with k1 | ⟨y, hy, k1⟩
        · exact .inl ⟨e, k1, hs⟩
        · have hv := (gives_ver k1).1
          rcases k2 with k2 | k2
          · omega
          · rw [hv, Nat.add_sub_cancel_left] at k2
            exact (IH y (h3 y hy) k2).2.1 e k1 h ver c hs
      have hgv : ∀ e ∈ givesOf s0.nxt x, ∀ h ver c, Says e h ver c → Orig s0 l h ver c := by
        intro e he h ver c hs
        cases hr : x.run with
        | true =>
          obtain ⟨g1, g2⟩ := h1.good hr
          obtain ⟨hv, hg⟩ := gives_ver he
          obtain ⟨k1, k2⟩ := hs
          rcases k2 with ⟨k2, k3⟩ | k2
          · refine .inr ⟨x, hx, ?_⟩
            have : e = (h, ver, c) := by rw [k3, ← k1, ← k2]
            rw [← this]; exact he
          · obtain ⟨e0, he0, k⟩ := g1.says J _ hF _ hg ver c k2
            simp only at k
            rw [k1] at k
            exact hsub e0 he0 h ver c k
        | false =>
          have := h1.skip hr
          unfold givesOf at he
          rw [this] at he
          cases he
      refine ⟨hF, hgv, fun e he h ver c hs => ?_⟩
      unfold Res.chs at he
      rcases List.mem_append.1 he with he | he
      · exact hgv e he h ver c hs
      · refine hsub e ?_ h ver c hs
        cases hr : x.run with
        | true =>
          obtain ⟨g1, g2⟩ := h1.good hr
          exact g1.perm.mem_iff.2 (by rcases List.mem_append.1 he with he | he <;> simp [he])
        | false =>
          rw [h1.skip hr] at he
          simpa using he
  exact fun x hx hxB => main x.i x hx rfl hxB
theorem verOf_look {t : Nat} {av : AV} : ∀ {env : List (Nat × Nat × AV)}, look env t = some av → ∃ v, verOf env t = some v ∧ (t, v, av) ∈ env
  | (u, k, x) :: l, h => by
    unfold look at h
    unfold verOf
    split at h
    · rename_i hu
      obtain rfl := Option.some.inj h
      rw [if_pos hu, Nat.eq_of_beq_eq_true hu]
      exact ⟨k, rfl, by simp⟩
    · rename_i hu
      rw [if_neg hu]
      obtain ⟨v, h1, h2⟩ := verOf_look h
      exact ⟨v, h1, by simp [h2]⟩
/-- what was known at the start is found there -/
theorem look_base {t v : Nat} {av : AV} {f : Nat × Nat × AV → Bool} (hf : ∀ e ∈ s0.env, f e = true) : look ((envOf s0.nxt s0.env l).filter f) t = some av → verOf ((envOf s0.nxt s0.env l).filter f) t = some v → v < s0.nxt → look s0.env t = some av := by
  induction l with
  | nil =>
    intro h1 h2 h3
    rw [show (envOf s0.nxt s0.env []).filter f = s0.env from List.filter_eq_self.2 hf] at h1
    exact h1
  | cons x l ih =>
    intro h1 h2 h3
    unfold envOf putE at h1 h2
    split at h1
    · rename_i d hd
      rw [hd] at h2
      simp only at h2
      rw [List.filter_cons] at h1 h2
      split at h1
      · rename_i hk
        rw [if_pos hk] at h2
        unfold look at h1
        unfold verOf at h2
        split at h1
        · rename_i hu
          rw [if_pos hu] at h2
          have := Option.some.inj h2
          omega
        · rename_i hu
          rw [if_neg hu] at h2
          exact ih h1 h2 h3
      · rename_i hk
        rw [if_neg hk] at h2
        exact ih h1 h2 h3
    · rename_i hd
      rw [hd] at h2
      exact ih h1 h2 h3
/-- a slot's value, out of what made it -/
theorem valAt (hf : Fine P w0 J θ s0) {b : List Nat} {i : Nat} {L1 : List TR} (hL : ∀ y ∈ L1, y ∈ l) (hfact : ∀ y ∈ l, y.i ∈ b → RawF P w0 J (thOf θ s0.nxt vs) s0.nxt y (vs y.i)) {t v : Nat} {av : AV}
    (h1 : look (subS s0 L1 i b).env t = some av) (h2 : verOf (subS s0 L1 i b).env t = some v) : (match opOf s0.nxt v with | some j => vs j | none => ((envL θ s0).lookup t).getD undef) = av.v (thOf θ s0.nxt vs) := by
  obtain ⟨v', h3, h4⟩ := verOf_look h1
  obtain rfl := Option.some.inj (h2.symm.trans h3)
  unfold opOf
  by_cases hv : v < s0.nxt
  · rw [if_pos (nblt.2 hv)]
    have hb := look_base (fun e he => inB_ok.2 (.inl (hf.ver e he))) h1 h2 hv
    obtain ⟨e, he, rfl⟩ := look_mem hb
    rw [AV.v_same (thOf_same (vs := vs)) (hf.env e he)]
    simp only
    rw [show (envL θ s0).lookup t = _ from look_envL hb]; rfl
  · rw [if_neg (fun h => hv (nblt.1 h))]
    obtain ⟨h5, h6⟩ := sub_env h4
    rcases env_mem h5 with h5 | ⟨y, hy, k1, k2, k3⟩
    · exact absurd (hf.ver _ h5) hv
    · rcases h6 with h6 | h6
      · exact absurd h6 hv
      · have k2 : v = s0.nxt + y.i := k2
        have k3 : av = y.r.av := k3
        have h6 : v - s0.nxt ∈ b := h6
        rw [k2, Nat.add_sub_cancel_left] at h6
        rw [k2, Nat.add_sub_cancel_left, k3]
        exact (hfact y (hL y hy) h6).2.1.symm
end
end Go.Proofs.Ytofopdbnkafljaa.R
/- A drawn region, run on states: every order comes to the same state. No program text is named here. -/
set_option linter.unusedVariables false
set_option linter.unusedSimpArgs false
set_option linter.unnecessarySimpa false
set_option linter.unusedSectionVars false
namespace Go.Proofs.Ytofopdbnkafljaa.R
open Go.RowKit
open Go.Proofs.Ytofopdbnkafljaa.D

def smOf (P : Program) (w0 : World) (J : Hp) (θ : Th) (n0 : Nat) (l : List TR) (T : List Ent) : Sm where
  fact i vs := ∀ x ∈ l, x.i = i → RawF P w0 J (thOf θ n0 vs) n0 x (vs i)
  chunk k vs := match T[k]? with
    | some e => toCh P (thOf θ n0 vs) e
    | none => Ch.fr (fun _ => none) []
theorem srcs_ok {n0 t v : Nat} {env : List (Nat × Nat × AV)} : ∀ {ts : List Nat}, t ∈ ts → verOf env t = some v → Skel.srcOf t (srcsOf n0 env ts) = some (opOf n0 v)
  | u :: ts, h, hv => by
    unfold srcsOf
    by_cases hu : u = t
    · subst hu
      rw [hv]
      simp only
      unfold Skel.srcOf
      rw [if_pos (Nat.beq_refl u)]
    · have ht : t ∈ ts := (List.mem_cons.1 h).resolve_left fun e => hu e.symm
      cases hw : verOf env u with
      | none => exact srcs_ok ht hv
      | some w =>
        simp only
        unfold Skel.srcOf
        rw [if_neg fun e => hu (Nat.eq_of_beq_eq_true e)]
        exact srcs_ok ht hv
theorem fin_ok {n0 t v : Nat} {f : Option Nat → Value} : ∀ {env : List (Nat × Nat × AV)} {seen : List Nat}, t ∉ seen → verOf env t = some v → ((finOf n0 env seen).map fun q => (q.1, f q.2)).lookup t = some (f (opOf n0 v))
  | (u, k, x) :: l, seen, hs, hv => by
    unfold finOf
    unfold verOf at hv
    split
    · rename_i hin
      have hin := isIn_ok.1 hin
      have hne : u ≠ t := fun e => hs (e ▸ hin)
      rw [if_neg fun e => hne (Nat.eq_of_beq_eq_true e)] at hv
      exact fin_ok hs hv
    · rename_i hin
      rw [List.map_cons, List.lookup_cons]
      by_cases hu : u = t
      · subst hu
        rw [if_pos (Nat.beq_refl u)] at hv
        obtain rfl := Option.some.inj hv
        simp
      · rw [if_neg fun e => hu (Nat.eq_of_beq_eq_true e)] at hv
        have : (t == u) = false := by simpa using fun e => hu e.symm
        rw [this]
        refine fin_ok (fun h => ?_) hv
        rcases List.mem_cons.1 h with h | h
        · exact hu h.symm
        · exact hs h
section
variable {V : Env} {P : Program} {I : Hp} {w0 w : World} {F : Ch} {J : Hp} {θ : Th} {s0 : Sg} {ops : List Oper} {l : List TR} {a : Act}
theorem idsOf_av {x : TR} {i : Nat} (h : i ∈ x.r.av.ids) : i ∈ idsOf x := List.mem_append_left _ h
theorem idsOf_gv {x : TR} {g : Hdr × Chk} {i : Nat} (hg : g ∈ x.r.gives) (h : i ∈ entIds g.1 g.2) : i ∈ idsOf x := List.mem_append_right _ (List.mem_flatMap.2 ⟨g, hg, h⟩)
theorem loc_ok (hf : Fine P w0 J θ s0) {n : Nat} (ha : AllOk P w0 n s0 ops l) (hlen : l.length = ops.length) (hK : distinctK (tabOf s0.nxt s0.chs l) = true) (hc : ∀ x ∈ l, recChk s0.nxt x = true) :
    Loc (skelOf s0 ops l (tabOf s0.nxt s0.chs l)) (smOf P w0 J θ s0.nxt l (tabOf s0.nxt s0.chs l)) ops.length := by
  have agree : ∀ x ∈ l, ∀ vs vs' : Nat → Value, (∀ j, j = x.i ∨ j ∈ x.b → vs' j = vs j) → ∀ i ∈ idsOf x, thOf θ s0.nxt vs' i = thOf θ s0.nxt vs i := by
    intro x hx vs vs' hv i hi
    have := hc x hx
    unfold recChk at this
    rw [Bool.and_eq_true, allN_ok] at this
    have h1 := this.1 i hi
    unfold allowed at h1
    rw [Bool.or_eq_true, Bool.or_eq_true, nblt, nbeq, isIn_ok] at h1
    unfold thOf
    by_cases hlt : i < s0.nxt
    · rw [if_pos hlt, if_pos hlt]
    · rw [if_neg hlt, if_neg hlt]
      exact hv _ (h1.resolve_left hlt)
  refine ⟨fun i hi vs vs' hv h x hx hxi => ?_, fun k hk vs vs' => ?_, fun i hi k hk vs vs' hv => ?_⟩
  · subst hxi
    rw [(ha.opAt hx _).2] at hv
    have ag := agree x hx vs vs' hv
    obtain ⟨h1, h2, h3⟩ := h x hx rfl
    refine ⟨AV.ok_loc (fun i hi => ag i (idsOf_av hi)) h1, ?_, fun g hg => okE_loc (fun i hi => ag i (idsOf_gv hg hi)) (h3 g hg)⟩
    rw [AV.v_loc fun i hi => ag i (idsOf_av hi), h2, hv _ (.inl rfl)]
  · obtain ⟨e, he, rfl⟩ := List.mem_map.1 hk
    have hT := numOf_ok hK (tab_mem.2 (.inl he))
    show (match _ with | some e => toCh P (thOf θ s0.nxt vs') e | none => _) = match _ with | some e => toCh P (thOf θ s0.nxt vs) e | none => _
    rw [hT]
    simp only
    rw [toCh_same thOf_same (hf.chs e he), toCh_same thOf_same (hf.chs e he)]
  · obtain ⟨x, hx, hxi, -⟩ := ha.at (fun x => x) i (by rw [hlen]; exact hi)
    subst hxi
    rw [(ha.opAt hx _).2] at hv
    rw [(ha.opAt hx _).1] at hk
    obtain ⟨e, he, rfl⟩ := List.mem_map.1 hk
    have hT := numOf_ok hK (tab_mem.2 (.inr ⟨x, hx, he⟩))
    show (match _ with | some e => toCh P (thOf θ s0.nxt vs') e | none => _) = match _ with | some e => toCh P (thOf θ s0.nxt vs) e | none => _
    rw [hT]
    simp only
    exact toCh_loc fun i hi => agree x hx vs vs' hv i (idsOf_gv (gives_ver he).2 hi)
theorem goal_ok (hf : Fine P w0 J θ s0) {n : Nat} (ha : AllOk P w0 n s0 ops l) (hlen : l.length = ops.length) (hB : distinctB s0.chs = true) (hK : distinctK (tabOf s0.nxt s0.chs l) = true) (hc : ∀ x ∈ l, recChk s0.nxt x = true)
    (hok : (skelOf s0 ops l (tabOf s0.nxt s0.chs l)).ok n (knS s0) ops = true) (hkn : ∀ t, knS s0 t = true → ((envL θ s0).lookup t).isSome = true) (hlt : ∀ x ∈ l, ∀ j ∈ x.b, j < x.i) :
    ∀ i o, ops[i]? = some o → (skelOf s0 ops l (tabOf s0.nxt s0.chs l)).goal (smOf P w0 J θ s0.nxt l (tabOf s0.nxt s0.chs l)) P J w0 (envL θ s0) i o := by
  intro i o ho vs hfacts
  obtain ⟨x, hx, hxi, -⟩ := ha.at (fun x => x) i (by rw [hlen]; exact (List.getElem?_eq_some_iff.1 ho).1)
  subst hxi
  obtain ⟨l1, h1, h2, h3, h4⟩ := ha.get hx
  obtain rfl : x.o = o := Option.some.inj (h1.ho.symm.trans ho)
  obtain ⟨e1, e2⟩ := ha.opAt hx (tabOf s0.nxt s0.chs l)
  have hG := Skel.good_of_ok hkn hok ho
  rw [e2] at hfacts
  have hfact : ∀ y ∈ l, y.i ∈ x.b → RawF P w0 J (thOf θ s0.nxt vs) s0.nxt y (vs y.i) := fun y hy hyb => hfacts y.i hyb y hy rfl
  have hFine := (words hB hK hf ha hc hlt x.b (fun y hy hyb k hk => ha.closed hlt x hx y hy hyb k hk) hfact x hx fun k hk => hk).1
  have hnx : x.s.nxt = s0.nxt + x.i := by rw [h1.hs]; rfl
  -- what the guard says
  have hw : wants x.o vs = some x.run := by
    have hgd := h1.gd
    unfold GdOk at hgd
    unfold wants
    cases hgo : x.o.guard with
    | none => rw [hgo] at hgd; simp only at hgd ⊢; rw [hgd]
    | some gw =>
      obtain ⟨g, want⟩ := gw
      rw [hgo] at hgd
      simp only at hgd ⊢
      obtain ⟨y, hy, hyg, hc'⟩ := hgd
      obtain ⟨t, k1, k2⟩ := hG.guard g want hgo
      have hgb : g ∈ x.b := by
        have ht : t ∈ slotsOf ops.toArray x.o := by
          unfold slotsOf Oper.looksAt
          refine List.mem_append_right _ ?_
          rw [hgo]
          simp only
          rw [k1]; simp
        rcases hG.slots t ht with ⟨q1, -, -⟩ | ⟨j, q1, -, q3, -⟩
        · rw [k2] at q1; cases q1
        · rw [k2] at q1
          obtain rfl : g = j := by simpa using q1
          rwa [e2] at q3
      subst hyg
      have hv := (hfact y (h3 y hy) hgb).2.1
      rcases hc' with ⟨c, hc', hr⟩ | ⟨hc', hr⟩
      · rw [hc'] at hv
        rw [← hv, hr]; rfl
      · rw [hc'] at hv
        rw [← hv, hr]; rfl
  rw [hw]
  have hthe : ∀ v, thOf θ s0.nxt (upd vs x.i v) = upd (thOf θ s0.nxt vs) (s0.nxt + x.i) v := fun v => thOf_upd
  have hch : ∀ vs' : Nat → Value, ∀ e ∈ tabOf s0.nxt s0.chs l, (smOf P w0 J θ s0.nxt l (tabOf s0.nxt s0.chs l)).chunk (numOf e (tabOf s0.nxt s0.chs l)) vs' = toCh P (thOf θ s0.nxt vs') e := by
    intro vs' e he
    show (match _ with | some e => toCh P (thOf θ s0.nxt vs') e | none => _) = _
    rw [numOf_ok hK he]
  cases hr : x.run with
  | false =>
    have hs := h1.skip hr
    refine ⟨fun y hy hyi => ?_, by rw [e1]; show (x.r.ns.map _) = []; rw [hs]; rfl, by rw [e1]; show (givesOf _ x).map _ = []; unfold givesOf; rw [hs]; rfl⟩
    obtain rfl := ha.uniq y hy x hx hyi
    refine ⟨?_, ?_, fun g hg => ?_⟩
    · rw [hs]; trivial
    · rw [hs, upd_self]; rfl
    · rw [hs] at hg; cases hg
  | true =>
    obtain ⟨hGd, hk⟩ := h1.good hr
    have base := hGd.op J _ hFine
    have hin : ∀ e, e ∈ x.r.rs ++ x.r.ns → e ∈ tabOf s0.nxt s0.chs l ∧ e ∈ x.s.chs := by
      intro e he
      have he2 : e ∈ x.s.chs := hGd.perm.mem_iff.2 (List.mem_append_left _ he)
      refine ⟨?_, he2⟩
      rw [h1.hs] at he2
      rcases tab_mem.1 (sub_chs he2).1 with h | ⟨y, hy, h⟩
      · exact tab_mem.2 (.inl h)
      · exact tab_mem.2 (.inr ⟨y, h3 y hy, h⟩)
    have hev : ∀ u ∈ x.o.op.operands, (skelOf s0 ops l (tabOf s0.nxt s0.chs l)).ev (envL θ s0) x.i vs u = evL (envL (thOf θ s0.nxt vs) x.s) u := by
      intro u hu
      cases u with
      | tmp t =>
        unfold okO at hk
        rw [Bool.and_eq_true, Bool.and_eq_true] at hk
        have hx1 := List.all_eq_true.1 hk.1.1 (.tmp t) (by simpa using hu)
        simp only [Bool.or_false] at hx1
        obtain ⟨av, hav⟩ := Option.isSome_iff_exists.1 hx1
        have hav : look x.s.env t = some av := hav
        rw [opd_ev (x := .tmp t) hav]
        obtain ⟨v, hv, hm⟩ := verOf_look hav
        have ht : t ∈ slotsOf ops.toArray x.o := by
          unfold slotsOf Oper.looksAt
          exact List.mem_append_left _ (List.mem_filterMap.2 ⟨.tmp t, by simpa using hu, rfl⟩)
        have hsrc : Skel.srcOf t ((skelOf s0 ops l (tabOf s0.nxt s0.chs l)).op x.i).src = some (opOf s0.nxt v) := by
          rw [e1]; exact srcs_ok ht hv
        have hval := valAt (L1 := l1) (b := x.b) (i := x.i) hf h3 hfact (t := t) (v := v) (av := av) (by rw [← h1.hs]; exact hav) (by rw [← h1.hs]; exact hv)
        rw [← hval]
        show (match Skel.srcOf t _ with | some (some j) => vs j | _ => _) = _
        rw [hsrc]
        cases opOf s0.nxt v <;> rfl
      | _ => rfl
    have hpre : ((((skelOf s0 ops l (tabOf s0.nxt s0.chs l)).op x.i).reads ++ ((skelOf s0 ops l (tabOf s0.nxt s0.chs l)).op x.i).needs).map ((smOf P w0 J θ s0.nxt l (tabOf s0.nxt s0.chs l)).chunk · vs)) = (x.r.rs ++ x.r.ns).map (toCh P (thOf θ s0.nxt vs)) := by
      rw [e1]
      show ((x.r.rs.map _) ++ (x.r.ns.map _)).map _ = _
      rw [← List.map_append, List.map_map]
      exact List.map_congr_left fun e he => hch vs e (hin e he).1
    intro wd C hs
    have hs' := hs
    rw [hpre] at hs'
    have hb := base wd C hs'
    have hsel : noSelect x.o = true := hG.sel
    rw [← execOp_same hsel hev] at hb
    refine hb.imp fun v w' hv => ⟨fun y hy hyi => ?_, ?_⟩
    · obtain rfl := ha.uniq y hy x hx hyi
      rw [hthe, upd_self]
      obtain ⟨q1, q2, q3⟩ := hv.1
      rw [hnx] at q1 q2 q3
      exact ⟨q1, q2, q3⟩
    · have hst := hv.2
      rw [hnx] at hst
      have hgv : ((((skelOf s0 ops l (tabOf s0.nxt s0.chs l)).op x.i).reads ++ ((skelOf s0 ops l (tabOf s0.nxt s0.chs l)).op x.i).gives).map ((smOf P w0 J θ s0.nxt l (tabOf s0.nxt s0.chs l)).chunk · (upd vs x.i v))) = x.r.rs.map (toCh P (thOf θ s0.nxt vs)) ++ x.r.gives.map fun g => toCh P (upd (thOf θ s0.nxt vs) (s0.nxt + x.i) v) (g.1, s0.nxt + x.i, g.2) := by
        rw [e1]
        show ((x.r.rs.map _) ++ ((givesOf s0.nxt x).map _)).map _ = _
        rw [List.map_append, List.map_map, List.map_map]
        congr 1
        · refine List.map_congr_left fun e he => ?_
          show (smOf P w0 J θ s0.nxt l (tabOf s0.nxt s0.chs l)).chunk (numOf e _) (upd vs x.i v) = _
          obtain ⟨m1, m2⟩ := hin e (List.mem_append_left _ he)
          rw [hch _ e m1, hthe]
          have := hFine.chs e m2
          rw [hnx] at this
          exact toCh_same Same.upd this
        · unfold givesOf
          rw [List.map_map]
          refine List.map_congr_left fun g hg => ?_
          show (smOf P w0 J θ s0.nxt l (tabOf s0.nxt s0.chs l)).chunk (numOf (g.1, s0.nxt + x.i, g.2) _) (upd vs x.i v) = _
          rw [hch _ _ (tab_mem.2 (.inr ⟨x, hx, List.mem_map.2 ⟨g, hg, rfl⟩⟩)), hthe]
      exact Eq.mp (congrArg (fun cs => St J w0 w' (cs ++ C)) hgv.symm) hst
theorem drawS0_ok {Y : Type} {id : Nat} {k : Sg → Option Y} {res : Y} {Q : Exit → Act → World → Prop} (hT : TTok P V.tt) (hF : FTok P V.ft) (hm : P.follows .mixedOrders = true) (h : drawS0 V ops k s0 = some res) (hS0 : Sim P I w0 F V.n J θ s0 a w)
    (K : ∀ s' θ' a' w', k s' = some res → Sim P I w0 F V.n J θ' s' a' w' → Fr s0 θ s' θ' → Q .normal a' w') : (Code.region id ops.toArray true).wp P Q a w := by
  unfold drawS0 at h
  obtain ⟨l, h, ha, hlen⟩ := goD_ok (w0 := w0) hT hF h rfl rfl trivial
  obtain ⟨hpl, h⟩ := chkT_ok h
  unfold planOk at hpl
  simp only [Bool.and_eq_true, List.all_eq_true] at hpl
  obtain ⟨hB, hK, hc, hok, hokB⟩ := hpl
  have hf := hS0.fine
  have hkn : ∀ t, knS s0 t = true → ((envL θ s0).lookup t).isSome = true := by
    intro t ht
    obtain ⟨av, hav⟩ := Option.isSome_iff_exists.1 ht
    rw [show (envL θ s0).lookup t = _ from look_envL hav]; rfl
  have hlt : ∀ x ∈ l, ∀ j ∈ x.b, j < x.i := by
    intro x hx j hj
    obtain ⟨l1, h1, -⟩ := ha.get hx
    have hG := Skel.good_of_ok hkn hok h1.ho
    have := hG.bef j (by rw [(ha.opAt hx _).2]; exact hj)
    exact this.1
  refine wp_drawn (C := [F]) (skelOf s0 ops l (tabOf s0.nxt s0.chs l)) (smOf P w0 J θ s0.nxt l (tabOf s0.nxt s0.chs l)) hkn (loc_ok hf ha hlen hK hc) hm hS0.agr hS0.st ?_ hok hokB (goal_ok hf ha hlen hB hK hc hok hkn hlt) ?_
  · refine (List.Perm.of_eq ?_)
    congr 1
    show _ = (s0.chs.map _).map _
    rw [List.map_map]
    refine List.map_congr_left fun e he => ?_
    show _ = match _ with | some e => toCh P (thOf θ s0.nxt fun _ => undef) e | none => _
    rw [numOf_ok hK (tab_mem.2 (.inl he))]
    exact (toCh_same thOf_same (hf.chs e he)).symm
  · intro vs a' w' hfacts hA hst
    have hfact : ∀ y ∈ l, RawF P w0 J (thOf θ s0.nxt vs) s0.nxt y (vs y.i) := fun y hy => hfacts y.i (by rw [← hlen]; exact ha.lt y hy) y hy rfl
    have hall := words hB hK hf ha hc hlt (List.range l.length) (fun y hy _ k hk => List.mem_range.2 (Nat.lt_trans (hlt y hy k hk) (ha.lt y hy))) (fun y hy _ => hfact y hy)
    have hall' : ∀ x ∈ l, _ := fun x hx => hall x hx fun k hk => List.mem_range.2 (Nat.lt_trans (hlt x hx k hk) (ha.lt x hx))
    have hFine : Fine P w0 J (thOf θ s0.nxt vs) (endS s0 l) := fine_sub hB hK hf ha hc l (fun y hy => hy) (List.range l.length) l.length (fun j hj => List.mem_range.1 hj) (fun y hy _ => hfact y hy) (fun y hy _ => (hall' y hy).2.1) (fun y hy _ => (hall' y hy).2.2) (env_nd hf ha)
    refine K (endS s0 l) (thOf θ s0.nxt vs) a' w' h ⟨hS0.le, hA.sub fun t v hv => ?_, ?_, hFine⟩ (Fr.rfl.trans ⟨Nat.le_add_right _ _, thOf_same, fun e he hv => ?_, fun e he h' ver c hs => ?_⟩)
    · -- the slots
      cases hl : look (endS s0 l).env t with
      | none =>
        exfalso
        have : ∀ {env : List (Nat × Nat × AV)} {θ : Th}, look env t = none → (env.map fun e => (e.1, e.2.2.v θ)).lookup t = none := by
          intro env θ
          induction env with
          | nil => intro _; rfl
          | cons e env ih =>
            intro hh
            unfold look at hh
            split at hh
            · cases hh
            · rename_i hu
              rw [List.map_cons, List.lookup_cons]
              have hne : (t == e.1) = false := by
                simp only [beq_eq_false_iff_ne]; intro e'; subst e'; exact hu (Nat.beq_refl _)
              rw [show (t == (e.1, AV.v θ e.2.2).1) = false from hne]
              exact ih hh
        rw [show (envL (thOf θ s0.nxt vs) (endS s0 l)).lookup t = none from this hl] at hv
        cases hv
      | some av =>
        have hv2 := look_envL (θ := thOf θ s0.nxt vs) hl
        obtain rfl := Option.some.inj (hv2.symm.trans hv)
        obtain ⟨ver, hver, -⟩ := verOf_look hl
        have hval := valAt (L1 := l) (b := List.range l.length) (i := l.length) hf (fun y hy => hy) (fun y hy _ => hfact y hy) (t := t) (v := ver) (av := av) hl hver
        have := fin_ok (n0 := s0.nxt) (seen := []) (f := fun s => match s with | some j => vs j | none => ((envL θ s0).lookup t).getD undef) (by simp) hver
        have key : ∀ M : List (Nat × Option Nat), (M.map fun q => (q.1, match q.2 with | some j => vs j | none => ((envL θ s0).lookup q.1).getD undef)).lookup t = (M.map fun q => (q.1, (fun s => match s with | some j => vs j | none => ((envL θ s0).lookup t).getD undef) q.2)).lookup t := by
          intro M
          induction M with
          | nil => rfl
          | cons q M ih =>
            rw [List.map_cons, List.map_cons, List.lookup_cons, List.lookup_cons]
            by_cases e : t = q.1
            · subst e; simp
            · rw [show (t == q.1) = false from by simpa using e]; exact ih
        exact (key _).trans (this.trans (congrArg some hval))
    · have e : ((endS s0 l).chs.map (numOf · (tabOf s0.nxt s0.chs l))).map ((smOf P w0 J θ s0.nxt l (tabOf s0.nxt s0.chs l)).chunk · vs) = (endS s0 l).chs.map (toCh P (thOf θ s0.nxt vs)) := by
        rw [List.map_map]
        refine List.map_congr_left fun e he => ?_
        show (match _ with | some e => toCh P (thOf θ s0.nxt vs) e | none => _) = _
        rw [numOf_ok hK (sub_chs he).1]
      rw [← e]; exact hst
    · obtain ⟨h5, h6⟩ := sub_env he
      rcases env_mem h5 with h5 | ⟨y, hy, k1, k2, k3⟩
      · exact h5
      · omega
    · obtain ⟨h5, h6⟩ := sub_chs he
      have horig : Orig s0 l h' ver c := by
        rcases tab_mem.1 h5 with h5 | ⟨y, hy, h5⟩
        · exact .inl ⟨e, h5, hs⟩
        · exact (hall' y hy).2.1 e h5 h' ver c hs
      rcases horig with ⟨e0, he0, hk⟩ | ⟨y, hy, hk⟩
      · exact .inr ⟨e0, he0, hk⟩
      · have := (gives_ver hk).1
        exact .inl (by simp only at this; omega)
theorem prepD_ok {tr : Trs} {s : Sg} (hS : Sim P I w0 F V.n J θ s a w) : ∃ J' θ', J.le J' ∧ Sim P I w0 F V.n J' θ' (prepD tr ops s) a w ∧ Fr s θ (prepD tr ops s) θ' := by
  obtain ⟨θ1, S1, F1⟩ := openA_ok hS
  obtain ⟨S2, F2⟩ := prepL_ok (hs := allHdrs (openA s) ops) S1
  show ∃ J' θ', J.le J' ∧ Sim P I w0 F V.n J' θ' (prepFD tr ops (prepL (allHdrs (openA s) ops) (openA s))) a w ∧ Fr s θ (prepFD tr ops (prepL (allHdrs (openA s) ops) (openA s))) θ'
  unfold prepFD
  split
  · exact ⟨J, θ1, Hp.le.rfl, S2, F1.trans F2⟩
  · obtain ⟨J', θ', h1, h2, h3⟩ := frzL_ok S2
    exact ⟨J', θ', h1, h2, (F1.trans F2).trans h3⟩
/-- A drawn region, run on a state. -/
theorem drawS_ok {Y : Type} {id : Nat} {k : Sg → Option Y} {res : Y} {Q : Exit → Act → World → Prop} (hT : TTok P V.tt) (hF : FTok P V.ft) (hm : P.follows .mixedOrders = true) {s : Sg} (h : drawS V ops k s = some res) (hS : Sim P I w0 F V.n J θ s a w)
    (K : ∀ s' J' θ' a' w', k s' = some res → Sim P I w0 F V.n J' θ' s' a' w' → J.le J' → Fr s θ s' θ' → Q .normal a' w') : (Code.region id ops.toArray true).wp P Q a w := by
  obtain ⟨J1, θ1, hJ, S1, F1⟩ := prepD_ok (tr := V.tr) (ops := ops) hS
  exact drawS0_ok hT hF hm (show drawS0 V ops k (prepD V.tr ops s) = some res from h) S1 fun s' θ' a' w' hk hS' hFr => K s' J1 θ' a' w' hk hS' hJ (F1.trans hFr)
end
end Go.Proofs.Ytofopdbnkafljaa.R
/- Code run on states. No program text is named here. -/
set_option linter.unusedVariables false
set_option linter.unusedSimpArgs false
set_option linter.unnecessarySimpa false
set_option linter.unusedSectionVars false
namespace Go.Proofs.Ytofopdbnkafljaa.R
open Go.RowKit
open Go.Proofs.Ytofopdbnkafljaa.D

inductive Ann
  | no
  | two (a b : Ann)
  | loop (sh : List It) (a : Ann)
  | join (sh : List It) (a b : Ann)
  | joinX (sh : List It) (a b : Ann)
  | at (sh : List It) (a : Ann)
  | atX (sh : List It) (a : Ann)
def Ann.l : Ann → Ann
  | .two a _ => a
  | _ => .no
def Ann.r : Ann → Ann
  | .two _ b => b
  | _ => .no
/-- the slots that are written -/
def kills : Code → List Nat
  | .region _ ops _ => ops.toList.filterMap (·.dst)
  | .seq a b => kills a ++ kills b
  | .cond _ a b => kills a ++ kills b
  | .block _ a => kills a
  | .loop a => kills a
  | .scope a => kills a
  | _ => []
/-- the slots that are cut are taken from the cut -/
def slotsI : List It → List Nat
  | [] => []
  | .slot t _ :: is => t :: slotsI is
  | _ :: is => slotsI is
def killI (c : Code) (is : List It) : List Nat := kills c ++ slotsI is
def kxOf {Y : Type} (i : Nat) (kb : Sg → Option Y) (kx : Nat → Sg → Option Y) : Nat → Sg → Option Y := fun j s => if Nat.beq j i then kb s else kx j s
/-- a piece of code whose ends are joined -/
def cutA (V : Env) {R Y : Type} (c : Code) (n : Ann) (kr : R → Option Y) (kx : Nat → Sg → Option Y) (kn : Sg → Option Y) (s : Sg) (run : (Z : Type) → Ann → (R → Option Z) → (Nat → Sg → Option Z) → (Sg → Option Z) → Sg → Option Z) : Option Y := match n with
  | .at sh n => (mkCut (killI c sh) sh s).bind fun q => Option.bind (run (denK (ksOf q.its)) n (fun _ => none) (fun _ _ => none) (fun s' => (q.of s').bind fun d => some (ofN _ d)) s) fun d => kn (q.at (toN _ d))
  | .atX sh n => (mkCut (killI c sh) sh s).bind fun q => bindJ (run (Y ⊕ denK (ksOf q.its)) n (fun r => (kr r).bind fun t => some (.inl t)) (fun i s' => (kx i s').bind fun t => some (.inl t)) (fun s' => (q.of s').bind fun d => some (.inr (ofN _ d))) s) fun d => kn (q.at (toN _ d))
  | n => run Y n kr kx kn s
def interp (V : Env) {R : Type} (rt : Sg → Option R) : (c : Code) → {Y : Type} → Ann → (R → Option Y) → (Nat → Sg → Option Y) → (Sg → Option Y) → Sg → Option Y
  | .skip, _, _, kr, kx, kn, s => kn s
  | .ret, _, _, kr, kx, kn, s => (rt s).bind kr
  | .region id ops dr, _, n, kr, kx, kn, s => cutA V (.region id ops dr) n kr kx kn s fun Z n kr kx kn s => match dr with
    | false => runSeq V ops.toList (fun s => kn (openA s)) ops.toList s
    | true => drawS V ops.toList (fun s => kn (openA s)) s
  | .seq a b, Y, n, kr, kx, kn, s => match n with
    | .join sh n1 n2 => (mkCut (killI a sh) sh s).bind fun q => Option.bind (interp V rt a n1 (Y := denK (ksOf q.its)) (fun _ => none) (fun _ _ => none) (fun s' => (q.of s').bind fun d => some (ofN _ d)) s) fun d => interp V rt b n2 kr kx kn (q.at (toN _ d))
    | .joinX sh n1 n2 => (mkCut (killI a sh) sh s).bind fun q => bindJ (interp V rt a n1 (Y := Y ⊕ denK (ksOf q.its)) (fun r => (kr r).bind fun t => some (.inl t)) (fun i s' => (kx i s').bind fun t => some (.inl t)) (fun s' => (q.of s').bind fun d => some (.inr (ofN _ d))) s) fun d => interp V rt b n2 kr kx kn (q.at (toN _ d))
    | n => interp V rt a n.l kr kx (fun s' => interp V rt b n.r kr kx kn s') s
  | .cond c a b, _, n, kr, kx, kn, s => cutA V (.cond c a b) n kr kx kn s fun Z n kr kx kn s => (opd s c).bind fun v => onB v (interp V rt a n.l kr kx kn s) (interp V rt b n.r kr kx kn s)
  | .block i (.loop c), _, n, kr, kx, kn, s => cutA V (.block i (.loop c)) n kr kx kn s fun Z n kr kx kn s => match n with
    | .loop sh n => (mkCut (killI c sh) sh s).bind fun q => (q.of s).bind fun d0 =>
        bindL (loopM (fun d => interp V rt c n (Y := Out R (denK (ksOf q.its))) (fun r => some (.ret r)) (kxOf i (fun s' => (q.of s').bind fun d => some (.brk (ofN _ d))) fun _ _ => none) (fun s' => (q.of s').bind fun d => some (.nxt (ofN _ d))) (q.at (toN _ d))) FUEL (ofN _ d0)) kr (fun d => kn (q.at (toN _ d)))
    | _ => none
  | .block i c, _, n, kr, kx, kn, s => cutA V (.block i c) n kr kx kn s fun Z n kr kx kn s => interp V rt c n kr (kxOf i kn kx) kn s
  | .exit i, _, _, kr, kx, kn, s => kx i s
  | _, _, _, _, _, _, _ => none

section
variable {V : Env} {P : Program} {I : Hp} {w0 : World} {F : Ch} {R : Type} {rt : Sg → Option R}
def IOk (V : Env) (P : Program) (I : Hp) (w0 : World) (F : Ch) {R : Type} (rt : Sg → Option R) (c : Code) : Prop := ∀ {Y : Type} (n : Ann) {kr : R → Option Y} {kx : Nat → Sg → Option Y} {kn : Sg → Option Y} {s : Sg} {y : Y} {Q : Exit → Act → World → Prop} {J : Hp} {θ : Th} {a : Act} {w : World},
    interp V rt c n kr kx kn s = some y → Sim P I w0 F V.n J θ s a w →
    (∀ J' θ' s' a' w', kn s' = some y → Sim P I w0 F V.n J' θ' s' a' w' → J.le J' → Fr s θ s' θ' → Q .normal a' w') →
    (∀ i J' θ' s' a' w', kx i s' = some y → Sim P I w0 F V.n J' θ' s' a' w' → J.le J' → Fr s θ s' θ' → Q (.exit i) a' w') →
    (∀ r J' θ' s' a' w', rt s' = some r → kr r = some y → Sim P I w0 F V.n J' θ' s' a' w' → J.le J' → Fr s θ s' θ' → Q .ret a' w') → c.wp P Q a w
def ROk (V : Env) (P : Program) (I : Hp) (w0 : World) (F : Ch) {R : Type} (rt : Sg → Option R) (c : Code) (run : (Z : Type) → Ann → (R → Option Z) → (Nat → Sg → Option Z) → (Sg → Option Z) → Sg → Option Z) : Prop := ∀ {Y : Type} (n : Ann) {kr : R → Option Y} {kx : Nat → Sg → Option Y} {kn : Sg → Option Y} {s : Sg} {y : Y} {Q : Exit → Act → World → Prop} {J : Hp} {θ : Th} {a : Act} {w : World},
    run Y n kr kx kn s = some y → Sim P I w0 F V.n J θ s a w →
    (∀ J' θ' s' a' w', kn s' = some y → Sim P I w0 F V.n J' θ' s' a' w' → J.le J' → Fr s θ s' θ' → Q .normal a' w') →
    (∀ i J' θ' s' a' w', kx i s' = some y → Sim P I w0 F V.n J' θ' s' a' w' → J.le J' → Fr s θ s' θ' → Q (.exit i) a' w') →
    (∀ r J' θ' s' a' w', rt s' = some r → kr r = some y → Sim P I w0 F V.n J' θ' s' a' w' → J.le J' → Fr s θ s' θ' → Q .ret a' w') → c.wp P Q a w
theorem cutA_ok {c : Code} {run : (Z : Type) → Ann → (R → Option Z) → (Nat → Sg → Option Z) → (Sg → Option Z) → Sg → Option Z} (hr : ROk V P I w0 F rt c run) {Y : Type} (n : Ann) {kr : R → Option Y} {kx : Nat → Sg → Option Y} {kn : Sg → Option Y} {s : Sg} {y : Y} {Q : Exit → Act → World → Prop} {J : Hp} {θ : Th} {a : Act} {w : World}
    (h : cutA V c n kr kx kn s run = some y) (hS : Sim P I w0 F V.n J θ s a w)
    (HN : ∀ J' θ' s' a' w', kn s' = some y → Sim P I w0 F V.n J' θ' s' a' w' → J.le J' → Fr s θ s' θ' → Q .normal a' w')
    (HX : ∀ i J' θ' s' a' w', kx i s' = some y → Sim P I w0 F V.n J' θ' s' a' w' → J.le J' → Fr s θ s' θ' → Q (.exit i) a' w')
    (HR : ∀ r J' θ' s' a' w', rt s' = some r → kr r = some y → Sim P I w0 F V.n J' θ' s' a' w' → J.le J' → Fr s θ s' θ' → Q .ret a' w') : c.wp P Q a w := by
  have plain : ∀ n, run Y n kr kx kn s = some y → c.wp P Q a w := fun n h => hr n h hS HN HX HR
  cases n with
  | «at» sh n =>
    obtain ⟨q, hq, h⟩ := bind_some (show (mkCut (killI c sh) sh s).bind _ = some y from h)
    obtain ⟨d, h1, h2⟩ := bind_some h
    have hC := mkCut_ok hq hS.fine
    refine hr n h1 hS (fun J' θ' s' a' w' hk hS' hJ hFr => ?_) (fun i J' θ' s' a' w' hk hS' hJ hFr => by cases hk) (fun r J' θ' s' a' w' q1 q2 hS' hJ hFr => by cases q2)
    obtain ⟨d', hd, hk⟩ := bind_some hk
    obtain rfl := Option.some.inj hk
    obtain ⟨θ2, S2, F2⟩ := cut_ok hC hS' hFr hJ hd
    rw [toN_ofN] at h2
    exact HN J' θ2 _ a' w' h2 S2 hJ F2
  | atX sh n =>
    obtain ⟨q, hq, h⟩ := bind_some (show (mkCut (killI c sh) sh s).bind _ = some y from h)
    obtain ⟨o, h1, h2⟩ := bindJ_some h
    have hC := mkCut_ok hq hS.fine
    refine hr n h1 hS (fun J' θ' s' a' w' hk hS' hJ hFr => ?_) (fun i J' θ' s' a' w' hk hS' hJ hFr => ?_) (fun r J' θ' s' a' w' q1 q2 hS' hJ hFr => ?_)
    · obtain ⟨d', hd, hk⟩ := bind_some hk
      obtain rfl := Option.some.inj hk
      obtain ⟨θ2, S2, F2⟩ := cut_ok hC hS' hFr hJ hd
      rcases h2 with ⟨d, e, h2⟩ | h2
      · obtain rfl := Sum.inr.inj e
        rw [toN_ofN] at h2
        exact HN J' θ2 _ a' w' h2 S2 hJ F2
      · cases h2
    · obtain ⟨t, ht, hk⟩ := bind_some hk
      obtain rfl := Option.some.inj hk
      rcases h2 with ⟨d, e, h2⟩ | h2
      · cases e
      · obtain rfl := Sum.inl.inj h2
        exact HX i J' θ' s' a' w' ht hS' hJ hFr
    · obtain ⟨t, ht, hk⟩ := bind_some q2
      obtain rfl := Option.some.inj hk
      rcases h2 with ⟨d, e, h2⟩ | h2
      · cases e
      · obtain rfl := Sum.inl.inj h2
        exact HR r J' θ' s' a' w' q1 ht hS' hJ hFr
  | no => exact plain _ h
  | two _ _ => exact plain _ h
  | loop _ _ => exact plain _ h
  | join _ _ _ => exact plain _ h
  | joinX _ _ _ => exact plain _ h
theorem interp_both (hT : TTok P V.tt) (hF : FTok P V.ft) (hm : P.follows .mixedOrders = true) : ∀ c : Code, IOk V P I w0 F rt c ∧ ∀ c', c = .loop c' → IOk V P I w0 F rt c' := by
  intro c
  induction c with
  | skip =>
    refine ⟨?_, fun c' e => (by cases e)⟩
    intro Y n kr kx kn s y Q J θ a w h hS HN HX HR
    exact wp_skip (HN J θ s a w h hS Hp.le.rfl Fr.rfl)
  | ret =>
    refine ⟨?_, fun c' e => (by cases e)⟩
    intro Y n kr kx kn s y Q J θ a w h hS HN HX HR
    obtain ⟨r, h1, h2⟩ := bind_some (show (rt s).bind kr = some y from h)
    exact wp_ret (HR r J θ s a w h1 h2 hS Hp.le.rfl Fr.rfl)
  | exit i =>
    refine ⟨?_, fun c' e => (by cases e)⟩
    intro Y n kr kx kn s y Q J θ a w h hS HN HX HR
    exact wp_exit (HX i J θ s a w h hS Hp.le.rfl Fr.rfl)
  | region id ops dr =>
    refine ⟨?_, fun c' e => (by cases e)⟩
    intro Y n kr kx kn s y Q J θ a w h hS HN HX HR
    refine cutA_ok (fun {Y} n {kr kx kn s y Q J θ a w} h hS HN HX HR => ?_) n h hS HN HX HR
    cases dr with
    | true =>
      have h : drawS V ops.toList (fun s => kn (openA s)) s = some y := h
      have := drawS_ok (id := id) hT hF hm h hS fun s' J' θ' a' w' hk hS' hJ hFr => by
        obtain ⟨θ2, S2, F2⟩ := openA_ok hS'
        exact HN J' θ2 (openA s') a' w' hk S2 hJ (hFr.trans F2)
      rwa [Array.toArray_toList] at this
    | false =>
      have h : runSeq V ops.toList (fun s => kn (openA s)) ops.toList s = some y := h
      exact wp_region_lit (l := ops.toList) (runSeq_ok hT hF h hS fun s' J' θ' a' w' hk hS' hJ hFr => by
        obtain ⟨θ2, S2, F2⟩ := openA_ok hS'
        exact HN J' θ2 (openA s') a' w' hk S2 hJ (hFr.trans F2))
  | cond c x y ihx ihy =>
    refine ⟨?_, fun c' e => (by cases e)⟩
    intro Y n kr kx kn s r Q J θ a w h hS HN HX HR
    refine cutA_ok (fun {Y} n {kr kx kn s r Q J θ a w} h hS HN HX HR => ?_) n h hS HN HX HR
    obtain ⟨v, hv', h⟩ := bind_some (show (opd s c).bind _ = some r from h)
    obtain ⟨b, hb, h⟩ := onB_ok h
    have hk : knows (envL θ s) c = true := by
      cases c with
      | tmp t =>
        have := look_envL (θ := θ) (show look s.env t = some v from hv')
        show ((envL θ s).lookup t).isSome = true
        rw [show (envL θ s).lookup t = _ from this]; rfl
      | _ => rfl
    have hev : evL (envL θ s) c = .bool b := (opd_ev hv').trans (hb θ)
    cases b with
    | true => exact cnd_true hS.agr hk hev rfl (ihx.1 n.l h hS HN HX HR)
    | false => exact cnd_false hS.agr hk hev rfl (ihy.1 n.r h hS HN HX HR)
  | seq x z ihx ihz =>
    refine ⟨?_, fun c' e => (by cases e)⟩
    intro Y n kr kx kn s y Q J θ a w h hS HN HX HR
    have plain : interp V rt x n.l kr kx (fun s' => interp V rt z n.r kr kx kn s') s = some y → (Code.seq x z).wp P Q a w := fun h =>
      wp_seq (ihx.1 n.l h hS (fun J' θ' s' a' w' hk hS' hJ hFr => ihz.1 n.r hk hS' (fun J2 θ2 s2 a2 w2 k2 S2 L2 F2 => HN J2 θ2 s2 a2 w2 k2 S2 (hJ.trans L2) (hFr.trans F2)) (fun i J2 θ2 s2 a2 w2 k2 S2 L2 F2 => HX i J2 θ2 s2 a2 w2 k2 S2 (hJ.trans L2) (hFr.trans F2)) (fun r J2 θ2 s2 a2 w2 q1 q2 S2 L2 F2 => HR r J2 θ2 s2 a2 w2 q1 q2 S2 (hJ.trans L2) (hFr.trans F2)))
        (fun i J' θ' s' a' w' hk hS' hJ hFr => thenX (HX i J' θ' s' a' w' hk hS' hJ hFr)) (fun r J' θ' s' a' w' q1 q2 hS' hJ hFr => thenR (HR r J' θ' s' a' w' q1 q2 hS' hJ hFr)))
    cases n with
    | join sh n1 n2 =>
      obtain ⟨q, hq, h⟩ := bind_some (show (mkCut (killI x sh) sh s).bind _ = some y from h)
      obtain ⟨d, h1, h2⟩ := bind_some h
      have hC := mkCut_ok hq hS.fine
      refine wp_seq (ihx.1 n1 h1 hS (fun J' θ' s' a' w' hk hS' hJ hFr => ?_) (fun i J' θ' s' a' w' hk hS' hJ hFr => by cases hk) (fun r J' θ' s' a' w' q1 q2 hS' hJ hFr => by cases q2))
      obtain ⟨d', hd, hk⟩ := bind_some hk
      obtain rfl := Option.some.inj hk
      obtain ⟨θ2, S2, F2⟩ := cut_ok hC hS' hFr hJ hd
      rw [toN_ofN] at h2
      exact ihz.1 n2 h2 S2 (fun J3 θ3 s3 a3 w3 k3 S3 L3 F3 => HN J3 θ3 s3 a3 w3 k3 S3 (hJ.trans L3) (F2.trans F3)) (fun i J3 θ3 s3 a3 w3 k3 S3 L3 F3 => HX i J3 θ3 s3 a3 w3 k3 S3 (hJ.trans L3) (F2.trans F3)) (fun r J3 θ3 s3 a3 w3 q1 q2 S3 L3 F3 => HR r J3 θ3 s3 a3 w3 q1 q2 S3 (hJ.trans L3) (F2.trans F3))
    | joinX sh n1 n2 =>
      obtain ⟨q, hq, h⟩ := bind_some (show (mkCut (killI x sh) sh s).bind _ = some y from h)
      obtain ⟨o, h1, h2⟩ := bindJ_some h
      have hC := mkCut_ok hq hS.fine
      refine wp_seq (ihx.1 n1 h1 hS (fun J' θ' s' a' w' hk hS' hJ hFr => ?_) (fun i J' θ' s' a' w' hk hS' hJ hFr => ?_) (fun r J' θ' s' a' w' q1 q2 hS' hJ hFr => ?_))
      · obtain ⟨d', hd, hk⟩ := bind_some hk
        obtain rfl := Option.some.inj hk
        obtain ⟨θ2, S2, F2⟩ := cut_ok hC hS' hFr hJ hd
        rcases h2 with ⟨d, e, h2⟩ | h2
        · obtain rfl := Sum.inr.inj e
          rw [toN_ofN] at h2
          exact ihz.1 n2 h2 S2 (fun J3 θ3 s3 a3 w3 k3 S3 L3 F3 => HN J3 θ3 s3 a3 w3 k3 S3 (hJ.trans L3) (F2.trans F3)) (fun i J3 θ3 s3 a3 w3 k3 S3 L3 F3 => HX i J3 θ3 s3 a3 w3 k3 S3 (hJ.trans L3) (F2.trans F3)) (fun r J3 θ3 s3 a3 w3 q1 q2 S3 L3 F3 => HR r J3 θ3 s3 a3 w3 q1 q2 S3 (hJ.trans L3) (F2.trans F3))
        · cases h2
      · obtain ⟨t, ht, hk⟩ := bind_some hk
        obtain rfl := Option.some.inj hk
        rcases h2 with ⟨d, e, h2⟩ | h2
        · cases e
        · obtain rfl := Sum.inl.inj h2
          exact thenX (HX i J' θ' s' a' w' ht hS' hJ hFr)
      · obtain ⟨t, ht, hk⟩ := bind_some q2
        obtain rfl := Option.some.inj hk
        rcases h2 with ⟨d, e, h2⟩ | h2
        · cases e
        · obtain rfl := Sum.inl.inj h2
          exact thenR (HR r J' θ' s' a' w' q1 ht hS' hJ hFr)
    | no => exact plain h
    | two _ _ => exact plain h
    | loop _ _ => exact plain h
    | «at» _ _ => exact plain h
    | atX _ _ => exact plain h
  | block i x ih =>
    refine ⟨?_, fun c' e => (by cases e)⟩
    intro Y n kr kx kn s y Q J θ a w h hS HN HX HR
    have plain : ROk V P I w0 F rt (.block i x) (fun Z n kr kx kn s => interp V rt x n kr (kxOf i kn kx) kn s) := fun {Y} n {kr kx kn s y Q J θ a w} h hS HN HX HR =>
      wp_block (ih.1 n h hS (fun J' θ' s' a' w' hk hS' hJ hFr => nrmB (HN J' θ' s' a' w' hk hS' hJ hFr))
        (fun j J' θ' s' a' w' hk hS' hJ hFr => by
          unfold kxOf at hk
          split at hk
          · rename_i hj
            have : j = i := Nat.eq_of_beq_eq_true hj
            subst this
            exact ex_in (HN J' θ' s' a' w' hk hS' hJ hFr)
          · rename_i hj
            exact ex_out (fun e => hj (by rw [e]; exact Nat.beq_refl i)) (HX j J' θ' s' a' w' hk hS' hJ hFr))
        (fun r J' θ' s' a' w' q1 q2 hS' hJ hFr => blkR (HR r J' θ' s' a' w' q1 q2 hS' hJ hFr)))
    cases x with
    | loop x =>
      clear plain
      refine cutA_ok (fun {Y} n {kr kx kn s y Q J θ a w} h hS HN HX HR => ?_) n h hS HN HX HR
      cases n with
      | loop sh n =>
        obtain ⟨q, hq, h⟩ := bind_some (show (mkCut (killI x sh) sh s).bind _ = some y from h)
        obtain ⟨d0, hd0, h⟩ := bind_some h
        obtain ⟨o, ho, hc⟩ := bindL_some h
        have hC := mkCut_ok hq hS.fine
        have hx : IOk V P I w0 F rt x := ih.2 x rfl
        refine wp_block (wp_loopM (fun d a w => ∃ J' θ', J.le J' ∧ Sim P I w0 F V.n J' θ' (q.at (toN _ d)) a w ∧ Fr s θ (q.at (toN _ d)) θ') ho ?_ ?_)
        · obtain ⟨θ1, S1, F1⟩ := cut_ok hC hS Fr.rfl Hp.le.rfl hd0
          exact ⟨J, θ1, Hp.le.rfl, by rw [toN_ofN]; exact S1, by rw [toN_ofN]; exact F1⟩
        · rintro d o' hf hlast a w ⟨J1, θ1, L1, S1, F1⟩
          refine hx n hf S1 (fun J' θ' s' a' w' hk hS' hJ hFr => ?_) (fun j J' θ' s' a' w' hk hS' hJ hFr => ?_) (fun r J' θ' s' a' w' q1 q2 hS' hJ hFr => ?_)
          · obtain ⟨d', hd, hk⟩ := bind_some hk
            obtain rfl := Option.some.inj hk
            obtain ⟨θ2, S2, F2⟩ := cut_ok hC hS' (F1.trans hFr) (L1.trans hJ) hd
            exact nrm ⟨_, rfl, J', θ2, L1.trans hJ, by rw [toN_ofN]; exact S2, by rw [toN_ofN]; exact F2⟩
          · unfold kxOf at hk
            split at hk
            · rename_i hj
              have : j = i := Nat.eq_of_beq_eq_true hj
              subst this
              obtain ⟨d', hd, hk⟩ := bind_some hk
              obtain rfl := Option.some.inj hk
              have ho2 := hlast (by simp)
              obtain ⟨θ2, S2, F2⟩ := cut_ok hC hS' (F1.trans hFr) (L1.trans hJ) hd
              rcases hc with ⟨d2, e, hc⟩ | ⟨r, e, hc⟩
              · obtain rfl := Out.brk.inj (ho2.trans e)
                rw [toN_ofN] at hc
                exact thenX (ex_in (HN J' θ2 _ a' w' hc S2 (L1.trans hJ) F2))
              · cases ho2.trans e
            · cases hk
          · obtain rfl := Option.some.inj q2
            have ho2 := hlast (by simp)
            rcases hc with ⟨d2, e, hc⟩ | ⟨r', e, hc⟩
            · cases ho2.trans e
            · obtain rfl := Out.ret.inj (ho2.trans e)
              exact thenR (blkR (HR r J' θ' s' a' w' q1 hc hS' (L1.trans hJ) (F1.trans hFr)))
      | _ => cases h
    | _ => exact cutA_ok plain n h hS HN HX HR
  | loop x ih =>
    refine ⟨?_, fun c' e => ?_⟩
    · intro Y n kr kx kn s y Q J θ a w h hS HN HX HR
      cases h
    · cases e
      exact ih.1
  | _ =>
    refine ⟨?_, fun c' e => (by cases e)⟩
    intro Y n kr kx kn s y Q J θ a w h hS HN HX HR
    cases h
end
end Go.Proofs.Ytofopdbnkafljaa.R
/- A function's start and its results; what is known of it. No program text is named here. -/
set_option linter.unusedVariables false
set_option linter.unusedSimpArgs false
set_option linter.unnecessarySimpa false
set_option linter.unusedSectionVars false
namespace Go.Proofs.Ytofopdbnkafljaa.R
open Go.RowKit
open Go.Proofs.Ytofopdbnkafljaa.D

/-! ### The start -/
def startA (i : Nat) : (p : PM) → p.den → AV
  | .rd t, d => avRd i t d
  | .ow t, d => oneAv (partAv i [] t d)
  | .fn a b, d => .one (.fn ⟨i, []⟩ a b d)
  | .cap T t, d => .one (.fz ⟨i, []⟩ T t d 0)
  | .capf T a b, d => .one (.fzf ⟨i, []⟩ T a b d)
  | .ptr _ _, _ => .one (.ptr ⟨i, []⟩ 0)
  | .eat t, d => oneAv (partAv i [] t d)
def startG (i : Nat) : (p : PM) → p.den → List (Hdr × Chk)
  | .ow t, d => partChs i [] t d
  | .ptr T t, d => [(⟨i, []⟩, .box T t d)]
  | .eat t, d => partChs i [] t d
  | _, _ => []
def startE : (i : Nat) → (ps : List PM) → denP ps → List (Nat × Nat × AV)
  | _, [], _ => []
  | i, p :: ps, d => (i, i, startA i p d.1) :: startE (i + 1) ps d.2
def startC : (i : Nat) → (ps : List PM) → denP ps → List Ent
  | _, [], _ => []
  | i, p :: ps, d => (startG i p d.1).map (fun g => (g.1, i, g.2)) ++ startC (i + 1) ps d.2
def startS (ps : List PM) (d : denP ps) : Sg := ⟨startE 0 ps d, startC 0 ps d, ps.length⟩
/-- the cells of what was handed over -/
def StF1 (P : Program) (w0 : World) (J : Hp) (θ : Th) (n i : Nat) : (p : PM) → Value → p.den → Prop
  | .ow t, v, d => (partAv i [] t d).2.map (·.v θ) = vcells t.isProd v ∧ ∀ x ∈ (partAv i [] t d).2, x.ok P w0 J θ n
  | .ptr _ _, v, _ => hv θ ⟨i, []⟩ = v ∧ i < n
  | _, _, _ => True
def StF (P : Program) (w0 : World) (J : Hp) (θ : Th) (n : Nat) : (i : Nat) → (ps : List PM) → List Value → denP ps → Prop
  | i, p :: ps, v :: vs, d => StF1 P w0 J θ n i p v d.1 ∧ StF P w0 J θ n (i + 1) ps vs d.2
  | _, _, _, _ => True
section
variable {P : Program} {w0 w : World} {J : Hp} {θ : Th} {n : Nat} {C : List Ch}
theorem partChs_easy {id : Nat} {pre : List Nat} {t : Ty} {d : t.den} : ∀ g ∈ partChs id pre t d, Easy g.2 := chsOwn_easy t d 0
/-- one parameter -/
theorem startA_ok {p : PM} {i : Nat} {v : Value} {d : p.den} {ps : List PM} {vs : List Value} {e : denP ps} (hi : i < n) (hθ : θ i = v) (h : PArg P w0 J p v d) (hS : St J w0 w (owCh (p :: ps) (v :: vs) (d, e) ++ C)) :
    (∀ chs, (startA i p d).ok P w0 J θ n chs) ∧ (startA i p d).v θ = v ∧ St J w0 w ((startG i p d).map (fun g => toCh P θ (g.1, i, g.2)) ++ (owCh ps vs e ++ C)) ∧ (∀ g ∈ startG i p d, Easy g.2 ∧ g.1.id = i) ∧ StF1 P w0 J θ n i p v d := by
  cases p with
  | rd t =>
    obtain ⟨cs, h1, h2⟩ := h
    have hav := fun chs => avRd_fine (P := P) (w0 := w0) (J := J) (chs := chs) hi hθ t d cs h2 h1
    exact ⟨fun chs => (hav chs).1, (hav []).2, hS, fun g hg => (by cases hg), trivial⟩
  | fn a b =>
    have hh : hv θ ⟨i, []⟩ = v := hθ
    exact ⟨fun chs => ⟨hi, by rw [hh]; exact h⟩, hh, hS, fun g hg => (by cases hg), trivial⟩
  | cap T t =>
    obtain ⟨b, rfl, cells, h1, h2⟩ := h
    have hh : hv θ ⟨i, []⟩ = .pointer (some ⟨b, 0, none⟩) := hθ
    refine ⟨fun chs => ⟨hi, cells, by rw [hh]; exact h1, h2⟩, ?_, hS, fun g hg => (by cases hg), trivial⟩
    show Value.pointer (some ⟨bk (hv θ ⟨i, []⟩), 0, none⟩) = _
    rw [hh]; rfl
  | capf T x y =>
    obtain ⟨b, rfl, u, h1, h2⟩ := h
    have hh : hv θ ⟨i, []⟩ = .pointer (some ⟨b, 0, none⟩) := hθ
    refine ⟨fun chs => ⟨hi, u, by rw [hh]; exact h1, h2⟩, ?_, hS, fun g hg => (by cases hg), trivial⟩
    show Value.pointer (some ⟨bk (hv θ ⟨i, []⟩), 0, none⟩) = _
    rw [hh]; rfl
  | ptr T t =>
    obtain ⟨b, rfl⟩ := h
    have hh : hv θ ⟨i, []⟩ = .pointer (some ⟨b, 0, none⟩) := hθ
    refine ⟨fun chs => hi, ?_, ?_, fun g hg => by obtain rfl := List.mem_singleton.1 hg; exact ⟨trivial, rfl⟩, hh, hi⟩
    · show Value.pointer (some ⟨bk (hv θ ⟨i, []⟩), 0, none⟩) = _
      rw [hh]; rfl
    · show St J w0 w (Ch.box (bk (hv θ ⟨i, []⟩)) T t.rep d :: _)
      rw [hh]; exact hS
  | ow t =>
    have hS : St J w0 w (Ch.own t.rep (vcells t.isProd v) d :: (owCh ps vs e ++ C)) := hS
    obtain ⟨k1, k2, k3, k4, k5⟩ := part_fine (P := P) (m := i) (pre := []) (id := i) (n := n) hi (show hv θ ⟨i, []⟩ = v from hθ) h hS
    have q := fun chs => oneAv_ok (P := P) (w0 := w0) (J := J) (θ := θ) (n := n) (chs := chs) (partAv i [] t d) (fun e => cellsOwn_one e) k1
    exact ⟨fun chs => (q chs).1, (q []).2.trans k3, k5, fun g hg => ⟨partChs_easy g hg, k4 g hg⟩, k2, k1⟩
  | eat t =>
    have hS : St J w0 w (Ch.own t.rep (vcells t.isProd v) d :: (owCh ps vs e ++ C)) := hS
    obtain ⟨k1, k2, k3, k4, k5⟩ := part_fine (P := P) (m := i) (pre := []) (id := i) (n := n) hi (show hv θ ⟨i, []⟩ = v from hθ) h hS
    have q := fun chs => oneAv_ok (P := P) (w0 := w0) (J := J) (θ := θ) (n := n) (chs := chs) (partAv i [] t d) (fun e => cellsOwn_one e) k1
    exact ⟨fun chs => (q chs).1, (q []).2.trans k3, k5, fun g hg => ⟨partChs_easy g hg, k4 g hg⟩, trivial⟩
theorem start_ok : ∀ {ps : List PM} {i : Nat} {vs : List Value} {d : denP ps} {C : List Ch}, PArgs P w0 J ps vs d → (∀ j v, vs[j]? = some v → θ (i + j) = v) → i + ps.length ≤ n → St J w0 w (owCh ps vs d ++ C) →
    (∀ e ∈ startE i ps d, (∀ chs, e.2.2.ok P w0 J θ n chs) ∧ i ≤ e.1 ∧ e.2.1 = e.1 ∧ e.1 < i + ps.length ∧ vs[e.1 - i]? = some (e.2.2.v θ)) ∧ ((startE i ps d).Pairwise fun a b => a.2.1 ≠ b.2.1) ∧ St J w0 w ((startC i ps d).map (toCh P θ) ++ C) ∧ (∀ e ∈ startC i ps d, ∀ chs, okE P w0 J θ n chs e) ∧ StF P w0 J θ n i ps vs d
  | [], i, vs, d, C, h, _, _, hS => by
    have h : vs = [] := h
    subst h
    exact ⟨fun e he => (by cases he), List.Pairwise.nil, hS, fun e he => (by cases he), trivial⟩
  | p :: ps, i, vs, d, C, h, hθ, hn, hS => by
    obtain ⟨v, r, rfl, h1, h3⟩ := h
    rw [List.length_cons] at hn
    obtain ⟨a1, a2, a3, a4, a5⟩ := startA_ok (n := n) (i := i) (θ := θ) (e := d.2) (show i < n by omega) (hθ 0 v rfl) h1 hS
    obtain ⟨k1, k2, k3, k4, k5⟩ := start_ok (i := i + 1) h3 (fun j u hj => by
      have := hθ (j + 1) u hj
      rwa [show i + (j + 1) = i + 1 + j from by omega] at this) (by omega) (a3.perm (List.perm_append_comm_assoc _ _ _))
    refine ⟨fun e he => ?_, List.pairwise_cons.2 ⟨fun e he hh => ?_, k2⟩, ?_, fun e he chs => ?_, a5, k5⟩
    · rcases List.mem_cons.1 he with rfl | he
      · exact ⟨a1, Nat.le_refl _, rfl, by rw [List.length_cons]; show i < _; omega, by show (v :: r)[i - i]? = _; rw [Nat.sub_self, a2]; rfl⟩
      · obtain ⟨q1, q2, q3, q4, q5⟩ := k1 e he
        refine ⟨q1, by omega, q3, by rw [List.length_cons]; omega, ?_⟩
        rw [show e.1 - i = (e.1 - (i + 1)) + 1 from by omega]; exact q5
    · have := k1 e he
      have hh : i = e.2.1 := hh
      omega
    · show St J w0 w (((startG i p d.1).map _ ++ startC (i + 1) ps d.2).map (toCh P θ) ++ C)
      rw [List.map_append, List.map_map]
      refine k3.perm ?_
      rw [List.append_assoc]
      exact List.perm_append_comm_assoc _ _ _
    · rcases List.mem_append.1 he with he | he
      · obtain ⟨g, hg, rfl⟩ := List.mem_map.1 he
        obtain ⟨g1, g2⟩ := a4 g hg
        exact easy_ok g1 (by omega) (by omega)
      · exact k4 e he chs
theorem pargs_len : ∀ {ps : List PM} {vs : List Value} {d : denP ps}, PArgs P w0 J ps vs d → vs.length = ps.length
  | [], vs, d, h => by
    have h : vs = [] := h
    subst h; rfl
  | p :: ps, vs, d, h => by
    obtain ⟨v, r, rfl, h1, h3⟩ := h
    simpa using pargs_len h3
end

/-! ### Results -/
def retAv (tt : TT) (s : Sg) : ResultVar → Option AV
  | .tmp t => look s.env t
  | .cell p T => (ptr0 (look s.env p)).bind fun h => (td tt T).bind fun d => (blkOf h s.chs).bind fun b => chkT (Nat.beq b.cells.length d.n) (avOf d.agg b.cells)
theorem ptr0_ok {v : Option AV} {h : Hdr} (k : ptr0 v = some h) : v = some (.one (.ptr h 0)) := by
  unfold ptr0 at k
  split at k
  · rename_i h' off
    split at k
    · rename_i ho
      rw [Nat.eq_of_beq_eq_true ho, Option.some.inj k]
    · cases k
  · cases k
section
variable {P : Program} {I : Hp} {w0 w : World} {F : Ch} {J : Hp} {θ : Th} {n : Nat} {s : Sg} {a : Act} {tt : TT}
theorem res_one (ha : Agr n a (envL θ s)) {t g : Nat} {T E : TypeId} {v : Value} {cs : List Ch} (h : (envL θ s).lookup t = some (.pointer (some ⟨g, 0, none⟩))) (hs : St J w0 w cs) (i : Nat) (hi : cs[i]? = some (Ch.blk g [v] E)) (hT : TI P T false 1) : resOf P a w (.cell t T) v := by
  refine ⟨_, ha.2.2 t _ h, ?_⟩
  have hg := hs.heap i hi
  have hc : w.cell? ⟨g, 0, none⟩ = some v := by simp [World.cell?, hg]
  simp [loadVar, Sem.run_bind, hT.run_agg, load, Sem.run, hc, Result.andThen]
theorem retAv_ok (hT : TTok P tt) (hS : Sim P I w0 F n J θ s a w) {r : ResultVar} {v : AV} (h : retAv tt s r = some v) : resOf P a w r (v.v θ) ∧ v.ok P w0 J θ s.nxt s.chs := by
  cases r with
  | tmp t => exact ⟨res_tmp hS.agr (look_envL h), opd_ok (x := .tmp t) hS.fine h⟩
  | cell p T =>
    obtain ⟨hh, h1, h⟩ := bind_some (show (ptr0 (look s.env p)).bind _ = some v from h)
    obtain ⟨d, hd, h⟩ := bind_some h
    obtain ⟨b, hb, h⟩ := bind_some h
    obtain ⟨hl, h⟩ := chkT_ok h
    have hl := Nat.eq_of_beq_eq_true hl
    have hp := blkOf_ok hb
    have hok := hS.fine.chs _ (hp.mem_iff.2 (List.mem_cons_self ..))
    obtain ⟨k1, k2⟩ := avOf_ok (chs := s.chs) h hok.2.2
    refine ⟨?_, k1⟩
    have hlk : (envL θ s).lookup p = some (.pointer (some ⟨bk (hv θ hh), 0, none⟩)) := look_envL (ptr0_ok h1)
    have hst := hS.st.perm ((hp.map (toCh P θ)).append_right [F])
    have hti := (hT.get hd).ti
    cases hagg : d.agg with
    | true =>
      rw [hagg] at k2 hti
      rw [← k2]
      exact res_cell hS.agr hlk hst 0 rfl hti (by rw [List.length_map]; exact hl)
    | false =>
      rw [hagg] at k2 hti h
      have h1' : d.n = 1 := by
        have := (hT.get hd).one
        rw [hagg] at this
        simpa using this
      obtain ⟨x, hx⟩ := List.length_eq_one_iff.1 (hl.trans h1')
      rw [h1'] at hti
      rw [hx] at k2
      rw [← k2]
      have hst2 : St J w0 w (Ch.blk (bk (hv θ hh)) [x.v θ] b.T :: (b.rest.map (toCh P θ) ++ [F])) := by
        have : (toCh P θ (b.ent hh)) = Ch.blk (bk (hv θ hh)) (b.cells.map (·.v θ)) b.T := rfl
        rw [hx] at this
        rw [← show toCh P θ (b.ent hh) = Ch.blk (bk (hv θ hh)) [x.v θ] b.T from this]
        exact hst
      exact res_one hS.agr hlk hst2 0 rfl hti
end

def takeRes : (ts : List Ty) → List AV → List Ent → Option (denH ts × List Ent × List Ent)
  | [], [], chs => some ((), [], chs)
  | t :: ts, v :: vs, chs => chkT (isAggA v == t.isProd) ((avCells v).bind fun cs => (takeData t cs chs).bind fun q => chkT q.cells.isEmpty ((takeRes ts vs q.rest).bind fun r => some ((q.d, r.1), q.used ++ r.2.1, r.2.2)))
  | _, _, _ => none
def resList : (ts : List Ty) → List Value → denH ts → List Ch
  | t :: ts, v :: vs, d => Ch.own t.rep (vcells t.isProd v) d.1 :: resList ts vs d.2
  | _, _, _ => []
theorem takeRes_ok {P : Program} {w0 : World} {J : Hp} {θ : Th} {n : Nat} {chs0 : List Ent} : ∀ {ts : List Ty} {vs : List AV} {chs : List Ent} {r : denH ts × List Ent × List Ent}, takeRes ts vs chs = some r → (∀ v ∈ vs, v.ok P w0 J θ n chs0) →
    chs.Perm (r.2.1 ++ r.2.2) ∧ vs.length = ts.length ∧ SepTo J (r.2.1.map (toCh P θ)) (resList ts (vs.map (·.v θ)) r.1) ∧ ∀ (i : Nat) t v, ts[i]? = some t → vs[i]? = some v → isAggV (v.v θ) = t.isProd
  | [], [], chs, r, h, _ => by
    obtain rfl := Option.some.inj (show some _ = some r from h)
    exact ⟨List.Perm.refl _, rfl, sepTo_nil, fun i t v ht => by simp at ht⟩
  | t :: ts, v :: vs, chs, r, h, hv' => by
    obtain ⟨ha, h⟩ := chkT_ok (show chkT (isAggA v == t.isProd) _ = some r from h)
    have ha : isAggA v = t.isProd := by simpa using ha
    obtain ⟨cs, hcs, h⟩ := bind_some h
    obtain ⟨q, hq, h⟩ := bind_some h
    obtain ⟨he, h⟩ := chkT_ok h
    obtain ⟨r', hr, h⟩ := bind_some h
    obtain rfl := Option.some.inj h
    obtain ⟨c1, c2⟩ := avCells_ok hcs (hv' v (by simp))
    obtain ⟨p, cc, e1, e2⟩ := takeData_ok (J := J) (θ := θ) hq c1
    rw [List.isEmpty_iff.1 he, List.append_nil] at e1
    subst e1
    obtain ⟨k1, k2, k3, k4⟩ := takeRes_ok hr fun x hx => hv' x (by simp [hx])
    have hcell : vcells t.isProd (v.v θ) = cs.map (·.v θ) ∧ isAggV (v.v θ) = t.isProd := by
      rw [← ha]
      cases v with
      | agg xs =>
        obtain rfl := Option.some.inj (show some xs = some cs from hcs)
        exact ⟨rfl, rfl⟩
      | one x =>
        obtain rfl := Option.some.inj (show some [x] = some cs from hcs)
        refine ⟨rfl, ?_⟩
        have h1 : (x.v θ).oneCell' = true := LV.one (show LV.ok P w0 J θ n x from hv' (.one x) (by simp))
        show isAggV (x.v θ) = false
        generalize x.v θ = u at h1
        cases u <;> first | rfl | cases h1
      | _ => cases hcs
    refine ⟨by rw [List.append_assoc]; exact p.trans (k1.append_left _), by rw [List.length_cons, List.length_cons, k2], ?_, fun i t' v' ht hv0 => ?_⟩
    · show SepTo J ((q.used ++ r'.2.1).map _) (Ch.own t.rep (vcells t.isProd (v.v θ)) q.d :: resList ts (vs.map _) r'.1)
      rw [List.map_append, hcell.1]
      exact sepTo_bun e2 k3
    · cases i with
      | zero =>
        obtain rfl : t = t' := by simpa using ht
        obtain rfl : v = v' := by simpa using hv0
        exact hcell.2
      | succ i => exact k4 i t' v' (by simpa using ht) (by simpa using hv0)
  | [], _ :: _, chs, r, h, _ => by cases h
  | _ :: _, [], chs, r, h, _ => by cases h

/-! ### The way out -/
def retV : List Value → Value
  | [v] => v
  | vs => .tuple vs.toArray
def AllRes (P : Program) (a : Act) (w : World) : List ResultVar → List Value → Prop
  | [], vs => vs = []
  | r :: rs, vs => ∃ v us, vs = v :: us ∧ resOf P a w r v ∧ AllRes P a w rs us
theorem run_mapM_res {P : Program} {a : Act} {w : World} {f : ResultVar → Sem Value} (hf : ∀ r v, resOf P a w r v → (f r).run P w = .ok v w) : ∀ {l : List ResultVar} {vs : List Value}, AllRes P a w l vs → (l.mapM f).run P w = .ok vs w
  | [], vs, h => by
    have h : vs = [] := h
    subst h
    rw [List.mapM_nil]; rfl
  | r :: l, vs, h => by
    obtain ⟨v, us, rfl, h1, h2⟩ := h
    rw [List.mapM_cons, Sem.run_bind, hf r v h1]
    simp only [Result.andThen_ok, Sem.run_bind, run_mapM_res hf h2]
    rfl
def resF (a : Act) (r : ResultVar) : Sem Value := match r with
  | .tmp t => pure (a.tmps.getD t undef)
  | .cell p t => do loadVar t (← asAddr (a.tmps.getD p undef))
theorem resF_ok {P : Program} {a : Act} {w : World} {r : ResultVar} {v : Value} (h : resOf P a w r v) : (resF a r).run P w = .ok v w := by
  cases r with
  | tmp t =>
    have h : a.tmps.getD t undef = v := h
    show (pure (a.tmps.getD t undef) : Sem Value).run P w = _
    rw [h]; rfl
  | cell p T =>
    obtain ⟨A, h1, h2⟩ := h
    show ((asAddr (a.tmps.getD p undef)) >>= fun x => loadVar T x).run P w = _
    rw [h1, Sem.run_bind]
    show Result.andThen (.ok A w) _ = _
    rw [Result.andThen_ok]; exact h2
theorem ret_n {P : Program} {n : Nat} {a : Act} {w : World} {L : List (Nat × Value)} {fn : Func} {R : Ending → World → Prop} {vs : List Value} (ha : Agr n a L) (h : AllRes P a w fn.results.toList vs) (hR : R (.returned (retV vs)) w) : bodyPost P fn R .ret a w := by
  refine ⟨ha.1, retV vs, ?_, hR⟩
  have hr : ((fn.results.mapM (resF a)) : Sem (Array Value)).run P w = .ok vs.toArray w := by
    rw [Array.mapM_eq_mapM_toList]
    have := run_mapM_res (f := resF a) (fun r v => resF_ok) h
    simp [this, Sem.run_map]
  show ((fn.results.mapM (resF a)) >>= fun vs => pure (if h : vs.size = 1 then vs[0] else .tuple vs) : Sem Value).run P w = _
  rw [Sem.run_bind, hr, Result.andThen_ok]
  match vs with
  | [] => rfl
  | [v] => rfl
  | _ :: _ :: _ => rfl

/-! ### What was handed over, given back -/
def takeOuts : (i : Nat) → (ps : List PM) → denP ps → List Ent → Option (denH (outs ps) × List Ent × List Ent)
  | _, [], _, chs => some ((), [], chs)
  | i, .ow t :: ps, d, chs => (takeData t (partAv i [] t d.1).2 chs).bind fun q => chkT q.cells.isEmpty ((takeOuts (i + 1) ps d.2 q.rest).bind fun r => some ((q.d, r.1), q.used ++ r.2.1, r.2.2))
  | i, .ptr T t :: ps, d, chs => (pullBox ⟨i, []⟩ T t chs).bind fun q => (takeOuts (i + 1) ps d.2 q.2.2).bind fun r => some ((q.1, r.1), q.2.1 ++ r.2.1, r.2.2)
  | i, .rd _ :: ps, d, chs => takeOuts (i + 1) ps d.2 chs
  | i, .fn _ _ :: ps, d, chs => takeOuts (i + 1) ps d.2 chs
  | i, .eat _ :: ps, d, chs => takeOuts (i + 1) ps d.2 chs
  | i, .cap _ _ :: ps, d, chs => takeOuts (i + 1) ps d.2 chs
  | i, .capf _ _ _ :: ps, d, chs => takeOuts (i + 1) ps d.2 chs
theorem takeOuts_ok {P : Program} {w0 : World} {J J' : Hp} {θ θ' : Th} {n n' : Nat} {chs0 : List Ent} (hJ : J.le J') (hs : Same n θ θ') : ∀ {ps : List PM} {i : Nat} {d : denP ps} {chs : List Ent} {vs : List Value} {r : denH (outs ps) × List Ent × List Ent}, takeOuts i ps d chs = some r → vs.length = ps.length → StF P w0 J θ n i ps vs d → (∀ e ∈ chs, okE P w0 J' θ' n' chs0 e) →
    chs.Perm (r.2.1 ++ r.2.2) ∧ SepTo J' (r.2.1.map (toCh P θ')) (outCh ps vs r.1)
  | [], i, d, chs, vs, r, h, _, _, _ => by
    obtain rfl := Option.some.inj (show some _ = some r from h)
    exact ⟨List.Perm.refl _, sepTo_nil⟩
  | p :: ps, i, d, chs, [], r, h, hl, _, _ => by cases hl
  | .ow t :: ps, i, d, chs, v :: vs, r, h, hl, hF, hc => by
    obtain ⟨q, hq, h⟩ := bind_some (show (takeData t (partAv i [] t d.1).2 chs).bind _ = some r from h)
    obtain ⟨he, h⟩ := chkT_ok h
    obtain ⟨r', hr, h⟩ := bind_some h
    obtain rfl := Option.some.inj h
    obtain ⟨⟨k1, k2⟩, k3⟩ := hF
    obtain ⟨p, cc, e1, e2⟩ := takeData_ok (P := P) (w0 := w0) (J := J') (θ := θ') (n := n) hq fun x hx => LV.ok_same hs (Nat.le_refl _) (k2 x hx) hJ
    rw [List.isEmpty_iff.1 he, List.append_nil] at e1
    subst e1
    rw [map_v_same hs k2, k1] at e2
    obtain ⟨q1, q2⟩ := takeOuts_ok hJ hs hr (by simpa using hl) k3 fun e he => hc e (p.mem_iff.2 (by simp [he]))
    refine ⟨by rw [List.append_assoc]; exact p.trans (q1.append_left _), ?_⟩
    show SepTo J' ((q.used ++ r'.2.1).map _) (Ch.own t.rep (vcells t.isProd v) q.d :: outCh ps vs r'.1)
    rw [List.map_append]
    exact sepTo_bun e2 q2
  | .ptr T t :: ps, i, d, chs, v :: vs, r, h, hl, hF, hc => by
    obtain ⟨q, hq, h⟩ := bind_some (show (pullBox ⟨i, []⟩ T t chs).bind _ = some r from h)
    obtain ⟨r', hr, h⟩ := bind_some h
    obtain rfl := Option.some.inj h
    obtain ⟨⟨k1, k2⟩, k3⟩ := hF
    obtain ⟨p, hb⟩ := pullBox_ok (P := P) (w0 := w0) (J := J') (J' := J') (θ := θ') hq Hp.le.rfl hc
    obtain ⟨q1, q2⟩ := takeOuts_ok hJ hs hr (by simpa using hl) k3 fun e he => hc e (p.mem_iff.2 (by simp [he]))
    refine ⟨by rw [List.append_assoc]; exact p.trans (q1.append_left _), ?_⟩
    show SepTo J' ((q.2.1 ++ r'.2.1).map _) (Ch.box (bk v) T t.rep q.1 :: outCh ps vs r'.1)
    rw [List.map_append]
    have hh : hv θ' ⟨i, []⟩ = v := (hv_same hs (show (⟨i, []⟩ : Hdr).id < n from k2)).trans k1
    rw [hh] at hb
    intro w F hsp
    obtain ⟨G, K, rfl, h1, h2⟩ := hsp.split
    exact ⟨G, K, rfl, hb w G h1, q2 w K h2⟩
  | .rd t :: ps, i, d, chs, v :: vs, r, h, hl, hF, hc => takeOuts_ok (ps := ps) hJ hs (show takeOuts (i + 1) ps d.2 chs = some r from h) (by simpa using hl) hF.2 hc
  | .fn _ _ :: ps, i, d, chs, v :: vs, r, h, hl, hF, hc => takeOuts_ok (ps := ps) hJ hs (show takeOuts (i + 1) ps d.2 chs = some r from h) (by simpa using hl) hF.2 hc
  | .eat _ :: ps, i, d, chs, v :: vs, r, h, hl, hF, hc => takeOuts_ok (ps := ps) hJ hs (show takeOuts (i + 1) ps d.2 chs = some r from h) (by simpa using hl) hF.2 hc
  | .cap _ _ :: ps, i, d, chs, v :: vs, r, h, hl, hF, hc => takeOuts_ok (ps := ps) hJ hs (show takeOuts (i + 1) ps d.2 chs = some r from h) (by simpa using hl) hF.2 hc
  | .capf _ _ _ :: ps, i, d, chs, v :: vs, r, h, hl, hF, hc => takeOuts_ok (ps := ps) hJ hs (show takeOuts (i + 1) ps d.2 chs = some r from h) (by simpa using hl) hF.2 hc
def ofH : (ts : List Ty) → denH ts → dens ts
  | [], _ => ()
  | [_], d => d.1
  | _ :: u :: ts, d => (d.1, ofH (u :: ts) d.2)
theorem toH_ofH : ∀ (ts : List Ty) (d : denH ts), toH ts (ofH ts d) = d
  | [], _ => rfl
  | [_], _ => rfl
  | _ :: u :: ts, d => congrArg (Prod.mk d.1) (toH_ofH (u :: ts) d.2)
def happ : (ts us : List Ty) → denH ts → denH us → denH (ts ++ us)
  | [], _, _, e => e
  | _ :: ts, us, d, e => (d.1, happ ts us d.2 e)
theorem hFst_app : ∀ (ts us : List Ty) (d : denH ts) (e : denH us), hFst ts us (happ ts us d e) = d
  | [], _, _, _ => rfl
  | _ :: ts, us, d, e => congrArg (Prod.mk d.1) (hFst_app ts us d.2 e)
theorem hSnd_app : ∀ (ts us : List Ty) (d : denH ts) (e : denH us), hSnd ts us (happ ts us d e) = e
  | [], _, _, _ => rfl
  | _ :: ts, us, d, e => hSnd_app ts us d.2 e
def retAvs (tt : TT) (s : Sg) : List ResultVar → Option (List AV)
  | [] => some []
  | r :: rs => (retAv tt s r).bind fun v => (retAvs tt s rs).bind fun vs => some (v :: vs)
def retHdrs (s : Sg) : List AV → List Hdr
  | [] => []
  | v :: vs => avHdrs v ++ retHdrs s vs
def holeHdrs : List Ent → List Hdr
  | [] => []
  | e :: l => match e.2.2 with
    | .hole _ _ _ _ _ _ _ _ _ _ => e.1 :: holeHdrs l
    | _ => holeHdrs l
def frzAs : List AV → List (Bool × Hdr)
  | [] => []
  | v :: vs => frzA true v ++ frzAs vs
def prepRF (tr : Trs) (vs : List AV) (s : Sg) : Sg := match tr with
  | [] => s
  | _ => frzL tr (frzAs vs) s
def prepR (tr : Trs) (vs : List AV) (s0 : Sg) : Sg := match prepRF tr vs s0 with
  | s => prepL (retHdrs s0 vs ++ holeHdrs s.chs) s
/-- what a function gives at a state -/
def rtOf (V : Env) (rvs : List ResultVar) (rs : List Ty) (ps : List PM) (d : denP ps) (s0 : Sg) : Option (dens (rs ++ outs ps)) := (retAvs V.tt s0 rvs).bind fun vs0 => match prepR V.tr vs0 s0 with
  | s => (retAvs V.tt s rvs).bind fun vs => (takeRes rs vs s.chs).bind fun r => (takeOuts 0 ps d r.2.2).bind fun o => some (ofH _ (happ rs (outs ps) r.1 o.1))
end Go.Proofs.Ytofopdbnkafljaa.R
/- What a function's model says of the function. No program text is named here. -/
set_option linter.unusedVariables false
set_option linter.unusedSimpArgs false
set_option linter.unnecessarySimpa false
set_option linter.unusedSectionVars false
namespace Go.Proofs.Ytofopdbnkafljaa.R
open Go.RowKit
open Go.Proofs.Ytofopdbnkafljaa.D

theorem resGo_list {vs : List Value} : ∀ {ts : List Ty} {i : Nat} {us : List Value} {d : denH ts}, us.length = ts.length → (∀ j v, us[j]? = some v → vs[i + j]? = some v) → resGo i ts d (.tuple vs.toArray) = resList ts us d
  | [], i, us, d, h, _ => by
    cases us with
    | nil => rfl
    | cons _ _ => cases h
  | t :: ts, i, [], d, h, _ => by cases h
  | t :: ts, i, u :: us, d, h, k => by
    have h0 : vg (.tuple vs.toArray) [i] = u := by
      show vs.toArray.getD i undef = u
      have := k 0 u rfl
      rw [Nat.add_zero] at this
      simp [Array.getD_eq_getD_getElem?, this]
    show Ch.own t.rep (vcells t.isProd (vg (.tuple vs.toArray) [i])) d.1 :: resGo (i + 1) ts d.2 _ = Ch.own t.rep (vcells t.isProd u) d.1 :: resList ts us d.2
    rw [h0, resGo_list (us := us) (by simpa using h) fun j v hj => by
      have := k (j + 1) v (by simpa using hj)
      rwa [show i + (j + 1) = i + 1 + j from by omega] at this]
theorem resGv_list {ts : List Ty} {vs : List Value} {d : denH ts} (h : vs.length = ts.length) : resGv ts d (retV vs) = resList ts vs d := by
  match ts, vs, d, h with
  | [], [], d, _ => rfl
  | [t], [v], d, _ => rfl
  | t :: u :: ts, v :: w :: vs, d, h =>
    show resGo 0 _ d (.tuple (v :: w :: vs).toArray) = _
    exact resGo_list h fun j x hj => by rw [Nat.zero_add]; exact hj
theorem resFa_ok {ts : List Ty} {vs : List Value} (h : vs.length = ts.length) (k : ∀ (i : Nat) t v, ts[i]? = some t → vs[i]? = some v → isAggV v = t.isProd) : resFa ts (retV vs) := by
  match ts, vs, h with
  | [], [], _ => exact ⟨#[], rfl, rfl, fun i t ht => by simp at ht⟩
  | [t], [v], _ => exact k 0 t v rfl rfl
  | t :: u :: ts, v :: w :: vs, h =>
    refine ⟨(v :: w :: vs).toArray, rfl, by simpa using h, fun i t' ht => ?_⟩
    have hlt : i < (v :: w :: vs).length := by rw [h]; exact (List.getElem?_eq_some_iff.1 ht).1
    have := k i t' ((v :: w :: vs)[i]) ht (List.getElem?_eq_getElem hlt)
    rw [← this, Array.getD_eq_getD_getElem?, List.getElem?_toArray, List.getElem?_eq_getElem hlt]; rfl

theorem retAvs_ok {P : Program} {I : Hp} {w0 w : World} {F : Ch} {J : Hp} {θ : Th} {n : Nat} {s : Sg} {a : Act} {tt : TT} (hT : TTok P tt) (hS : Sim P I w0 F n J θ s a w) : ∀ {rs : List ResultVar} {vs : List AV}, retAvs tt s rs = some vs → AllRes P a w rs (vs.map (·.v θ)) ∧ ∀ v ∈ vs, v.ok P w0 J θ s.nxt s.chs
  | [], vs, h => by
    obtain rfl := Option.some.inj (show some [] = some vs from h)
    exact ⟨rfl, fun v hv => by cases hv⟩
  | r :: rs, vs, h => by
    obtain ⟨v, hv', h⟩ := bind_some (show (retAv tt s r).bind _ = some vs from h)
    obtain ⟨us, hus, h⟩ := bind_some h
    obtain rfl := Option.some.inj h
    obtain ⟨k1, k2⟩ := retAv_ok hT hS hv'
    obtain ⟨q1, q2⟩ := retAvs_ok hT hS hus
    refine ⟨⟨_, _, rfl, k1, q1⟩, fun x hx => ?_⟩
    rcases List.mem_cons.1 hx with rfl | hx
    · exact k2
    · exact q2 x hx
theorem sepTo_app {J : Hp} {a b c d : List Ch} (h : SepTo J a b) (k : SepTo J c d) : SepTo J (a ++ c) (b ++ d) := fun w F hs => by
  obtain ⟨G, K, rfl, e1, e2⟩ := hs.split
  exact (h w G e1).append (k w K e2)
theorem St.sepTo {J : Hp} {w0 w : World} {a b C : List Ch} (h : St J w0 w (a ++ C)) (k : SepTo J a b) : St J w0 w (b ++ C) := by
  obtain ⟨h1, h2, F, h3, h4, h5⟩ := h
  obtain ⟨G, K, rfl, e1, e2⟩ := h3.split
  exact ⟨h1, h2, G ++ K, (k w G e1).append e2, h4, h5⟩
theorem con_of_wp' {P : Program} {n : Nat} {I : Hp} {w0 : World} {k : FuncId} {fn : Func} {c : Code} {args : Array Value} {rn : List Ch} {fact : Value → Prop} {gv : Value → List Ch} (L : List (Nat × Value)) (hf : P.funcs[k]? = some fn) (hb : fn.body = some c) (hn : fn.ntmps = n) (hm : args.size ≤ n) (hL : ∀ p ∈ L, args[p.1]? = some p.2)
    (h : ∀ F w a, Agr n a L → St I w0 w (rn ++ [F]) → c.wp P (bodyPost P fn fun e w' => ∃ v, e = .returned v ∧ fact v ∧ ∃ J, I.le J ∧ St J w0 w' (gv v ++ [F])) a w) (hd : ∀ v, Ch.back (gv v)) : Con P k args I w0 rn fact gv := by
  intro w C hs
  have hs' : St I w0 w (rn ++ [Ch.fr I C]) := by
    obtain ⟨hb, hi, F, h1, h2, h3⟩ := hs
    obtain ⟨G, K, rfl, e1, e2⟩ := h1.split
    exact ⟨hb, hi, G ++ K, e1.append ⟨K, [], by simp, e2, rfl⟩, h2, h3⟩
  have := h (Ch.fr I C) w { tmps := args ++ Array.replicate (fn.ntmps - args.size) undef, defers := [] } (Agr.start L (by omega) hL) hs'
  refine (calls_of_wp hf hb this).mono ?_
  rintro e w' ⟨v, rfl, hv, J, hJ, hs⟩
  exact ⟨v, rfl, hv, hs.back hJ (hd v)⟩
theorem prepR_ok {P : Program} {I : Hp} {w0 w : World} {F : Ch} {n : Nat} {J : Hp} {θ : Th} {s : Sg} {a : Act} {tr : Trs} {vs : List AV} (hS : Sim P I w0 F n J θ s a w) : ∃ J' θ', J.le J' ∧ Sim P I w0 F n J' θ' (prepR tr vs s) a w ∧ Fr s θ (prepR tr vs s) θ' := by
  have key : ∃ J' θ', J.le J' ∧ Sim P I w0 F n J' θ' (prepRF tr vs s) a w ∧ Fr s θ (prepRF tr vs s) θ' := by
    unfold prepRF
    split
    · exact ⟨J, θ, Hp.le.rfl, hS, Fr.rfl⟩
    · exact frzL_ok hS
  obtain ⟨J', θ', h1, h2, h3⟩ := key
  obtain ⟨S2, F2⟩ := prepL_ok (V := ⟨[], [], [], n, []⟩) (hs := retHdrs s vs ++ holeHdrs (prepRF tr vs s).chs) h2
  exact ⟨J', θ', h1, S2, h3.trans F2⟩
theorem ret_ok {V : Env} {P : Program} {w0 : World} {F : Ch} {J : Hp} {θ : Th} (hT : TTok P V.tt) {fn : Func} {rs : List Ty} {ps : List PM} {d : denP ps} {vs : List Value} {s0 : Sg} (k0 : vs.length = ps.length) (k5 : StF P w0 J θ ps.length 0 ps vs d) (hn0 : ps.length ≤ s0.nxt) : ∀ r J' θ' s' a' w', rtOf V fn.results.toList rs ps d s' = some r → Sim P J w0 F V.n J' θ' s' a' w' → J.le J' → Fr s0 θ s' θ' →
    bodyPost P fn (fun e w' => ∃ v, e = .returned v ∧ resFa rs v ∧ ∃ J2, J.le J2 ∧ St J2 w0 w' ((resGv rs (hFst rs (outs ps) (toH _ r)) v ++ outCh ps vs (hSnd rs (outs ps) (toH _ r))) ++ [F])) .ret a' w' := by
  intro r J' θ' s' a' w' hrt hS' hJ hFr
  obtain ⟨vs0, hv0, hrt⟩ := bind_some (show (retAvs V.tt s' fn.results.toList).bind _ = some r from hrt)
  obtain ⟨J1, θ1, hJ1, S1, F1⟩ := prepR_ok (tr := V.tr) (vs := vs0) hS'
  generalize prepR V.tr vs0 s' = s1 at hrt S1 F1
  replace hJ := hJ.trans hJ1
  replace hFr := hFr.trans F1
  clear hJ1 F1 hS'
  revert J1 θ1
  clear J' θ'
  intro J' θ' S1 hJ hFr
  obtain ⟨us, hus, hrt⟩ := bind_some hrt
  obtain ⟨q, hq, hrt⟩ := bind_some hrt
  obtain ⟨o, ho, hrt⟩ := bind_some hrt
  obtain rfl := Option.some.inj hrt
  obtain ⟨r1, r2⟩ := retAvs_ok hT S1 hus
  obtain ⟨t1, t2, t3, t4⟩ := takeRes_ok (J := J') (θ := θ') hq r2
  have hsame : Same ps.length θ θ' := fun i hi => hFr.same i (by omega)
  obtain ⟨o1, o2⟩ := takeOuts_ok (P := P) (J := J) (J' := J') (θ := θ) (θ' := θ') (vs := vs) (n := ps.length) (n' := s1.nxt) (chs0 := s1.chs) hJ hsame ho k0 k5 fun e he => S1.fine.chs e (t1.mem_iff.2 (by simp [he]))
  have hl : (us.map (·.v θ')).length = rs.length := by rw [List.length_map]; exact t2
  refine ret_n S1.agr r1 ⟨_, rfl, resFa_ok hl fun i t v ht hv1 => ?_, J', hJ, ?_⟩
  · rw [List.getElem?_map] at hv1
    obtain ⟨x, hx, rfl⟩ := Option.map_eq_some_iff.1 hv1
    exact t4 i t x ht hx
  · rw [toH_ofH, hFst_app, hSnd_app, resGv_list hl]
    have hp := t1.trans (o1.append_left _)
    have h1 := S1.st.perm ((hp.map (toCh P θ')).append_right [F])
    have h2 : St J' w0 w' ((q.2.1.map (toCh P θ') ++ o.2.1.map (toCh P θ')) ++ (o.2.2.map (toCh P θ') ++ [F])) := by
      simpa [List.map_append, List.append_assoc] using h1
    have h3 := St.sepTo h2 (sepTo_app t3 o2)
    refine St.left (ds := o.2.2.map (toCh P θ')) (h3.perm ?_)
    simp only [List.append_assoc]
    exact List.Perm.append_left _ (List.Perm.append_left _ List.perm_append_comm)
theorem fok {V : Env} {P : Program} (hT : TTok P V.tt) (hF : FTok P V.ft) (hmx : P.follows .mixedOrders = true) {k : FuncId} {fn : Func} {c : Code} {f : FS} (hf : P.funcs[k]? = some fn) (hb : fn.body = some c) (hn : fn.ntmps = V.n) (hen : Enters P k) (hcl : f.cl = none) (hm : f.ps.length ≤ V.n) (hdp : (backR f.rs && outDp f.ps) = true) (ann : Ann)
    (hmod : ∀ d, appP f.ps f.m d = interp V (rtOf V fn.results.toList f.rs f.ps d) c ann (fun r => some r) (fun _ _ => none) (rtOf V fn.results.toList f.rs f.ps d) (openA (startS f.ps d))) : FOk P k f := by
  rw [Bool.and_eq_true] at hdp
  refine ⟨fun q hq => by (rw [hcl] at hq; cases hq), hen, fun w0 J vs d r ha hr => ?_⟩
  rw [hmod] at hr
  let θ : Th := fun i => vs.getD i undef
  have hθ : ∀ j v, vs[j]? = some v → θ (0 + j) = v := fun j v hj => by
    show vs.getD (0 + j) undef = v
    rw [Nat.zero_add, List.getD_eq_getElem?_getD, hj]; rfl
  have k0 := pargs_len ha
  have hzip : ∀ p ∈ (vs.zipIdx.map fun q => (q.2, q.1)), vs.toArray[p.1]? = some p.2 := fun p hp => by
    obtain ⟨q, hq, rfl⟩ := List.mem_map.1 hp
    obtain ⟨v, j⟩ := q
    have := (List.mk_mem_zipIdx_iff_getElem? (x := v) (i := j)).1 hq
    simpa using this
  refine con_of_wp' (n := V.n) (vs.zipIdx.map fun q => (q.2, q.1)) hf hb hn (by rw [List.size_toArray, k0]; exact hm) hzip (fun F w a hA hst => ?_) (fun v => resGv_back (outCh_deep _ _ _ hdp.2) _ _ hdp.1)
  · obtain ⟨k1, k2, k3, k4, k5⟩ := start_ok (n := f.ps.length) (C := [F]) ha hθ (by omega) hst
    have hfine : Fine P w0 J θ (startS f.ps d) := ⟨fun e he => (k1 e he).1 _, fun e he => by have := k1 e he; show e.2.1 < f.ps.length; omega, k2, fun e he => k4 e he _⟩
    have hA' : Agr V.n a (envL θ (startS f.ps d)) := hA.pick _ fun p hp => by
      obtain ⟨e, he, rfl⟩ := List.mem_map.1 hp
      have h5 := (k1 e he).2.2.2.2
      rw [Nat.sub_zero] at h5
      have key : ∀ (l : List Value) (k : Nat) (i : Nat) (v : Value), k ≤ i → l[i - k]? = some v → ((l.zipIdx k).map fun q => (q.2, q.1)).lookup i = some v := by
        intro l
        induction l with
        | nil => intro k i v _ h; simp at h
        | cons x l ih =>
          intro k i v hk h
          simp only [List.zipIdx_cons, List.map_cons, List.lookup_cons]
          by_cases e : i = k
          · subst e
            simp at h
            simp [h]
          · have : (i == k) = false := by simpa using e
            rw [this]
            refine ih (k + 1) i v (by omega) ?_
            rw [show i - k = (i - (k + 1)) + 1 from by omega] at h
            simpa using h
      exact key vs 0 e.1 _ (Nat.zero_le _) h5
    have hS : Sim P J w0 F V.n J θ (startS f.ps d) a w := ⟨Hp.le.rfl, hA', k3, hfine⟩
    have fin := ret_ok (rs := f.rs) (fn := fn) (F := F) hT k0 k5 (Nat.le_refl (startS f.ps d).nxt)
    obtain ⟨θ0, hS0, hFr0⟩ := openA_ok hS
    exact (interp_both (I := J) (w0 := w0) (F := F) hT hF hmx c).1 ann hr hS0 (fun J' θ' s' a' w' hk S' hJ hFr => fin r J' θ' s' a' w' hk S' hJ (hFr0.trans hFr)) (fun i J' θ' s' a' w' hk => by cases hk) (fun r' J' θ' s' a' w' hrt hrr hS' hJ hFr => by
      obtain rfl := Option.some.inj hrr
      exact fin _ J' θ' s' a' w' hrt hS' hJ (hFr0.trans hFr))
/-- a function that copies rows, whatever lies in their cells: nil or not -/
theorem clone_ok {V : Env} {P : Program} (hT : TTok P V.tt) (hF : FTok P V.ft) (hmx : P.follows .mixedOrders = true) {k : FuncId} {fn : Func} {c : Code} {E b : Nat} (hf : P.funcs[k]? = some fn) (hb : fn.body = some c) (hn : fn.ntmps = V.n) (hen : Enters P k) (hm : 1 ≤ V.n) (ann : Ann)
    (hmod : ∀ (E' : TypeId) (bn : Bool) (xs : List Raw), (match bn with | true => some ([] : List Raw) | false => (appI b [] xs).bind fun zs => some zs) = interp V (rtOf V fn.results.toList [.sl E .raw] [] ()) c ann (fun r => some r) (fun _ _ => none) (rtOf V fn.results.toList [.sl E .raw] [] ()) ⟨[(0, 0, .one (.rdn ⟨0, []⟩ bn (.sl E' .raw) xs))], [], 1⟩) : CloneOk P k E b := by
  refine ⟨hen, fun E' J w0 v xs zs hrd happ => ?_⟩
  obtain ⟨bn, hbn⟩ : ∃ bn, isNilV v = bn := ⟨_, rfl⟩
  have hr : interp V (rtOf V fn.results.toList [.sl E .raw] [] ()) c ann (fun r => some r) (fun _ _ => none) (rtOf V fn.results.toList [.sl E .raw] [] ()) ⟨[(0, 0, .one (.rdn ⟨0, []⟩ bn (.sl E' .raw) xs))], [], 1⟩ = some zs := by
    rw [← hmod E' bn xs]
    cases bn with
    | false =>
      show (appI b [] xs).bind _ = _
      rw [happ]; rfl
    | true =>
      obtain ⟨h1, -⟩ := appI_nil happ
      obtain ⟨ao, cap, e, -, hx⟩ := hrd
      obtain rfl : v = .slice ao xs.length cap := by simpa using e
      rcases hx with rfl | ⟨b, off, ccs, t, fr, rfl, -⟩
      · rw [h1]; rfl
      · cases hbn
  let θ : Th := fun _ => v
  have key : Con P k #[v] J w0 [] (resFa [.sl E .raw]) (fun v => resGv [.sl E .raw] (zs, ()) v ++ []) := by
    refine con_of_wp' (n := V.n) [(0, v)] hf hb hn hm (fun p hp => by obtain rfl := List.mem_singleton.1 hp; rfl) (fun F w a hA hst => ?_) (fun u => resGv_back (D := []) trivial [.sl E .raw] (zs, ()) rfl)
    have hfine : Fine P w0 J θ ⟨[(0, 0, .one (.rdn ⟨0, []⟩ bn (.sl E' .raw) xs))], [], 1⟩ := ⟨fun e he => by obtain rfl := List.mem_singleton.1 he; exact ⟨Nat.one_pos, hrd, hbn⟩, fun e he => by obtain rfl := List.mem_singleton.1 he; exact Nat.one_pos, List.pairwise_singleton _ _, fun e he => by cases he⟩
    have hS : Sim P J w0 F V.n J θ ⟨[(0, 0, .one (.rdn ⟨0, []⟩ bn (.sl E' .raw) xs))], [], 1⟩ a w := ⟨Hp.le.rfl, hA, hst, hfine⟩
    have fin := ret_ok (V := V) (θ := θ) (J := J) (w0 := w0) (rs := [.sl E .raw]) (ps := []) (d := ()) (vs := []) (s0 := ⟨[(0, 0, .one (.rdn ⟨0, []⟩ bn (.sl E' .raw) xs))], [], 1⟩) (fn := fn) (F := F) hT rfl trivial (Nat.zero_le _)
    exact (interp_both (I := J) (w0 := w0) (F := F) hT hF hmx c).1 ann hr hS (fun J' θ' s' a' w' hk S' hJ hFr => fin _ J' θ' s' a' w' hk S' hJ hFr) (fun i J' θ' s' a' w' hk => by cases hk) (fun r' J' θ' s' a' w' hrt hrr hS' hJ hFr => by
      obtain rfl := Option.some.inj hrr
      exact fin _ J' θ' s' a' w' hrt hS' hJ hFr)
  exact fun w C hs => (key w C hs).mono fun e w' ⟨v, h1, h2, h3⟩ => ⟨v, h1, trivial, h3⟩
theorem fok_none {P : Program} {k : FuncId} {f : FS} (h : Enters P k) (hc : f.cl = none) (hm : ∀ d, appP f.ps f.m d = none) : FOk P k f :=
  ⟨fun q hq => by (rw [hc] at hq; cases hq), h, fun _ _ _ d r _ hr => by rw [hm d] at hr; cases hr⟩
theorem fok_clone {P : Program} {k : FuncId} {f : FS} {E b : Nat} (h : FOk P k ⟨f.ps, f.rs, f.m, none⟩) (hc : CloneOk P k E b) : FOk P k ⟨f.ps, f.rs, f.m, some (E, b)⟩ :=
  ⟨fun q hq => by obtain rfl := Option.some.inj hq; exact hc, h.en, h.con⟩
end Go.Proofs.Ytofopdbnkafljaa.R
/- Types: how the entries of a table are laid. No program text is named here. -/
set_option linter.unusedVariables false
set_option linter.unusedSimpArgs false
namespace Go.Proofs.Ytofopdbnkafljaa.R
open Go.RowKit
open Go.Proofs.Ytofopdbnkafljaa.D

def FldAll (P : Program) (T : TypeId) : Nat → List (Nat × Nat) → Prop
  | _, [] => True
  | i, q :: l => TF P T i q.1 q.2 ∧ FldAll P T (i + 1) l
theorem FldAll.get {P : Program} {T : TypeId} : ∀ {l : List (Nat × Nat)} {i : Nat}, FldAll P T i l → ∀ f q, l[f]? = some q → TF P T (i + f) q.1 q.2
  | [], _, _, f, q, h => by simp at h
  | x :: l, i, ⟨h1, h2⟩, f, q, h => by
    cases f with
    | zero => simp at h; subst h; exact h1
    | succ f =>
      have := FldAll.get h2 f q (by simpa using h)
      rwa [show i + 1 + f = i + (f + 1) from by omega] at this
section
variable {P : Program} {T : TypeId}
/-- a plain type -/
theorem td_flat {n b : Nat} {ty : Ty} {z : Value} {boo : Bool} {ik : Option (Option IntKind)} (h1 : TI P T false 1) (h2 : ty.size = 1) (h3 : TZ P T z 1 b) (h4 : z.cells = (zeroCells ty).toArray) (h5 : 1 ≤ b) (h6 : boo = true → P.underlying T = some .bool) (h7 : ∀ k, ik = some k → P.underlying T = some (ikD k)) : TDok P T ⟨false, 1, none, ty, [], some b, none, boo, none, none, ik, false, none⟩ :=
  ⟨h1, rfl, h2, fun E h => by simp at h, fun f q h => by simp at h, fun b' h => by obtain rfl := Option.some.inj h; exact ⟨z, h3, h4, h5⟩, fun pl h => by simp at h, h6, (fun ks h => by cases h), (fun m h => by cases h), h7, (fun h => by cases h), fun e h => by cases h⟩
theorem td_sl {E : TypeId} {t : Ty} (h1 : TI P T false 1) (h2 : P.underlying T = some (.slice E)) (h3 : TZ P T (.slice none 0 0) 1 24) : TDok P T ⟨false, 1, some E, .sl E t, [], some 24, none, false, none, none, none, false, none⟩ :=
  ⟨h1, rfl, rfl, fun E' h => by obtain rfl := Option.some.inj h; exact h2, fun f q h => by simp at h, fun b' h => by obtain rfl := Option.some.inj h; exact ⟨_, h3, rfl, by decide⟩, fun pl h => by simp at h, (fun h => by cases h), (fun ks h => by cases h), (fun m h => by cases h), (fun k h => by cases h), (fun h => by cases h), fun e h => by cases h⟩
theorem td_st {n b : Nat} {ty : Ty} {fs pl : List (Nat × Nat)} {z : Value} {eq : Option (List (Option IntKind))} (h1 : TI P T true n) (h2 : ty.size = n) (h3 : FldAll P T 0 fs) (h4 : TZ P T z n b) (h5 : z.cells = (zeroCells ty).toArray) (h6 : 1 ≤ b) (h7 : TB P T pl) (h8 : ∀ ks, eq = some ks → ∀ w, Curq ks fun xs ys r => EqT P T (.agg xs.toArray) (.agg ys.toArray) r w) : TDok P T ⟨true, n, none, ty, fs, some b, some pl, false, eq, none, none, false, none⟩ :=
  ⟨h1, rfl, h2, fun E h => by simp at h, fun f q h => by have := h3.get f q h; rwa [Nat.zero_add] at this, fun b' h => by obtain rfl := Option.some.inj h; exact ⟨z, h4, h5, h6⟩, fun pl' h => by obtain rfl := Option.some.inj h; exact h7, (fun h => by cases h), h8, (fun m h => by cases h), (fun k h => by cases h), (fun h => by cases h), fun e h => by cases h⟩
/-- a function: moved and kept, no more -/
theorem td_fn {ty : Ty} {b : Nat} (h1 : TI P T false 1) (h2 : ty.size = 1) (h3 : TZ P T .nilFunc 1 b) : TDok P T ⟨false, 1, none, ty, [], none, none, false, none, none, none, true, none⟩ :=
  ⟨h1, rfl, h2, fun E h => by simp at h, fun f q h => by simp at h, (fun b' h => by cases h), (fun pl h => by cases h), (fun h => by cases h), (fun ks h => by cases h), (fun m' h => by cases h), (fun k h => by cases h), (fun _ => ⟨b, h3⟩), fun e h => by cases h⟩
/-- a map: only its own operations -/
theorem td_mp {m : MD} {ty : Ty} (h1 : TI P T false 1) (h2 : ty.size = 1) (h3 : MDok P T m) : TDok P T ⟨false, 1, none, ty, [], none, none, false, none, some m, none, false, none⟩ :=
  ⟨h1, rfl, h2, fun E h => by simp at h, fun f q h => by simp at h, (fun b' h => by cases h), (fun pl h => by cases h), (fun h => by cases h), (fun ks h => by cases h), (fun m' h => by obtain rfl := Option.some.inj h; exact h3), (fun k h => by cases h), (fun h => by cases h), fun e h => by cases h⟩
/-- a pointer to a tree -/
theorem td_pt {e E : TypeId} {u : Ty} (h1 : TI P T false 1) (h2 : P.underlying T = some (.pointer e)) (h3 : TZ P T (.pointer none) 1 8) : TDok P T ⟨false, 1, none, .fro (.tree e E u), [], some 8, none, false, none, none, none, false, some e⟩ :=
  ⟨h1, rfl, rfl, fun E' h => by simp at h, fun f q h => by simp at h, fun b' h => by obtain rfl := Option.some.inj h; exact ⟨_, h3, rfl, by decide⟩, fun pl h => by simp at h, (fun h => by cases h), (fun ks h => by cases h), (fun m h => by cases h), (fun k h => by cases h), (fun h => by cases h), fun e' h => by obtain rfl := Option.some.inj h; exact h2⟩
end
end Go.Proofs.Ytofopdbnkafljaa.R
/- Printed by lp.py: what the functions compute, as data. -/
set_option linter.unusedVariables false
set_option maxRecDepth 1000000
namespace Go.Proofs.Ytofopdbnkafljaa.D
open Go.RowKit
def m_w_szTokenS (p0a : List (Int × Int × Int × Int)) (p1left : Int) : Option Int :=
  if decide (IntKind.i64.wrap (p1left - (p0a.length : Int)) < 0) then (some (-1)) else (some (IntKind.i64.wrap (p1left - (p0a.length : Int))))
def m_w_szExpr (p0a : (List (Int × Int × Int × Int))) (p1left : Int) : Option Int :=
  (m_w_szTokenS p0a p1left).bind fun r1 => if decide (r1 < 0) then (some (-1)) else (some r1)
def m_s_l1In (p0x : Int) (p1low : Int) (p2high : Int) : Option Bool :=
  if decide (p0x ≥ p1low) then (some (decide (p0x ≤ p2high))) else (some false)
def m_s_l2Letter (p0n : Int) : Option Bool :=
  (m_s_l1In p0n 0 8).bind fun r1 => some r1
def m_s_l8Arity (p0 : Int × Int × Int × Int) : Option Int :=
  Option.bind ((if p0.1 == 1 then (some (p0.1 == 1)) else (some (p0.1 == 2)) : Option Bool)) (fun s1 => if s1 then (if p0.2.1 != 0 then (some (-1)) else (if p0.2.2.1 != 0 then (some (-1)) else (if p0.2.2.2 != 0 then (some (-1)) else (some 0)))) else (if p0.1 == 3 then ((m_s_l2Letter p0.2.1).bind fun r3 => if r3 then (if p0.2.2.1 != 0 then (some (-1)) else (if p0.2.2.2 != 0 then (some (-1)) else (some 0))) else (some (-1))) else (Option.bind ((if p0.1 == 4 then (some (p0.1 == 4)) else (some (p0.1 == 5)) : Option Bool)) (fun s2 => if s2 then (if p0.2.1 != 0 then (some (-1)) else (if p0.2.2.1 != 0 then (some (-1)) else (if p0.2.2.2 != 0 then (some (-1)) else (some 2)))) else (if p0.1 == 6 then (if p0.2.1 != 0 then (some (-1)) else (if p0.2.2.1 != 0 then (some (-1)) else (if p0.2.2.2 != 0 then (some (-1)) else (some 1)))) else (if p0.1 == 7 then (if p0.2.1 != 0 then (some (-1)) else ((m_s_l1In p0.2.2.2 1 3).bind fun r1 => if r1 then ((m_s_l1In p0.2.2.1 0 p0.2.2.2).bind fun r2 => if r2 then (some 1) else (some (-1))) else (some (-1)))) else (some (-1))))))))
def m_s_IsExpr_l0 (p0e : (List (Int × Int × Int × Int))) (s3 : Int × Int) : Option (Out Bool (Int × Int)) :=
  if decide (s3.2 < (p0e.length : Int)) then ((getI p0e s3.2).bind fun x3 => (m_s_l8Arity (x3.1, x3.2.1, x3.2.2.1, x3.2.2.2)).bind fun r3 => if decide (r3 < 0) then (some (.ret false)) else (if decide (r3 > s3.1) then (some (.ret false)) else (some (.nxt (IntKind.i64.wrap ((IntKind.i64.wrap (s3.1 - r3)) + 1), IntKind.i64.wrap (s3.2 + 1)))))) else (some (.brk (s3.1, s3.2)))
def m_s_IsExpr (p0e : (List (Int × Int × Int × Int))) : Option Bool :=
  bindL (loopM (m_s_IsExpr_l0 p0e) FUEL (0, 0)) (fun r => some r) (fun s4 => some (s4.1 == 1))
def m_s_IsValidExpr (p0e : (List (Int × Int × Int × Int))) : Option Bool :=
  if decide ((p0e.length : Int) ≤ 24) then ((m_s_IsExpr p0e).bind fun r1 => some r1) else (some false)
def m_s_l8Start_l0 (p0l : List (Int × Int × Int × Int)) (s3 : Int × Int) : Option (Out Int (Int × Int)) :=
  if decide (s3.1 > 0) then ((getI p0l (IntKind.i64.wrap (s3.2 - 1))).bind fun x3 => (m_s_l8Arity (x3.1, x3.2.1, x3.2.2.1, x3.2.2.2)).bind fun r3 => some (.nxt (IntKind.i64.wrap ((IntKind.i64.wrap (s3.1 - 1)) + r3), IntKind.i64.wrap (s3.2 - 1)))) else (some (.brk (s3.1, s3.2)))
def m_s_l8Start (p0l : List (Int × Int × Int × Int)) : Option Int :=
  bindL (loopM (m_s_l8Start_l0 p0l) FUEL (1, (p0l.length : Int))) (fun r => some r) (fun s4 => some s4.2)
def m_s_l10Size : Nat → (List (Int × Int × Int × Int)) → Option Int
  | 0, _ => none
  | n + 1, p0l =>
    (getI p0l (IntKind.i64.wrap ((p0l.length : Int) - 1))).bind fun x0 => Option.bind ((if x0.1 == 4 then (some (x0.1 == 4)) else (some (x0.1 == 5)) : Option Bool)) (fun s1 => if s1 then ((chk (And (0 ≤ (IntKind.i64.wrap ((p0l.length : Int) - 1))) ((IntKind.i64.wrap ((p0l.length : Int) - 1)) ≤ (p0l.length : Int)))).bind fun _ => (m_s_l8Start (p0l.take ((IntKind.i64.wrap ((p0l.length : Int) - 1)).toNat))).bind fun r3 => (chk (And (0 ≤ r3) (r3 ≤ (p0l.length : Int)))).bind fun _ => ((m_s_l10Size n) (p0l.take r3.toNat)).bind fun r5 => (chk (And (0 ≤ r3) (And (r3 ≤ (IntKind.i64.wrap ((p0l.length : Int) - 1))) ((IntKind.i64.wrap ((p0l.length : Int) - 1)) ≤ (p0l.length : Int))))).bind fun _ => ((m_s_l10Size n) ((p0l.take ((IntKind.i64.wrap ((p0l.length : Int) - 1)).toNat)).drop r3.toNat)).bind fun r7 => some (Min.min 100000 (IntKind.i64.wrap ((IntKind.i64.wrap (r5 + r7)) + 1)))) else (if x0.1 == 6 then ((chk (And (0 ≤ (IntKind.i64.wrap ((p0l.length : Int) - 1))) ((IntKind.i64.wrap ((p0l.length : Int) - 1)) ≤ (p0l.length : Int)))).bind fun _ => ((m_s_l10Size n) (p0l.take ((IntKind.i64.wrap ((p0l.length : Int) - 1)).toNat))).bind fun r9 => some (Min.min 100000 (IntKind.i64.wrap (r9 + 1)))) else (if x0.1 == 7 then ((chk (And (0 ≤ (IntKind.i64.wrap ((p0l.length : Int) - 1))) ((IntKind.i64.wrap ((p0l.length : Int) - 1)) ≤ (p0l.length : Int)))).bind fun _ => ((m_s_l10Size n) (p0l.take ((IntKind.i64.wrap ((p0l.length : Int) - 1)).toNat))).bind fun r11 => some (Min.min 100000 (IntKind.i64.wrap ((IntKind.i64.wrap ((IntKind.i64.wrap (r11 + 3)) * x0.2.2.2)) + 1)))) else (some 1))))
def m_s_l8Copy (p0l : List (Int × Int × Int × Int)) : Option (List (Int × Int × Int × Int)) :=
  (appI 32 ([] : List (Int × Int × Int × Int)) p0l).bind fun z1 => some z1
def m_s_l8Join (p0a : (List (Int × Int × Int × Int))) (p1b : (List (Int × Int × Int × Int))) (p2t : Int × Int × Int × Int) : Option (List (Int × Int × Int × Int)) :=
  (m_s_l8Copy p0a).bind fun r1 => (appI 32 r1 p1b).bind fun z1 => (appI 32 z1 ([(p2t.1, p2t.2.1, p2t.2.2.1, p2t.2.2.2)])).bind fun z2 => some z2
def m_s_l8Leaf (p0kind : Int) : Option (List (Int × Int × Int × Int)) :=
  some ([(p0kind, 0, 0, 0)])
def m_s_l10Times : Nat → (List (Int × Int × Int × Int)) → Int → Int → Option (List (Int × Int × Int × Int))
  | 0, _, _, _ => none
  | n + 1, p0e, p1low, p2high =>
    if p2high == 0 then ((m_s_l8Leaf 2).bind fun r0 => some r0) else (((m_s_l10Times n) p0e (Max.max 0 (IntKind.i64.wrap (p1low - 1))) (IntKind.i64.wrap (p2high - 1))).bind fun r1 => (m_s_l8Join p0e r1 (4, 0, 0, 0)).bind fun r2 => if decide (p1low > 0) then (some r2) else ((m_s_l8Leaf 2).bind fun r3 => (m_s_l8Join r2 r3 (5, 0, 0, 0)).bind fun r4 => some r4))
def m_s_l10Expand : Nat → (List (Int × Int × Int × Int)) → Option (List (Int × Int × Int × Int))
  | 0, _ => none
  | n + 1, p0l =>
    (getI p0l (IntKind.i64.wrap ((p0l.length : Int) - 1))).bind fun x0 => Option.bind ((if x0.1 == 4 then (some (x0.1 == 4)) else (some (x0.1 == 5)) : Option Bool)) (fun s1 => if s1 then ((chk (And (0 ≤ (IntKind.i64.wrap ((p0l.length : Int) - 1))) ((IntKind.i64.wrap ((p0l.length : Int) - 1)) ≤ (p0l.length : Int)))).bind fun _ => (m_s_l8Start (p0l.take ((IntKind.i64.wrap ((p0l.length : Int) - 1)).toNat))).bind fun r3 => (chk (And (0 ≤ r3) (r3 ≤ (p0l.length : Int)))).bind fun _ => ((m_s_l10Expand n) (p0l.take r3.toNat)).bind fun r5 => (chk (And (0 ≤ r3) (And (r3 ≤ (IntKind.i64.wrap ((p0l.length : Int) - 1))) ((IntKind.i64.wrap ((p0l.length : Int) - 1)) ≤ (p0l.length : Int))))).bind fun _ => ((m_s_l10Expand n) ((p0l.take ((IntKind.i64.wrap ((p0l.length : Int) - 1)).toNat)).drop r3.toNat)).bind fun r7 => (m_s_l8Join r5 r7 (x0.1, x0.2.1, x0.2.2.1, x0.2.2.2)).bind fun r8 => some r8) else (if x0.1 == 6 then ((chk (And (0 ≤ (IntKind.i64.wrap ((p0l.length : Int) - 1))) ((IntKind.i64.wrap ((p0l.length : Int) - 1)) ≤ (p0l.length : Int)))).bind fun _ => ((m_s_l10Expand n) (p0l.take ((IntKind.i64.wrap ((p0l.length : Int) - 1)).toNat))).bind fun r10 => (m_s_l8Join r10 ([] : List (Int × Int × Int × Int)) (x0.1, x0.2.1, x0.2.2.1, x0.2.2.2)).bind fun r11 => some r11) else (if x0.1 == 7 then ((chk (And (0 ≤ (IntKind.i64.wrap ((p0l.length : Int) - 1))) ((IntKind.i64.wrap ((p0l.length : Int) - 1)) ≤ (p0l.length : Int)))).bind fun _ => ((m_s_l10Expand n) (p0l.take ((IntKind.i64.wrap ((p0l.length : Int) - 1)).toNat))).bind fun r13 => (m_s_l10Times FUELR r13 x0.2.2.1 x0.2.2.2).bind fun r14 => some r14) else (some ([(x0.1, x0.2.1, x0.2.2.1, x0.2.2.2)])))))
def m_s_ExpandExpr (p0e : (List (Int × Int × Int × Int))) : Option (((List (Int × Int × Int × Int))) × Bool) :=
  (m_s_IsValidExpr p0e).bind fun r1 => if r1 then ((m_s_l10Size FUELR p0e).bind fun r2 => if decide (r2 > 5000) then (some ([], false)) else ((m_s_l10Expand FUELR p0e).bind fun r3 => if decide ((r3.length : Int) > 400) then (some ([], false)) else (some (r3, true)))) else (some ([], false))
def m_s_l10Link_l0 (p1from : Int) (p2to : Int) (s2 : Int × List Int) : Option (Out ((List Int) × Int × Int × (List Int) × Bool) (Int × List Int)) :=
  if decide (s2.1 < (s2.2.length : Int)) then (Option.bind (((chk (0 ≤ s2.1)).bind fun _ => if (andI (shrI p1from s2.1) 1) == 1 then ((getI s2.2 s2.1).bind fun x4 => (getI s2.2 s2.1).bind fun x5 => some (s2.2.set s2.1.toNat (orI x4 p2to))) else (some s2.2) : Option (List Int))) (fun s6 => some (.nxt (IntKind.i64.wrap (s2.1 + 1), s6)))) else (some (.brk (s2.1, s2.2)))
def m_s_l10Link (p0p : (List Int) × Int × Int × (List Int) × Bool) (p1from : Int) (p2to : Int) : Option ((List Int) × Int × Int × (List Int) × Bool) :=
  bindL (loopM (m_s_l10Link_l0 p1from p2to) FUEL (0, p0p.2.2.2.1)) (fun r7 => some r7) (fun s8 => some (p0p.1, p0p.2.1, p0p.2.2.1, s8.2, p0p.2.2.2.2))
def m_s_l10Build : Nat → ((List Int) × Int × Int × (List Int) × Bool) → (List (Int × Int × Int × Int)) → Option ((Bool × Int × Int) × (List Int) × Int × Int × (List Int) × Bool)
  | 0, _, _ => none
  | n + 1, p0, p1 =>
    (getI p1 (IntKind.i64.wrap ((p1.length : Int) - 1))).bind fun x0 => if x0.1 == 2 then (some ((true, 0, 0), p0.1, p0.2.1, p0.2.2.1, p0.2.2.2.1, p0.2.2.2.2)) else (if x0.1 == 3 then ((appI 8 p0.1 ([x0.2.1])).bind fun z1 => (appI 8 p0.2.2.2.1 ([0])).bind fun z2 => some ((false, shlI 1 (p0.1.length : Int), shlI 1 (p0.1.length : Int)), z1, p0.2.1, p0.2.2.1, z2, p0.2.2.2.2)) else (if x0.1 == 4 then ((chk (And (0 ≤ (IntKind.i64.wrap ((p1.length : Int) - 1))) ((IntKind.i64.wrap ((p1.length : Int) - 1)) ≤ (p1.length : Int)))).bind fun _ => (m_s_l8Start (p1.take ((IntKind.i64.wrap ((p1.length : Int) - 1)).toNat))).bind fun r4 => (chk (And (0 ≤ r4) (r4 ≤ (p1.length : Int)))).bind fun _ => ((m_s_l10Build n) (p0.1, p0.2.1, p0.2.2.1, p0.2.2.2.1, p0.2.2.2.2) (p1.take r4.toNat)).bind fun r6 => (chk (And (0 ≤ r4) (And (r4 ≤ (IntKind.i64.wrap ((p1.length : Int) - 1))) ((IntKind.i64.wrap ((p1.length : Int) - 1)) ≤ (p1.length : Int))))).bind fun _ => ((m_s_l10Build n) (r6.2.1, r6.2.2.1, r6.2.2.2.1, r6.2.2.2.2.1, r6.2.2.2.2.2) ((p1.take ((IntKind.i64.wrap ((p1.length : Int) - 1)).toNat)).drop r4.toNat)).bind fun r8 => (m_s_l10Link (r8.2.1, r8.2.2.1, r8.2.2.2.1, r8.2.2.2.2.1, r8.2.2.2.2.2) r6.1.2.2 r8.1.2.1).bind fun r9 => if r6.1.1 then (Option.bind ((if r6.1.1 then (some (r8.1.1, orI r6.1.2.1 r8.1.2.1, r8.1.2.2)) else (some (r8.1.1, r6.1.2.1, r8.1.2.2)) : Option (Bool × Int × Int))) (fun s10 => Option.bind ((if r8.1.1 then (some (s10.1, s10.2.1, orI r6.1.2.2 r8.1.2.2)) else (some (s10.1, s10.2.1, s10.2.2)) : Option (Bool × Int × Int))) (fun s11 => some ((s11.1, s11.2.1, s11.2.2), r9.1, r9.2.1, r9.2.2.1, r9.2.2.2.1, r9.2.2.2.2)))) else (Option.bind ((if r6.1.1 then (some (false, orI r6.1.2.1 r8.1.2.1, r8.1.2.2)) else (some (false, r6.1.2.1, r8.1.2.2)) : Option (Bool × Int × Int))) (fun s12 => Option.bind ((if r8.1.1 then (some (s12.1, s12.2.1, orI r6.1.2.2 r8.1.2.2)) else (some (s12.1, s12.2.1, s12.2.2)) : Option (Bool × Int × Int))) (fun s13 => some ((s13.1, s13.2.1, s13.2.2), r9.1, r9.2.1, r9.2.2.1, r9.2.2.2.1, r9.2.2.2.2))))) else (if x0.1 == 5 then ((chk (And (0 ≤ (IntKind.i64.wrap ((p1.length : Int) - 1))) ((IntKind.i64.wrap ((p1.length : Int) - 1)) ≤ (p1.length : Int)))).bind fun _ => (m_s_l8Start (p1.take ((IntKind.i64.wrap ((p1.length : Int) - 1)).toNat))).bind fun r15 => (chk (And (0 ≤ r15) (r15 ≤ (p1.length : Int)))).bind fun _ => ((m_s_l10Build n) (p0.1, p0.2.1, p0.2.2.1, p0.2.2.2.1, p0.2.2.2.2) (p1.take r15.toNat)).bind fun r17 => (chk (And (0 ≤ r15) (And (r15 ≤ (IntKind.i64.wrap ((p1.length : Int) - 1))) ((IntKind.i64.wrap ((p1.length : Int) - 1)) ≤ (p1.length : Int))))).bind fun _ => ((m_s_l10Build n) (r17.2.1, r17.2.2.1, r17.2.2.2.1, r17.2.2.2.2.1, r17.2.2.2.2.2) ((p1.take ((IntKind.i64.wrap ((p1.length : Int) - 1)).toNat)).drop r15.toNat)).bind fun r19 => if r17.1.1 then (some ((true, orI r17.1.2.1 r19.1.2.1, orI r17.1.2.2 r19.1.2.2), r19.2.1, r19.2.2.1, r19.2.2.2.1, r19.2.2.2.2.1, r19.2.2.2.2.2)) else (some ((r19.1.1, orI r17.1.2.1 r19.1.2.1, orI r17.1.2.2 r19.1.2.2), r19.2.1, r19.2.2.1, r19.2.2.2.1, r19.2.2.2.2.1, r19.2.2.2.2.2))) else (if x0.1 == 6 then ((chk (And (0 ≤ (IntKind.i64.wrap ((p1.length : Int) - 1))) ((IntKind.i64.wrap ((p1.length : Int) - 1)) ≤ (p1.length : Int)))).bind fun _ => ((m_s_l10Build n) (p0.1, p0.2.1, p0.2.2.1, p0.2.2.2.1, p0.2.2.2.2) (p1.take ((IntKind.i64.wrap ((p1.length : Int) - 1)).toNat))).bind fun r21 => (m_s_l10Link (r21.2.1, r21.2.2.1, r21.2.2.2.1, r21.2.2.2.2.1, r21.2.2.2.2.2) r21.1.2.2 r21.1.2.1).bind fun r22 => some ((true, r21.1.2.1, r21.1.2.2), r22.1, r22.2.1, r22.2.2.1, r22.2.2.2.1, r22.2.2.2.2)) else (some ((false, 0, 0), p0.1, p0.2.1, p0.2.2.1, p0.2.2.2.1, p0.2.2.2.2))))))
def m_s_BuildPositions_l0 (r0 : (List (Int × Int × Int × Int)) × Bool) (s2 : Int × Int) : Option (Out (((List Int) × Int × Int × (List Int) × Bool) × Bool) (Int × Int)) :=
  if decide (s2.2 < (r0.1.length : Int)) then (Option.bind (((getI r0.1 s2.2).bind fun x3 => if x3.1 == 3 then (some (IntKind.i64.wrap (s2.1 + 1))) else (some s2.1) : Option Int)) (fun s4 => some (.nxt (s4, IntKind.i64.wrap (s2.2 + 1))))) else (some (.brk (s2.1, s2.2)))
def m_s_BuildPositions (p0e : List (Int × Int × Int × Int)) : Option (((List Int) × Int × Int × (List Int) × Bool) × Bool) :=
  (m_s_ExpandExpr p0e).bind fun r0 => if r0.2 then (bindL (loopM (m_s_BuildPositions_l0 r0) FUEL (0, 0)) (fun r5 => some r5) (fun s6 => if decide (s6.1 > 20) then (some ((([] : List Int), 0, 0, ([] : List Int), false), false)) else ((m_s_l10Build FUELR (([] : List Int), 0, 0, ([] : List Int), false) r0.1).bind fun r7 => some ((r7.2.1, r7.1.2.1, r7.1.2.2, r7.2.2.2.2.1, r7.1.1), true)))) else (some ((([] : List Int), 0, 0, ([] : List Int), false), false))
def m_s_l10After_l0 (p0p : (List Int) × Int × Int × (List Int) × Bool) (p1set : Int) (s6 : Int × Int) : Option (Out Int (Int × Int)) :=
  if decide (s6.2 < (p0p.1.length : Int)) then (Option.bind (((chk (0 ≤ IntKind.i64.wrap (s6.2 + 1))).bind fun _ => if (andI (shrI p1set (IntKind.i64.wrap (s6.2 + 1))) 1) == 1 then ((getI p0p.2.2.2.1 s6.2).bind fun x6 => some (orI s6.1 x6)) else (some s6.1) : Option Int)) (fun s8 => some (.nxt (s8, IntKind.i64.wrap (s6.2 + 1))))) else (some (.brk (s6.1, s6.2)))
def m_s_l10After_l1 (p0p : (List Int) × Int × Int × (List Int) × Bool) (p2letter : Int) (s7 : Int × Int) (s13 : Int × Int) : Option (Out Int (Int × Int)) :=
  if decide (s13.2 < (p0p.1.length : Int)) then (Option.bind (((chk (0 ≤ s13.2)).bind fun _ => if (andI (shrI s7.1 s13.2) 1) == 1 then ((getI p0p.1 s13.2).bind fun x12 => if x12 == p2letter then ((chk (0 ≤ IntKind.i64.wrap (s13.2 + 1))).bind fun _ => some (orI s13.1 (shlI 1 (IntKind.i64.wrap (s13.2 + 1))))) else (some s13.1)) else (some s13.1) : Option Int)) (fun s15 => some (.nxt (s15, IntKind.i64.wrap (s13.2 + 1))))) else (some (.brk (s13.1, s13.2)))
def m_s_l10After (p0p : (List Int) × Int × Int × (List Int) × Bool) (p1set : Int) (p2letter : Int) : Option Int :=
  Option.bind ((if (andI p1set 1) == 1 then (some p0p.2.1) else (some 0) : Option Int)) (fun s1 => bindL (loopM (m_s_l10After_l0 p0p p1set) FUEL (s1, 0)) (fun r => some r) (fun s7 => bindL (loopM (m_s_l10After_l1 p0p p2letter s7) FUEL (0, 0)) (fun r => some r) (fun s14 => some s14.1)))
def m_s_l11Find_l0 (p0l : List Int) (p1x : Int) (s3 : Int) : Option (Out Int Int) :=
  if decide (s3 < (p0l.length : Int)) then ((getI p0l s3).bind fun x3 => if x3 == p1x then (some (.ret s3)) else (some (.nxt (IntKind.i64.wrap (s3 + 1))))) else (some (.brk s3))
def m_s_l11Find (p0l : List Int) (p1x : Int) : Option Int :=
  bindL (loopM (m_s_l11Find_l0 p0l p1x) FUEL 0) (fun r => some r) (fun s4 => some (-1))
def m_s_l10Accepts (p0p : (List Int) × Int × Int × (List Int) × Bool) (p1set : Int) : Option Bool :=
  if (andI p1set 1) == 1 then (if p0p.2.2.2.2 then (some true) else (some ((andI (shrI p1set 1) p0p.2.2.1) != 0))) else (some ((andI (shrI p1set 1) p0p.2.2.1) != 0))
def m_s_l11Subsets_l1 (p0 : (List Int) × Int × Int × (List Int) × Bool) (s17 : (List Int) × Int × Int × (List Bool) × (List (List Int))) (s23 : (List Int) × (List Int) × Int) : Option (Out ((Int × (List Bool) × (List (List Int))) × Bool) ((List Int) × (List Int) × Int)) :=
  if decide (s23.2.2 < 9) then ((getI s23.1 s17.2.1).bind fun x11 => (m_s_l10After (p0.1, p0.2.1, p0.2.2.1, p0.2.2.2.1, p0.2.2.2.2) x11 s23.2.2).bind fun r27 => Option.bind ((if r27 != 0 then ((m_s_l11Find s23.1 r27).bind fun r29 => if decide (r29 < 0) then ((appI 8 s23.1 ([r27])).bind fun z30 => some (z30, (s23.1.length : Int))) else (some (s23.1, r29))) else (some (s23.1, -1)) : Option ((List Int) × Int))) (fun s25 => (appI 8 s23.2.1 ([s25.2])).bind fun z31 => some (.nxt (s25.1, z31, IntKind.i64.wrap (s23.2.2 + 1))))) else (some (.brk (s23.1, s23.2.1, s23.2.2)))
def m_s_l11Subsets_l0 (p0 : (List Int) × Int × Int × (List Int) × Bool) (p1 : Int) (s17 : (List Int) × Int × Int × (List Bool) × (List (List Int))) : Option (Out ((Int × (List Bool) × (List (List Int))) × Bool) ((List Int) × Int × Int × (List Bool) × (List (List Int)))) :=
  if decide (s17.2.1 < (s17.1.length : Int)) then (bindL (loopM (m_s_l11Subsets_l1 p0 s17) FUEL (s17.1, ([] : List Int), 0)) (fun r => some (.ret r)) (fun s24 => if decide ((s24.1.length : Int) > p1) then (some (.ret ((0, [], []), false))) else ((getI s24.1 s17.2.1).bind fun x12 => (m_s_l10Accepts (p0.1, p0.2.1, p0.2.2.1, p0.2.2.2.1, p0.2.2.2.2) x12).bind fun r30 => (appI 1 s17.2.2.2.1 ([r30])).bind fun z32 => (appI 24 s17.2.2.2.2 ([s24.2.1])).bind fun z33 => some (.nxt (s24.1, IntKind.i64.wrap (s17.2.1 + 1), s17.2.2.1, z32, z33))))) else (some (.brk (s17.1, s17.2.1, s17.2.2.1, s17.2.2.2.1, s17.2.2.2.2)))
def m_s_l11Subsets (p0 : (List Int) × Int × Int × (List Int) × Bool) (p1 : Int) : Option ((Int × (List Bool) × (List (List Int))) × Bool) :=
  bindL (loopM (m_s_l11Subsets_l0 p0 p1) FUEL ([1], 0, 0, [], [])) (fun r => some r) (fun s18 => some ((s18.2.2.1, s18.2.2.2.1, s18.2.2.2.2), true))
def m_s_l11Nothing_l0 (s3 : (List Int) × Int) : Option (Out (Int × (List Bool) × (List (List Int))) ((List Int) × Int)) :=
  if decide (s3.2 < 9) then ((appI 8 s3.1 ([-1])).bind fun z3 => some (.nxt (z3, IntKind.i64.wrap (s3.2 + 1)))) else (some (.brk (s3.1, s3.2)))
def m_s_l11Nothing : Option (Int × (List Bool) × (List (List Int))) :=
  bindL (loopM (m_s_l11Nothing_l0) FUEL (([] : List Int), 0)) (fun r => some r) (fun s4 => some (0, [false], [s4.1]))
def m_s_l11Number_l1 (p0 : Int × (List Bool) × (List (List Int))) (p1 : List Int) (p2 : List Bool) (s17 : (List Int) × (List Int) × Int × Int × (List Bool) × (List (List Int))) (s23 : (List Int) × (List Int) × (List Int) × Int) : Option (Out (Int × (List Bool) × (List (List Int))) ((List Int) × (List Int) × (List Int) × Int)) :=
  if decide (s23.2.2.2 < 9) then ((getI s23.2.1 s17.2.2.1).bind fun x79 => (getI p0.2.2 x79).bind fun x80 => (getI x80 s23.2.2.2).bind fun x81 => Option.bind ((if decide (x81 ≥ 0) then ((getI p2 x81).bind fun x85 => if x85 then ((getI p1 x81).bind fun x86 => (m_s_l11Find s23.1 x86).bind fun r28 => if decide (r28 < 0) then ((getI p1 x81).bind fun x87 => (appI 8 s23.1 ([x87])).bind fun z47 => (appI 8 s23.2.1 ([x81])).bind fun z48 => some (z47, z48, (s23.1.length : Int))) else (some (s23.1, s23.2.1, r28))) else (some (s23.1, s23.2.1, -1))) else (some (s23.1, s23.2.1, -1)) : Option ((List Int) × (List Int) × Int))) (fun s25 => (appI 8 s23.2.2.1 ([s25.2.2])).bind fun z49 => some (.nxt (s25.1, s25.2.1, z49, IntKind.i64.wrap (s23.2.2.2 + 1))))) else (some (.brk (s23.1, s23.2.1, s23.2.2.1, s23.2.2.2)))
def m_s_l11Number_l0 (p0 : Int × (List Bool) × (List (List Int))) (p1 : List Int) (p2 : List Bool) (s17 : (List Int) × (List Int) × Int × Int × (List Bool) × (List (List Int))) : Option (Out (Int × (List Bool) × (List (List Int))) ((List Int) × (List Int) × Int × Int × (List Bool) × (List (List Int)))) :=
  if decide (s17.2.2.1 < (s17.1.length : Int)) then (bindL (loopM (m_s_l11Number_l1 p0 p1 p2 s17) FUEL (s17.1, s17.2.1, ([] : List Int), 0)) (fun r => some (.ret r)) (fun s24 => (getI s24.2.1 s17.2.2.1).bind fun x88 => (getI p0.2.1 x88).bind fun x89 => (appI 1 s17.2.2.2.2.1 ([x89])).bind fun z50 => (appI 24 s17.2.2.2.2.2 ([s24.2.2.1])).bind fun z51 => some (.nxt (s24.1, s24.2.1, IntKind.i64.wrap (s17.2.2.1 + 1), s17.2.2.2.1, z50, z51)))) else (some (.brk (s17.1, s17.2.1, s17.2.2.1, s17.2.2.2.1, s17.2.2.2.2.1, s17.2.2.2.2.2)))
def m_s_l11Number (p0 : Int × (List Bool) × (List (List Int))) (p1 : List Int) (p2 : List Bool) : Option (Int × (List Bool) × (List (List Int))) :=
  (getI p2 p0.1).bind fun x1 => if x1 then ((getI p1 p0.1).bind fun x2 => bindL (loopM (m_s_l11Number_l0 p0 p1 p2) FUEL ([x2], [p0.1], 0, 0, [], [])) (fun r => some r) (fun s18 => some (s18.2.2.2.1, s18.2.2.2.2.1, s18.2.2.2.2.2))) else ((m_s_l11Nothing ).bind fun r1 => some (r1.1, r1.2.1, r1.2.2))
def m_s_l11Live_l2 (p0a : Int × (List Bool) × (List (List Int))) (s71 : (List Bool) × Int) (s77 : (List Bool) × Int) : Option (Out (List Bool) ((List Bool) × Int)) :=
  if decide (s77.2 < 9) then (Option.bind (((getI p0a.2.2 s71.2).bind fun x319 => (getI x319 s77.2).bind fun x320 => if decide (x320 ≥ 0) then ((getI p0a.2.2 s71.2).bind fun x321 => (getI x321 s77.2).bind fun x322 => (getI s77.1 x322).bind fun x323 => if x323 then ((getI s77.1 s71.2).bind fun x324 => some (s77.1.set s71.2.toNat true)) else (some s77.1)) else (some s77.1) : Option (List Bool))) (fun s79 => some (.nxt (s79, IntKind.i64.wrap (s77.2 + 1))))) else (some (.brk (s77.1, s77.2)))
def m_s_l11Live_l1 (p0a : Int × (List Bool) × (List (List Int))) (s71 : (List Bool) × Int) : Option (Out (List Bool) ((List Bool) × Int)) :=
  if decide (s71.2 < (p0a.2.1.length : Int)) then (bindL (loopM (m_s_l11Live_l2 p0a s71) FUEL (s71.1, 0)) (fun r => some (.ret r)) (fun s78 => some (.nxt (s78.1, IntKind.i64.wrap (s71.2 + 1))))) else (some (.brk (s71.1, s71.2)))
def m_s_l11Live_l0 (p0a : Int × (List Bool) × (List (List Int))) (s53 : (List Bool) × Int) : Option (Out (List Bool) ((List Bool) × Int)) :=
  if decide (s53.2 < (p0a.2.1.length : Int)) then (bindL (loopM (m_s_l11Live_l1 p0a) FUEL (s53.1, 0)) (fun r => some (.ret r)) (fun s72 => some (.nxt (s72.1, IntKind.i64.wrap (s53.2 + 1))))) else (some (.brk (s53.1, s53.2)))
def m_s_l11Live (p0a : Int × (List Bool) × (List (List Int))) : Option (List Bool) :=
  (appI 1 ([] : List Bool) p0a.2.1).bind fun z1 => bindL (loopM (m_s_l11Live_l0 p0a) FUEL (z1, 0)) (fun r => some r) (fun s54 => some s54.1)
def m_s_l12Key_l0 (p0a : Int × (List Bool) × (List (List Int))) (p1classes : List Int) (p2s : Int) (s5 : (List Int) × Int) : Option (Out (List Int) ((List Int) × Int)) :=
  if decide (s5.2 < 9) then (Option.bind (((getI p0a.2.2 p2s).bind fun x17 => (getI x17 s5.2).bind fun x18 => if decide (x18 < 0) then ((appI 8 s5.1 ([-1])).bind fun z12 => some z12) else ((getI p1classes x18).bind fun x19 => (appI 8 s5.1 ([x19])).bind fun z11 => some z11) : Option (List Int))) (fun s7 => some (.nxt (s7, IntKind.i64.wrap (s5.2 + 1))))) else (some (.brk (s5.1, s5.2)))
def m_s_l12Key (p0a : Int × (List Bool) × (List (List Int))) (p1classes : List Int) (p2s : Int) : Option (List Int) :=
  (getI p1classes p2s).bind fun x1 => bindL (loopM (m_s_l12Key_l0 p0a p1classes p2s) FUEL ([x1], 0)) (fun r => some r) (fun s6 => some s6.1)
def m_s_l2Cmp_l0 (p0a : List Int) (p1b : List Int) (s3 : Int) : Option (Out Int Int) :=
  if decide (s3 < (p0a.length : Int)) then (if decide (s3 < (p1b.length : Int)) then ((getI p0a s3).bind fun x9 => (getI p1b s3).bind fun x10 => if decide (x9 < x10) then (some (.ret (-1))) else ((getI p0a s3).bind fun x11 => (getI p1b s3).bind fun x12 => if decide (x11 > x12) then (some (.ret 1)) else (some (.nxt (IntKind.i64.wrap (s3 + 1)))))) else (some (.brk s3))) else (some (.brk s3))
def m_s_l2Cmp (p0a : List Int) (p1b : List Int) : Option Int :=
  bindL (loopM (m_s_l2Cmp_l0 p0a p1b) FUEL 0) (fun r => some r) (fun s4 => if decide ((p0a.length : Int) < (p1b.length : Int)) then (some (-1)) else (if decide ((p0a.length : Int) > (p1b.length : Int)) then (some 1) else (some 0)))
def m_s_l12Classes_l0 (p0 : Int × (List Bool) × List (List Int)) (r0 : List Bool) (s2 : (List Int) × Int) : Option (Out (List Int) ((List Int) × Int)) :=
  if decide (s2.2 < (p0.2.1.length : Int)) then ((getI p0.2.1 s2.2).bind fun x3 => Option.bind ((if x3 then (some 1) else (some 0) : Option Int)) (fun s4 => (getI r0 s2.2).bind fun x5 => Option.bind ((if x5 then (some s4) else (some (-1)) : Option Int)) (fun s6 => (appI 8 s2.1 ([s6])).bind fun z7 => some (.nxt (z7, IntKind.i64.wrap (s2.2 + 1)))))) else (some (.brk (s2.1, s2.2)))
def m_s_l12Classes_l3 (s13 : (List (List Int)) × (List Int) × Int) (r16 : List Int) (s18 : Int × Int) : Option (Out (List Int) (Int × Int)) :=
  if decide (s18.2 < (s13.1.length : Int)) then (Option.bind (((getI s13.1 s18.2).bind fun x19 => (m_s_l2Cmp x19 r16).bind fun r20 => if r20 == 0 then (some s18.2) else (some s18.1) : Option Int)) (fun s21 => some (.nxt (s21, IntKind.i64.wrap (s18.2 + 1))))) else (some (.brk (s18.1, s18.2)))
def m_s_l12Classes_l2 (p0 : Int × (List Bool) × List (List Int)) (s11 : (List Int) × Int) (s13 : (List (List Int)) × (List Int) × Int) : Option (Out (List Int) ((List (List Int)) × (List Int) × Int)) :=
  if decide (s13.2.2 < (p0.2.1.length : Int)) then (Option.bind (((getI s11.1 s13.2.2).bind fun x14 => if decide (x14 < 0) then ((appI 8 s13.2.1 ([(-1)])).bind fun z15 => some (s13.1, z15)) else ((m_s_l12Key (p0.1, p0.2.1, p0.2.2) s11.1 s13.2.2).bind fun r16 => bindL (loopM (m_s_l12Classes_l3 s13 r16) FUEL ((-1), 0)) (fun r22 => none) (fun s23 => Option.bind ((if decide (s23.1 < 0) then ((appI 24 s13.1 ([r16])).bind fun z24 => some (z24, (s13.1.length : Int))) else (some (s13.1, s23.1)) : Option ((List (List Int)) × Int))) (fun s25 => (appI 8 s13.2.1 ([s25.2])).bind fun z26 => some (s25.1, z26)))) : Option ((List (List Int)) × List Int))) (fun s27 => some (.nxt (s27.1, s27.2, IntKind.i64.wrap (s13.2.2 + 1))))) else (some (.brk (s13.1, s13.2.1, s13.2.2)))
def m_s_l12Classes_l1 (p0 : Int × (List Bool) × List (List Int)) (s11 : (List Int) × Int) : Option (Out (List Int) ((List Int) × Int)) :=
  if decide (s11.2 ≤ (p0.2.1.length : Int)) then (bindL (loopM (m_s_l12Classes_l2 p0 s11) FUEL (([] : List (List Int)), ([] : List Int), 0)) (fun r28 => some (.ret r28)) (fun s29 => (m_s_l2Cmp s29.2.1 s11.1).bind fun r30 => if r30 == 0 then (some (.ret s11.1)) else (some (.nxt (s29.2.1, IntKind.i64.wrap (s11.2 + 1)))))) else (some (.brk (s11.1, s11.2)))
def m_s_l12Classes (p0 : Int × (List Bool) × List (List Int)) : Option (List Int) :=
  (m_s_l11Live (p0.1, p0.2.1, p0.2.2)).bind fun r0 => bindL (loopM (m_s_l12Classes_l0 p0 r0) FUEL (([] : List Int), 0)) (fun r8 => some r8) (fun s9 => bindL (loopM (m_s_l12Classes_l1 p0) FUEL (s9.1, 0)) (fun r31 => some r31) (fun s32 => some s32.1))
def m_s_l12Minimize (p0a : Int × (List Bool) × (List (List Int))) : Option (Int × (List Bool) × (List (List Int))) :=
  (m_s_l12Classes (p0a.1, p0a.2.1, p0a.2.2)).bind fun r1 => (m_s_l11Live (p0a.1, p0a.2.1, p0a.2.2)).bind fun r2 => (m_s_l11Number (p0a.1, p0a.2.1, p0a.2.2) r1 r2).bind fun r3 => some (r3.1, r3.2.1, r3.2.2)
def m_s_CompileExpr (p0e : (List (Int × Int × Int × Int))) : Option ((Int × (List Bool) × (List (List Int))) × Bool) :=
  (m_s_BuildPositions p0e).bind fun r1 => if r1.2 then ((m_s_l11Subsets (r1.1.1, r1.1.2.1, r1.1.2.2.1, r1.1.2.2.2.1, r1.1.2.2.2.2) 200).bind fun r2 => if r2.2 then ((m_s_l12Minimize (r2.1.1, r2.1.2.1, r2.1.2.2)).bind fun r3 => if decide ((r3.2.1.length : Int) > 12) then (some ((0, [], []), false)) else (some ((r3.1, r3.2.1, r3.2.2), true))) else (some ((0, [], []), false))) else (some ((0, [], []), false))
def m_w_toToken (p0a : Int × Int × Int × Int) : Option (Int × Int × Int × Int) :=
  some (p0a.1, p0a.2.1, p0a.2.2.1, p0a.2.2.2)
def m_w_toTokenS_l0 (p0a : List (Int × Int × Int × Int)) (s3 : (List (Int × Int × Int × Int)) × Int) : Option (Out (List (Int × Int × Int × Int)) ((List (Int × Int × Int × Int)) × Int)) :=
  if decide (s3.2 < (p0a.length : Int)) then ((getI p0a s3.2).bind fun x6 => (m_w_toToken (x6.1, x6.2.1, x6.2.2.1, x6.2.2.2)).bind fun r3 => (getI s3.1 s3.2).bind fun x7 => some (.nxt (s3.1.set s3.2.toNat (r3.1, r3.2.1, r3.2.2.1, r3.2.2.2), IntKind.i64.wrap (s3.2 + 1)))) else (some (.brk (s3.1, s3.2)))
def m_w_toTokenS (p0a : List (Int × Int × Int × Int)) : Option (List (Int × Int × Int × Int)) :=
  (mkI 32 (p0a.length : Int) ((0, 0, 0, 0) : Int × Int × Int × Int)).bind fun x1 => bindL (loopM (m_w_toTokenS_l0 p0a) FUEL (x1, 0)) (fun r => some r) (fun s4 => some s4.1)
def m_w_toExpr (p0a : (List (Int × Int × Int × Int))) : Option (List (Int × Int × Int × Int)) :=
  (m_w_toTokenS p0a).bind fun r1 => some r1
def m_i_within (p0n : Int) (p1a : Int) (p2b : Int) : Option Bool :=
  if decide (p0n ≥ p1a) then (some (decide (p0n ≤ p2b))) else (some false)
def m_i_isLetter (p0n : Int) : Option Bool :=
  (m_i_within p0n 0 8).bind fun r1 => some r1
def m_i_tokenOk (p0t : Int × Int × Int × Int) : Option Bool :=
  if p0t.1 == 3 then ((m_i_isLetter p0t.2.1).bind fun r3 => if r3 then (if p0t.2.2.1 == 0 then (some (p0t.2.2.2 == 0)) else (some false)) else (some false)) else (if p0t.1 == 7 then (if p0t.2.1 == 0 then ((m_i_within p0t.2.2.1 0 p0t.2.2.2).bind fun r1 => if r1 then ((m_i_within p0t.2.2.2 1 3).bind fun r2 => some r2) else (some false)) else (some false)) else (Option.bind ((if p0t.1 == 1 then (some (p0t.1 == 1)) else (if p0t.1 == 2 then (some (p0t.1 == 2)) else (if p0t.1 == 4 then (some (p0t.1 == 4)) else (if p0t.1 == 5 then (some (p0t.1 == 5)) else (some (p0t.1 == 6))))) : Option Bool)) (fun s1 => if s1 then (some ((p0t.1 == p0t.1) && ((p0t.2.1 == 0) && ((p0t.2.2.1 == 0) && ((p0t.2.2.2 == 0) && true))))) else (some false))))

def m_i_treeOf_l0 (p0e : List (Int × Int × Int × Int)) (s1 : (List (Tr (Int × Int × Int × Int))) × Int) : Option (Out (Tr (Int × Int × Int × Int)) ((List (Tr (Int × Int × Int × Int))) × Int)) :=
  if decide (s1.2 < (p0e.length : Int)) then ((getI p0e s1.2).bind fun x2 => Option.bind ((Option.bind ((if x2.1 == 4 then (some (x2.1 == 4)) else (some (x2.1 == 5)) : Option Bool)) (fun s3 => if s3 then (some 2) else (Option.bind ((if x2.1 == 6 then (some (x2.1 == 6)) else (some (x2.1 == 7)) : Option Bool)) (fun s4 => if s4 then (some 1) else (some 0)))) : Option Int)) (fun s5 => (m_i_tokenOk (x2.1, x2.2.1, x2.2.2.1, x2.2.2.2)).bind fun r6 => if r6 then (if decide ((IntKind.i64.wrap ((s1.1.length : Int) - s5)) < 0) then (some (.ret Tr.nil)) else ((chk (And (0 ≤ (IntKind.i64.wrap ((s1.1.length : Int) - s5))) ((IntKind.i64.wrap ((s1.1.length : Int) - s5)) ≤ (s1.1.length : Int)))).bind fun _ => (appI 8 ([] : List (Tr (Int × Int × Int × Int))) (s1.1.drop ((IntKind.i64.wrap ((s1.1.length : Int) - s5)).toNat))).bind fun z8 => (chk (And (0 ≤ (IntKind.i64.wrap ((s1.1.length : Int) - s5))) ((IntKind.i64.wrap ((s1.1.length : Int) - s5)) ≤ (s1.1.length : Int)))).bind fun _ => (appI 8 (s1.1.take ((IntKind.i64.wrap ((s1.1.length : Int) - s5)).toNat)) ([Tr.node (x2.1, x2.2.1, x2.2.2.1, x2.2.2.2) z8])).bind fun z10 => some (.nxt (z10, IntKind.i64.wrap (s1.2 + 1))))) else (some (.ret Tr.nil)))) else (some (.brk (s1.1, s1.2)))
def m_i_treeOf (p0e : List (Int × Int × Int × Int)) : Option (Tr (Int × Int × Int × Int)) :=
  bindL (loopM (m_i_treeOf_l0 p0e) FUEL (([] : List (Tr (Int × Int × Int × Int))), 0)) (fun r11 => some r11) (fun s12 => if (s12.1.length : Int) != 1 then (some Tr.nil) else ((getI s12.1 0).bind fun x13 => some x13))
def m_i_IsExpr (p0e : List (Int × Int × Int × Int)) : Option Bool :=
  (m_i_treeOf p0e).bind fun r0 => some (cond.match_1 (fun (u1 : Bool) => Bool) (Tr.isNil r0) (fun (u2 : Unit) => false) (fun (u3 : Unit) => true))
def m_i_IsValidExpr (p0e : (List (Int × Int × Int × Int))) : Option Bool :=
  if decide ((p0e.length : Int) ≤ 24) then ((m_i_IsExpr p0e).bind fun r1 => some r1) else (some false)
def m_i_tree_bound_l0 (mrec : (Tr (Int × Int × Int × Int)) → Option Int) (p0x : Tr (Int × Int × Int × Int)) (z1 : (Int × Int × Int × Int) × List (Tr (Int × Int × Int × Int))) (s3 : Int × Int) : Option (Out Int (Int × Int)) :=
  if decide (s3.2 < (z1.2.length : Int)) then (Option.bind (((getI z1.2 s3.2).bind fun x4 => (Tr.get p0x).bind fun z5 => (Tr.get p0x).bind fun z6 => if z6.1.1 == 7 then ((mrec x4).bind fun r7 => (Tr.get p0x).bind fun z8 => (Tr.get p0x).bind fun z9 => some (IntKind.i64.wrap (s3.1 + (IntKind.i64.wrap ((IntKind.i64.wrap (r7 + 3)) * z9.1.2.2.2))))) else ((mrec x4).bind fun r10 => some (IntKind.i64.wrap (s3.1 + r10))) : Option Int)) (fun s11 => some (.nxt (s11, IntKind.i64.wrap (s3.2 + 1))))) else (some (.brk (s3.1, s3.2)))
def m_i_tree_bound : Nat → (Tr (Int × Int × Int × Int)) → Option Int
  | 0, _ => none
  | n + 1, p0x =>
    (Tr.get p0x).bind fun z0 => (Tr.get p0x).bind fun z1 => bindL (loopM (m_i_tree_bound_l0 (m_i_tree_bound n) p0x z1) FUEL (1, 0)) (fun r12 => some r12) (fun s13 => some (Min.min s13.1 100000))
def m_i_leaf (p0kind : Int) : Option (Tr (Int × Int × Int × Int)) :=
  some (Tr.node (p0kind, 0, 0, 0) ([] : List (Tr (Int × Int × Int × Int))))
def m_i_repeated : Nat → (Tr (Int × Int × Int × Int)) → Int → Int → Option (Tr (Int × Int × Int × Int))
  | 0, _, _, _ => none
  | n + 1, p0x, p1low, p2high =>
    if p2high == 0 then ((m_i_leaf 2).bind fun r0 => some r0) else (((m_i_repeated n) p0x (Max.max 0 (IntKind.i64.wrap (p1low - 1))) (IntKind.i64.wrap (p2high - 1))).bind fun r1 => if decide (p1low > 0) then (some (Tr.node (4, 0, 0, 0) ([p0x, r1]))) else ((m_i_leaf 2).bind fun r2 => some (Tr.node (5, 0, 0, 0) ([Tr.node (4, 0, 0, 0) ([p0x, r1]), r2]))))
def m_i_tree_expand_l0 (mrec : (Tr (Int × Int × Int × Int)) → Option (Tr (Int × Int × Int × Int))) (z14 : (Int × Int × Int × Int) × List (Tr (Int × Int × Int × Int))) (s17 : Int × Int × Int × Int × Int × List (Tr (Int × Int × Int × Int))) : Option (Out (Tr (Int × Int × Int × Int)) (Int × Int × Int × Int × Int × List (Tr (Int × Int × Int × Int)))) :=
  if decide (s17.1 < (z14.2.length : Int)) then ((getI z14.2 s17.1).bind fun x18 => (mrec x18).bind fun r19 => (appI 8 s17.2.2.2.2.2 ([r19])).bind fun z20 => some (.nxt (IntKind.i64.wrap (s17.1 + 1), s17.2.1, s17.2.2.1, s17.2.2.2.1, s17.2.2.2.2.1, z20))) else (some (.brk (s17.1, s17.2.1, s17.2.2.1, s17.2.2.2.1, s17.2.2.2.2.1, s17.2.2.2.2.2)))
def m_i_tree_expand : Nat → (Tr (Int × Int × Int × Int)) → Option (Tr (Int × Int × Int × Int))
  | 0, _ => none
  | n + 1, p0x =>
    (Tr.get p0x).bind fun z0 => (Tr.get p0x).bind fun z1 => if z1.1.1 == 7 then ((Tr.get p0x).bind fun z2 => (Tr.get p0x).bind fun z3 => (getI z3.2 0).bind fun x4 => ((m_i_tree_expand n) x4).bind fun r5 => (Tr.get p0x).bind fun z6 => (Tr.get p0x).bind fun z7 => (Tr.get p0x).bind fun z8 => (Tr.get p0x).bind fun z9 => (m_i_repeated FUELR r5 z7.1.2.2.1 z9.1.2.2.2).bind fun r10 => some r10) else ((Tr.get p0x).bind fun z11 => (Tr.get p0x).bind fun z12 => (Tr.get p0x).bind fun z13 => (Tr.get p0x).bind fun z14 => bindL (loopM (m_i_tree_expand_l0 (m_i_tree_expand n) z14) FUEL (0, z12.1.1, z12.1.2.1, z12.1.2.2.1, z12.1.2.2.2, ([] : List (Tr (Int × Int × Int × Int))))) (fun r21 => some r21) (fun s22 => some (Tr.node (s22.2.1, s22.2.2.1, s22.2.2.2.1, s22.2.2.2.2.1) s22.2.2.2.2.2)))
def m_i_tree_collect_l0 (mrec : (Tr (Int × Int × Int × Int)) → (List (Int × Int × Int × Int)) → Option (List (Int × Int × Int × Int))) (z1 : (Int × Int × Int × Int) × List (Tr (Int × Int × Int × Int))) (s4 : Int × List (Int × Int × Int × Int)) : Option (Out (List (Int × Int × Int × Int)) (Int × List (Int × Int × Int × Int))) :=
  if decide (s4.1 < (z1.2.length : Int)) then ((getI z1.2 s4.1).bind fun x5 => (mrec x5 s4.2).bind fun r6 => some (.nxt (IntKind.i64.wrap (s4.1 + 1), r6))) else (some (.brk (s4.1, s4.2)))
def m_i_tree_collect : Nat → (Tr (Int × Int × Int × Int)) → (List (Int × Int × Int × Int)) → Option (List (Int × Int × Int × Int))
  | 0, _, _ => none
  | n + 1, p0x, p1out =>
    (Tr.get p0x).bind fun z0 => (Tr.get p0x).bind fun z1 => bindL (loopM (m_i_tree_collect_l0 (m_i_tree_collect n) z1) FUEL (0, p1out)) (fun r7 => some r7) (fun s8 => (Tr.get p0x).bind fun z9 => (Tr.get p0x).bind fun z10 => (appI 32 s8.2 ([(z10.1.1, z10.1.2.1, z10.1.2.2.1, z10.1.2.2.2)])).bind fun z11 => some z11)
def m_i_tree_expr (p0x : Tr (Int × Int × Int × Int)) : Option (List (Int × Int × Int × Int)) :=
  (m_i_tree_collect FUELR p0x ([] : List (Int × Int × Int × Int))).bind fun r0 => some r0
def m_i_ExpandExpr (p0e : List (Int × Int × Int × Int)) : Option ((List (Int × Int × Int × Int)) × Bool) :=
  (m_i_IsValidExpr p0e).bind fun r0 => if r0 then ((m_i_treeOf p0e).bind fun r1 => (m_i_tree_bound FUELR r1).bind fun r2 => if decide (r2 > 5000) then (some (([] : List (Int × Int × Int × Int)), false)) else ((m_i_tree_expand FUELR r1).bind fun r3 => (m_i_tree_expr r3).bind fun r4 => if decide ((r4.length : Int) > 400) then (some (([] : List (Int × Int × Int × Int)), false)) else (some (r4, true)))) else (some (([] : List (Int × Int × Int × Int)), false))
def m_i_Positions_follow_l0 (p0p : (List Int) × Int × Int × (List Int) × Bool) (p1last : Int) (p2first : Int) (s2 : Int × List Int) : Option (Out ((List Int) × Int × Int × (List Int) × Bool) (Int × List Int)) :=
  if decide (s2.1 < (p0p.2.2.2.1.length : Int)) then (Option.bind (((chk (0 ≤ s2.1)).bind fun _ => if (andI (shrI p1last s2.1) 1) == 1 then ((getI s2.2 s2.1).bind fun x4 => (getI s2.2 s2.1).bind fun x5 => some (s2.2.set s2.1.toNat (orI x4 p2first))) else (some s2.2) : Option (List Int))) (fun s6 => some (.nxt (IntKind.i64.wrap (s2.1 + 1), s6)))) else (some (.brk (s2.1, s2.2)))
def m_i_Positions_follow (p0p : (List Int) × Int × Int × (List Int) × Bool) (p1last : Int) (p2first : Int) : Option ((List Int) × Int × Int × (List Int) × Bool) :=
  bindL (loopM (m_i_Positions_follow_l0 p0p p1last p2first) FUEL (0, p0p.2.2.2.1)) (fun r7 => some r7) (fun s8 => some (p0p.1, p0p.2.1, p0p.2.2.1, s8.2, p0p.2.2.2.2))
def m_i_Positions_build : Nat → ((List Int) × Int × Int × (List Int) × Bool) → (Tr (Int × Int × Int × Int)) → Option ((Int × Int × Bool) × (List Int) × Int × Int × (List Int) × Bool)
  | 0, _, _ => none
  | n + 1, p0, p1 =>
    (Tr.get p1).bind fun z0 => (Tr.get p1).bind fun z1 => if z1.1.1 == 2 then (some ((0, 0, true), p0.1, p0.2.1, p0.2.2.1, p0.2.2.2.1, p0.2.2.2.2)) else (if z1.1.1 == 3 then ((Tr.get p1).bind fun z2 => (Tr.get p1).bind fun z3 => (appI 8 p0.1 ([z3.1.2.1])).bind fun z4 => (appI 8 p0.2.2.2.1 ([0])).bind fun z5 => some ((shlI 1 (p0.1.length : Int), shlI 1 (p0.1.length : Int), false), z4, p0.2.1, p0.2.2.1, z5, p0.2.2.2.2)) else (if z1.1.1 == 5 then ((Tr.get p1).bind fun z6 => (Tr.get p1).bind fun z7 => (getI z7.2 0).bind fun x8 => ((m_i_Positions_build n) (p0.1, p0.2.1, p0.2.2.1, p0.2.2.2.1, p0.2.2.2.2) x8).bind fun r9 => (Tr.get p1).bind fun z10 => (Tr.get p1).bind fun z11 => (getI z11.2 1).bind fun x12 => ((m_i_Positions_build n) r9.2 x12).bind fun r13 => if r9.1.2.2 then (some ((orI r9.1.1 r13.1.1, orI r9.1.2.1 r13.1.2.1, true), r13.2.1, r13.2.2.1, r13.2.2.2.1, r13.2.2.2.2.1, r13.2.2.2.2.2)) else (some ((orI r9.1.1 r13.1.1, orI r9.1.2.1 r13.1.2.1, r13.1.2.2), r13.2.1, r13.2.2.1, r13.2.2.2.1, r13.2.2.2.2.1, r13.2.2.2.2.2))) else (if z1.1.1 == 4 then ((Tr.get p1).bind fun z14 => (Tr.get p1).bind fun z15 => (getI z15.2 0).bind fun x16 => ((m_i_Positions_build n) (p0.1, p0.2.1, p0.2.2.1, p0.2.2.2.1, p0.2.2.2.2) x16).bind fun r17 => (Tr.get p1).bind fun z18 => (Tr.get p1).bind fun z19 => (getI z19.2 1).bind fun x20 => ((m_i_Positions_build n) r17.2 x20).bind fun r21 => (m_i_Positions_follow (r21.2.1, r21.2.2.1, r21.2.2.2.1, r21.2.2.2.2.1, r21.2.2.2.2.2) r17.1.2.1 r21.1.1).bind fun r22 => if r17.1.2.2 then (Option.bind ((if r17.1.2.2 then (some (orI r17.1.1 r21.1.1, r21.1.2.1, r21.1.2.2)) else (some (r17.1.1, r21.1.2.1, r21.1.2.2)) : Option (Int × Int × Bool))) (fun s23 => Option.bind ((if r21.1.2.2 then (some (s23.1, orI s23.2.1 r17.1.2.1, s23.2.2)) else (some (s23.1, s23.2.1, s23.2.2)) : Option (Int × Int × Bool))) (fun s24 => some ((s24.1, s24.2.1, s24.2.2), r22.1, r22.2.1, r22.2.2.1, r22.2.2.2.1, r22.2.2.2.2)))) else (Option.bind ((if r17.1.2.2 then (some (orI r17.1.1 r21.1.1, r21.1.2.1, false)) else (some (r17.1.1, r21.1.2.1, false)) : Option (Int × Int × Bool))) (fun s25 => Option.bind ((if r21.1.2.2 then (some (s25.1, orI s25.2.1 r17.1.2.1, s25.2.2)) else (some (s25.1, s25.2.1, s25.2.2)) : Option (Int × Int × Bool))) (fun s26 => some ((s26.1, s26.2.1, s26.2.2), r22.1, r22.2.1, r22.2.2.1, r22.2.2.2.1, r22.2.2.2.2))))) else (if z1.1.1 == 6 then ((Tr.get p1).bind fun z27 => (Tr.get p1).bind fun z28 => (getI z28.2 0).bind fun x29 => ((m_i_Positions_build n) (p0.1, p0.2.1, p0.2.2.1, p0.2.2.2.1, p0.2.2.2.2) x29).bind fun r30 => (m_i_Positions_follow (r30.2.1, r30.2.2.1, r30.2.2.2.1, r30.2.2.2.2.1, r30.2.2.2.2.2) r30.1.2.1 r30.1.1).bind fun r31 => some ((r30.1.1, r30.1.2.1, true), r31.1, r31.2.1, r31.2.2.1, r31.2.2.2.1, r31.2.2.2.2)) else (some ((0, 0, false), p0.1, p0.2.1, p0.2.2.1, p0.2.2.2.1, p0.2.2.2.2))))))
def m_i_BuildPositions_l0 (r0 : (List (Int × Int × Int × Int)) × Bool) (s2 : Int × Int) : Option (Out (((List Int) × Int × Int × (List Int) × Bool) × Bool) (Int × Int)) :=
  if decide (s2.2 < (r0.1.length : Int)) then (Option.bind (((getI r0.1 s2.2).bind fun x3 => if x3.1 == 3 then (some (IntKind.i64.wrap (s2.1 + 1))) else (some s2.1) : Option Int)) (fun s4 => some (.nxt (s4, IntKind.i64.wrap (s2.2 + 1))))) else (some (.brk (s2.1, s2.2)))
def m_i_BuildPositions (p0e : List (Int × Int × Int × Int)) : Option (((List Int) × Int × Int × (List Int) × Bool) × Bool) :=
  (m_i_ExpandExpr p0e).bind fun r0 => if r0.2 then (bindL (loopM (m_i_BuildPositions_l0 r0) FUEL (0, 0)) (fun r5 => some r5) (fun s6 => if decide (s6.1 > 20) then (some ((([] : List Int), 0, 0, ([] : List Int), false), false)) else ((m_i_treeOf r0.1).bind fun r7 => (m_i_Positions_build FUELR (([] : List Int), 0, 0, ([] : List Int), false) r7).bind fun r8 => some ((r8.2.1, r8.1.1, r8.1.2.1, r8.2.2.2.2.1, r8.1.2.2), true)))) else (some ((([] : List Int), 0, 0, ([] : List Int), false), false))
def m_i_numbered_int_l1 (p3 : Int → Int → Option (Int × Bool)) (s29 : (List Int) × (List (Int × Int)) × Int × Int × (List Bool) × (List (List Int))) (s39 : (List Int) × (List (Int × Int)) × (List Int) × Int) : Option (Out ((Int × (List Bool) × (List (List Int))) × Bool) ((List Int) × (List (Int × Int)) × (List Int) × Int)) :=
  if decide (s39.2.2.2 < 9) then (Option.bind (((getI s39.1 s29.2.2.1).bind fun x20 => (p3 x20 s39.2.2.2).bind fun r20 => if r20.2 then ((chk (iOk r20.1 = true)).bind fun _ => Option.bind ((if (lkM s39.2.1 r20.1).isSome then (some (s39.1, s39.2.1, (lkM s39.2.1 r20.1).getD 0)) else ((putM s39.2.1 iOk iOk r20.1 (s39.1.length : Int)).bind fun m37 => (appI 8 s39.1 ([r20.1])).bind fun z75 => some (z75, m37, (s39.1.length : Int))) : Option ((List Int) × (List (Int × Int)) × Int))) (fun s43 => (appI 8 s39.2.2.1 ([s43.2.2])).bind fun z76 => some (s43.1, s43.2.1, z76))) else ((appI 8 s39.2.2.1 ([-1])).bind fun z73 => some (s39.1, s39.2.1, z73)) : Option ((List Int) × (List (Int × Int)) × (List Int)))) (fun s42 => some (.nxt (s42.1, s42.2.1, s42.2.2, IntKind.i64.wrap (s39.2.2.2 + 1))))) else (some (.brk (s39.1, s39.2.1, s39.2.2.1, s39.2.2.2)))
def m_i_numbered_int_l0 (p1 : Int) (p2 : Int → Option Bool) (p3 : Int → Int → Option (Int × Bool)) (s29 : (List Int) × (List (Int × Int)) × Int × Int × (List Bool) × (List (List Int))) : Option (Out ((Int × (List Bool) × (List (List Int))) × Bool) ((List Int) × (List (Int × Int)) × Int × Int × (List Bool) × (List (List Int)))) :=
  if decide (s29.2.2.1 < (s29.1.length : Int)) then (bindL (loopM (m_i_numbered_int_l1 p3 s29) FUEL (s29.1, s29.2.1, ([] : List Int), 0)) (fun r => some (.ret r)) (fun s40 => if decide ((s40.1.length : Int) > p1) then (some (.ret ((0, [], []), false))) else ((getI s40.1 s29.2.2.1).bind fun x21 => (p2 x21).bind fun r21 => (appI 1 s29.2.2.2.2.1 ([r21])).bind fun z77 => (appI 24 s29.2.2.2.2.2 ([s40.2.2.1])).bind fun z78 => some (.nxt (s40.1, s40.2.1, IntKind.i64.wrap (s29.2.2.1 + 1), s29.2.2.2.1, z77, z78))))) else (some (.brk (s29.1, s29.2.1, s29.2.2.1, s29.2.2.2.1, s29.2.2.2.2.1, s29.2.2.2.2.2)))
def m_i_numbered_int (p0 : Int) (p1 : Int) (p2 : Int → Option Bool) (p3 : Int → Int → Option (Int × Bool)) : Option ((Int × (List Bool) × (List (List Int))) × Bool) :=
  (putM ([] : List (Int × Int)) iOk iOk p0 0).bind fun m1 => bindL (loopM (m_i_numbered_int_l0 p1 p2 p3) FUEL ([p0], m1, 0, 0, [], [])) (fun r => some r) (fun s30 => some ((s30.2.2.2.1, s30.2.2.2.2.1, s30.2.2.2.2.2), true))
def m_i_Positions_accepts (p0p : (List Int) × Int × Int × (List Int) × Bool) (p1set : Int) : Option Bool :=
  if (andI p1set 1) == 1 then (if p0p.2.2.2.2 then (some true) else (some ((andI (shrI p1set 1) p0p.2.2.1) != 0))) else (some ((andI (shrI p1set 1) p0p.2.2.1) != 0))
def m_i_Positions_after_l0 (p0p : (List Int) × Int × Int × (List Int) × Bool) (p1set : Int) (s6 : Int × Int) : Option (Out Int (Int × Int)) :=
  if decide (s6.2 < (p0p.2.2.2.1.length : Int)) then (Option.bind (((getI p0p.2.2.2.1 s6.2).bind fun x6 => (chk (0 ≤ IntKind.i64.wrap (s6.2 + 1))).bind fun _ => if (andI (shrI p1set (IntKind.i64.wrap (s6.2 + 1))) 1) == 1 then (some (orI s6.1 x6)) else (some s6.1) : Option Int)) (fun s8 => some (.nxt (s8, IntKind.i64.wrap (s6.2 + 1))))) else (some (.brk (s6.1, s6.2)))
def m_i_Positions_after_l1 (p0p : (List Int) × Int × Int × (List Int) × Bool) (p2letter : Int) (s7 : Int × Int) (s13 : Int × Int) : Option (Out Int (Int × Int)) :=
  if decide (s13.2 < (p0p.1.length : Int)) then (Option.bind (((getI p0p.1 s13.2).bind fun x12 => if x12 == p2letter then ((chk (0 ≤ s13.2)).bind fun _ => if (andI (shrI s7.1 s13.2) 1) == 1 then ((chk (0 ≤ IntKind.i64.wrap (s13.2 + 1))).bind fun _ => some (orI s13.1 (shlI 1 (IntKind.i64.wrap (s13.2 + 1))))) else (some s13.1)) else (some s13.1) : Option Int)) (fun s15 => some (.nxt (s15, IntKind.i64.wrap (s13.2 + 1))))) else (some (.brk (s13.1, s13.2)))
def m_i_Positions_after (p0p : (List Int) × Int × Int × (List Int) × Bool) (p1set : Int) (p2letter : Int) : Option Int :=
  Option.bind ((if (andI p1set 1) == 1 then (some p0p.2.1) else (some 0) : Option Int)) (fun s1 => bindL (loopM (m_i_Positions_after_l0 p0p p1set) FUEL (s1, 0)) (fun r => some r) (fun s7 => bindL (loopM (m_i_Positions_after_l1 p0p p2letter s7) FUEL (0, 0)) (fun r => some r) (fun s14 => some s14.1)))
def m_i_determinize_1 (p0set : Int) (p1letter : Int) (q0 : (List Int) × Int × Int × (List Int) × Bool) : Option (Int × Bool) :=
  (m_i_Positions_after (q0.1, q0.2.1, q0.2.2.1, q0.2.2.2.1, q0.2.2.2.2) p0set p1letter).bind fun r1 => some (r1, r1 != 0)
def m_i_determinize (p0p : (List Int) × Int × Int × (List Int) × Bool) (p1most : Int) : Option ((Int × (List Bool) × (List (List Int))) × Bool) :=
  (m_i_numbered_int 1 p1most (fun a0 => m_i_Positions_accepts (p0p.1, p0p.2.1, p0p.2.2.1, p0p.2.2.2.1, p0p.2.2.2.2) a0) (fun a0 a1 => m_i_determinize_1 a0 a1 (p0p.1, p0p.2.1, p0p.2.2.1, p0p.2.2.2.1, p0p.2.2.2.2))).bind fun r1 => some ((r1.1.1, r1.1.2.1, r1.1.2.2), r1.2)

def m_i_Automaton_live_l2 (s6 : Bool × Int × List Bool) (x7 : List Int) (s10 : Bool × Int × List Bool) : Option (Out (List Bool) (Bool × Int × List Bool)) :=
  if decide (s10.2.1 < (x7.length : Int)) then (Option.bind (((getI x7 s10.2.1).bind fun x11 => if decide (x11 ≥ 0) then ((getI s10.2.2 x11).bind fun x12 => if x12 then ((getI s10.2.2 s6.2.1).bind fun x13 => if x13 then (some (s10.1, s10.2.2)) else ((getI s10.2.2 s6.2.1).bind fun x14 => some (true, s10.2.2.set s6.2.1.toNat true))) else (some (s10.1, s10.2.2))) else (some (s10.1, s10.2.2)) : Option (Bool × List Bool))) (fun s15 => some (.nxt (s15.1, IntKind.i64.wrap (s10.2.1 + 1), s15.2)))) else (some (.brk (s10.1, s10.2.1, s10.2.2)))
def m_i_Automaton_live_l1 (p0a : Int × (List Bool) × List (List Int)) (s6 : Bool × Int × List Bool) : Option (Out (List Bool) (Bool × Int × List Bool)) :=
  if decide (s6.2.1 < (p0a.2.2.length : Int)) then ((getI p0a.2.2 s6.2.1).bind fun x7 => bindL (loopM (m_i_Automaton_live_l2 s6 x7) FUEL (s6.1, 0, s6.2.2)) (fun r16 => some (.ret r16)) (fun s17 => some (.nxt (s17.1, IntKind.i64.wrap (s6.2.1 + 1), s17.2.2)))) else (some (.brk (s6.1, s6.2.1, s6.2.2)))
def m_i_Automaton_live_l0 (p0a : Int × (List Bool) × List (List Int)) (s3 : Bool × List Bool) : Option (Out (List Bool) (Bool × List Bool)) :=
  if s3.1 then (bindL (loopM (m_i_Automaton_live_l1 p0a) FUEL (false, 0, s3.2)) (fun r18 => some (.ret r18)) (fun s19 => some (.nxt (s19.1, s19.2.2)))) else (some (.brk (s3.1, s3.2)))
def m_i_Automaton_live (p0a : Int × (List Bool) × List (List Int)) : Option (List Bool) :=
  (appI 1 ([] : List Bool) p0a.2.1).bind fun z0 => bindL (loopM (m_i_Automaton_live_l0 p0a) FUEL (true, z0)) (fun r20 => some r20) (fun s21 => some s21.2)
def m_g_slices_IndexFunc_S_S_int_S_int_l0 (p0s : List (List Int)) (p1f : (List Int) → Option Bool) (s3 : Int) : Option (Out Int Int) :=
  if decide (s3 < (p0s.length : Int)) then ((getI p0s s3).bind fun x3 => (p1f x3).bind fun r6 => if r6 then (some (.ret s3)) else (some (.nxt (IntKind.i64.wrap (s3 + 1))))) else (some (.brk s3))
def m_g_slices_IndexFunc_S_S_int_S_int (p0s : List (List Int)) (p1f : (List Int) → Option Bool) : Option Int :=
  bindL (loopM (m_g_slices_IndexFunc_S_S_int_S_int_l0 p0s p1f) FUEL 0) (fun r => some r) (fun s4 => some (-1))
def m_g_slices_Equal_S_int_int_l0 (p0s1 : List Int) (p1s2 : List Int) (s3 : Int) : Option (Out Bool Int) :=
  if decide (s3 < (p0s1.length : Int)) then ((getI p0s1 s3).bind fun x5 => (getI p1s2 s3).bind fun x6 => if x5 != x6 then (some (.ret false)) else (some (.nxt (IntKind.i64.wrap (s3 + 1))))) else (some (.brk s3))
def m_g_slices_Equal_S_int_int (p0s1 : List Int) (p1s2 : List Int) : Option Bool :=
  if (p0s1.length : Int) != (p1s2.length : Int) then (some false) else (bindL (loopM (m_g_slices_Equal_S_int_int_l0 p0s1 p1s2) FUEL 0) (fun r => some r) (fun s4 => some true))
def m_i_Automaton_refine_1 (p0x : List Int) (q0 : List Int) : Option Bool :=
  (m_g_slices_Equal_S_int_int p0x q0).bind fun r1 => some r1
def m_i_Automaton_refine_l1 (p1 : List Int) (x57 : List Int) (s52 : Int × (List Int)) : Option (Out ((List Int) × Int) (Int × (List Int))) :=
  if decide (s52.1 < (x57.length : Int)) then ((getI x57 s52.1).bind fun x64 => Option.bind ((if decide (x64 ≥ 0) then ((getI p1 x64).bind fun x66 => some x66) else (some x64) : Option Int)) (fun s54 => (appI 8 s52.2 ([s54])).bind fun z38 => some (.nxt (IntKind.i64.wrap (s52.1 + 1), z38)))) else (some (.brk (s52.1, s52.2)))
def m_i_Automaton_refine_l0 (p0 : Int × (List Bool) × (List (List Int))) (p1 : List Int) (s37 : (List (List Int)) × (List Int) × Int) : Option (Out ((List Int) × Int) ((List (List Int)) × (List Int) × Int)) :=
  if decide (s37.2.2 < (p1.length : Int)) then (Option.bind (((getI p1 s37.2.2).bind fun x56 => if decide (x56 < 0) then ((appI 8 s37.2.1 ([-1])).bind fun z42 => some (s37.1, z42)) else ((getI p0.2.2 s37.2.2).bind fun x57 => bindL (loopM (m_i_Automaton_refine_l1 p1 x57) FUEL (0, [x56])) (fun _ => none) (fun s53 => (m_g_slices_IndexFunc_S_S_int_S_int s37.1 (fun a0 => m_i_Automaton_refine_1 a0 s53.2)).bind fun r12 => Option.bind ((if decide (r12 < 0) then ((appI 24 s37.1 ([s53.2])).bind fun z40 => some (z40, (s37.1.length : Int))) else (some (s37.1, r12)) : Option ((List (List Int)) × Int))) (fun s55 => (appI 8 s37.2.1 ([s55.2])).bind fun z41 => some (s55.1, z41)))) : Option ((List (List Int)) × (List Int)))) (fun s47 => some (.nxt (s47.1, s47.2, IntKind.i64.wrap (s37.2.2 + 1))))) else (some (.brk (s37.1, s37.2.1, s37.2.2)))
def m_i_Automaton_refine (p0 : Int × (List Bool) × (List (List Int))) (p1 : List Int) : Option ((List Int) × Int) :=
  bindL (loopM (m_i_Automaton_refine_l0 p0 p1) FUEL (([] : List (List Int)), ([] : List Int), 0)) (fun r => some r) (fun s38 => some (s38.2.1, (s38.1.length : Int)))
def m_i_Automaton_classes_l0 (p0a : Int × (List Bool) × (List (List Int))) (r1 : List Bool) (s5 : (List Int) × Int) : Option (Out (List Int) ((List Int) × Int)) :=
  if decide (s5.2 < (r1.length : Int)) then (Option.bind (((getI r1 s5.2).bind fun x11 => if x11 then ((getI p0a.2.1 s5.2).bind fun x12 => if x12 then ((appI 8 s5.1 ([1])).bind fun z18 => some z18) else ((appI 8 s5.1 ([0])).bind fun z17 => some z17)) else ((appI 8 s5.1 ([-1])).bind fun z16 => some z16) : Option (List Int))) (fun s7 => some (.nxt (s7, IntKind.i64.wrap (s5.2 + 1))))) else (some (.brk (s5.1, s5.2)))
def m_i_Automaton_classes_l1 (p0a : Int × (List Bool) × (List (List Int))) (s10 : (List Int) × Int) : Option (Out (List Int) ((List Int) × Int)) :=
  (m_i_Automaton_refine (p0a.1, p0a.2.1, p0a.2.2) s10.1).bind fun r4 => if r4.2 == s10.2 then (some (.ret r4.1)) else (some (.nxt (r4.1, r4.2)))
def m_i_Automaton_classes (p0a : Int × (List Bool) × (List (List Int))) : Option (List Int) :=
  (m_i_Automaton_live (p0a.1, p0a.2.1, p0a.2.2)).bind fun r1 => bindL (loopM (m_i_Automaton_classes_l0 p0a r1) FUEL (([] : List Int), 0)) (fun r => some r) (fun s6 => bindL (loopM (m_i_Automaton_classes_l1 p0a) FUEL (s6.1, -1)) (fun r => some r) (fun s11 => none))
def m_g_math_bits_Mul32 (p0x : Int) (p1y : Int) : Option (Int × Int) :=
  some (IntKind.u32.wrap (shrI (IntKind.u64.wrap ((IntKind.u64.wrap p0x) * (IntKind.u64.wrap p1y))) 32), IntKind.u32.wrap (IntKind.u64.wrap ((IntKind.u64.wrap p0x) * (IntKind.u64.wrap p1y))))
def m_g_math_bits_Mul64 (p0x : Int) (p1y : Int) : Option (Int × Int) :=
  some (IntKind.u64.wrap ((IntKind.u64.wrap ((IntKind.u64.wrap ((shrI p0x 32) * (shrI p1y 32))) + (shrI (IntKind.u64.wrap ((IntKind.u64.wrap ((shrI p0x 32) * (andU p1y 4294967295))) + (shrI (IntKind.u64.wrap ((andU p0x 4294967295) * (andU p1y 4294967295))) 32))) 32))) + (shrI (IntKind.u64.wrap ((andU (IntKind.u64.wrap ((IntKind.u64.wrap ((shrI p0x 32) * (andU p1y 4294967295))) + (shrI (IntKind.u64.wrap ((andU p0x 4294967295) * (andU p1y 4294967295))) 32))) 4294967295) + (IntKind.u64.wrap ((andU p0x 4294967295) * (shrI p1y 32))))) 32)), IntKind.u64.wrap (p0x * p1y))
def m_g_math_bits_Mul (p0x : Int) (p1y : Int) : Option (Int × Int) :=
  (m_g_math_bits_Mul64 p0x p1y).bind fun r1 => some (r1.1, r1.2)
def m_g_slices_Repeat_S_int_int_l0 (s4 : Int × List Int) : Option (Out (List Int) (Int × List Int)) :=
  if decide (s4.1 < (s4.2.length : Int)) then ((chk (And (0 ≤ s4.1) (s4.1 ≤ (s4.2.length : Int)))).bind fun _ => (chk (And (0 ≤ s4.1) (s4.1 ≤ (s4.2.length : Int)))).bind fun _ => (chk (And (0 ≤ s4.1) (s4.1 ≤ (s4.2.length : Int)))).bind fun _ => (chk (And (0 ≤ s4.1) (s4.1 ≤ (s4.2.length : Int)))).bind fun _ => some (.nxt (IntKind.i64.wrap (s4.1 + ((Min.min ((s4.2.take s4.1.toNat).length) (s4.2.length - s4.1.toNat) : Nat) : Int)), cpyI s4.2 s4.1.toNat (s4.2.take s4.1.toNat)))) else (some (.brk (s4.1, s4.2)))
def m_g_slices_Repeat_S_int_int (p0x : List Int) (p1count : Int) : Option (List Int) :=
  if decide (p1count < 0) then (none) else ((m_g_math_bits_Mul (IntKind.u64.wrap (p0x.length : Int)) (IntKind.u64.wrap p1count)).bind fun r0 => if decide (r0.1 > 0) then (none) else (if decide (r0.2 > 9223372036854775807) then (none) else ((mkI 8 (IntKind.i64.wrap r0.2) 0).bind fun z1 => bindL (loopM (m_g_slices_Repeat_S_int_int_l0) FUEL (((Min.min p0x.length (z1.length - 0) : Nat) : Int), cpyI z1 0 p0x)) (fun r9 => some r9) (fun s10 => some s10.2))))
def m_i_nothing : Option (Int × (List Bool) × (List (List Int))) :=
  (m_g_slices_Repeat_S_int_int ([-1]) 9).bind fun r1 => some (0, [false], [r1])
def m_g_slices_Index_S_int_int_l0 (p0s : List Int) (p1v : Int) (s3 : Int) : Option (Out Int Int) :=
  if decide (s3 < (p0s.length : Int)) then ((getI p0s s3).bind fun x3 => if p1v == x3 then (some (.ret s3)) else (some (.nxt (IntKind.i64.wrap (s3 + 1))))) else (some (.brk s3))
def m_g_slices_Index_S_int_int (p0s : List Int) (p1v : Int) : Option Int :=
  bindL (loopM (m_g_slices_Index_S_int_int_l0 p0s p1v) FUEL 0) (fun r => some r) (fun s4 => some (-1))
def m_i_Automaton_minimize_1 (p0class : Int) (q0 : List Int) : Option Int :=
  (m_g_slices_Index_S_int_int q0 p0class).bind fun r1 => some r1
def m_i_Automaton_minimize_2 (p0c : Int) (q0 : Int × (List Bool) × (List (List Int))) (q1 : Int → Option Int) : Option Bool :=
  (q1 p0c).bind fun r1 => (getI q0.2.1 r1).bind fun x1 => some x1
def m_i_Automaton_move (p0a : Int × (List Bool) × (List (List Int))) (p1s : Int) (p2letter : Int) : Option Int :=
  if decide (p1s < 0) then (some (-1)) else ((m_i_isLetter p2letter).bind fun r1 => if r1 then ((getI p0a.2.2 p1s).bind fun x1 => (getI x1 p2letter).bind fun x2 => some x2) else (some (-1)))
def m_i_Automaton_minimize_3 (p0c : Int) (p1letter : Int) (q0 : Int × (List Bool) × (List (List Int))) (q1 : Int → Option Int) (q2 : List Int) : Option (Int × Bool) :=
  (q1 p0c).bind fun r1 => (m_i_Automaton_move (q0.1, q0.2.1, q0.2.2) r1 p1letter).bind fun r2 => if decide (r2 < 0) then (some (0, false)) else ((getI q2 r2).bind fun x1 => if decide (x1 < 0) then (some (0, false)) else ((getI q2 r2).bind fun x2 => some (x2, true)))
def m_i_Automaton_minimize (p0a : Int × (List Bool) × (List (List Int))) : Option (Int × (List Bool) × (List (List Int))) :=
  (m_i_Automaton_classes (p0a.1, p0a.2.1, p0a.2.2)).bind fun r1 => (getI r1 p0a.1).bind fun x1 => if decide (x1 < 0) then ((m_i_nothing ).bind fun r3 => some (r3.1, r3.2.1, r3.2.2)) else ((getI r1 p0a.1).bind fun x2 => (m_i_numbered_int x2 (r1.length : Int) (fun a0 => m_i_Automaton_minimize_2 a0 (p0a.1, p0a.2.1, p0a.2.2) (fun a0 => m_i_Automaton_minimize_1 a0 r1)) (fun a0 a1 => m_i_Automaton_minimize_3 a0 a1 (p0a.1, p0a.2.1, p0a.2.2) (fun a0 => m_i_Automaton_minimize_1 a0 r1) r1)).bind fun r2 => some (r2.1.1, r2.1.2.1, r2.1.2.2))
def m_i_small (p0a : Int × (List Bool) × (List (List Int))) : Option ((Int × (List Bool) × (List (List Int))) × Bool) :=
  (m_i_Automaton_minimize (p0a.1, p0a.2.1, p0a.2.2)).bind fun r1 => if decide ((r1.2.1.length : Int) > 12) then (some ((0, [], []), false)) else (some ((r1.1, r1.2.1, r1.2.2), true))
def m_i_CompileExpr (p0e : (List (Int × Int × Int × Int))) : Option ((Int × (List Bool) × (List (List Int))) × Bool) :=
  (m_i_BuildPositions p0e).bind fun r1 => if r1.2 then ((m_i_determinize (r1.1.1, r1.1.2.1, r1.1.2.2.1, r1.1.2.2.2.1, r1.1.2.2.2.2) 200).bind fun r2 => if r2.2 then ((m_i_small (r2.1.1, r2.1.2.1, r2.1.2.2)).bind fun r3 => some ((r3.1.1, r3.1.2.1, r3.1.2.2), r3.2)) else (some ((0, [], []), false))) else (some ((0, [], []), false))
def m_w_eqBoolS_l0 (p0a : List Bool) (p1b : List Bool) (s3 : Int) : Option (Out Bool Int) :=
  if decide (s3 < (p0a.length : Int)) then ((getI p0a s3).bind fun x5 => (getI p1b s3).bind fun x6 => if x5 != x6 then (some (.ret false)) else (some (.nxt (IntKind.i64.wrap (s3 + 1))))) else (some (.brk s3))
def m_w_eqBoolS (p0a : List Bool) (p1b : List Bool) : Option Bool :=
  if (p0a.length : Int) != (p1b.length : Int) then (some false) else (bindL (loopM (m_w_eqBoolS_l0 p0a p1b) FUEL 0) (fun r => some r) (fun s4 => some true))
def m_w_eqIntS_l0 (p0a : List Int) (p1b : List Int) (s3 : Int) : Option (Out Bool Int) :=
  if decide (s3 < (p0a.length : Int)) then ((getI p0a s3).bind fun x5 => (getI p1b s3).bind fun x6 => if x5 != x6 then (some (.ret false)) else (some (.nxt (IntKind.i64.wrap (s3 + 1))))) else (some (.brk s3))
def m_w_eqIntS (p0a : List Int) (p1b : List Int) : Option Bool :=
  if (p0a.length : Int) != (p1b.length : Int) then (some false) else (bindL (loopM (m_w_eqIntS_l0 p0a p1b) FUEL 0) (fun r => some r) (fun s4 => some true))
def m_w_eqIntSS_l0 (p0a : List (List Int)) (p1b : List (List Int)) (s3 : Int) : Option (Out Bool Int) :=
  if decide (s3 < (p0a.length : Int)) then ((getI p0a s3).bind fun x5 => (getI p1b s3).bind fun x6 => (m_w_eqIntS x5 x6).bind fun r9 => if r9 then (some (.nxt (IntKind.i64.wrap (s3 + 1)))) else (some (.ret false))) else (some (.brk s3))
def m_w_eqIntSS (p0a : List (List Int)) (p1b : List (List Int)) : Option Bool :=
  if (p0a.length : Int) != (p1b.length : Int) then (some false) else (bindL (loopM (m_w_eqIntSS_l0 p0a p1b) FUEL 0) (fun r => some r) (fun s4 => some true))
def m_w_eqAutomaton (p0a : Int × (List Bool) × (List (List Int))) (p1b : Int × (List Bool) × (List (List Int))) : Option Bool :=
  if p0a.1 != p1b.1 then (some false) else ((m_w_eqBoolS p0a.2.1 p1b.2.1).bind fun r1 => if r1 then ((m_w_eqIntSS p0a.2.2 p1b.2.2).bind fun r2 => if r2 then (some true) else (some false)) else (some false))
def m_w_eqToken (p0a : Int × Int × Int × Int) (p1b : Int × Int × Int × Int) : Option Bool :=
  if p0a.1 != p1b.1 then (some false) else (if p0a.2.1 != p1b.2.1 then (some false) else (if p0a.2.2.1 != p1b.2.2.1 then (some false) else (if p0a.2.2.2 != p1b.2.2.2 then (some false) else (some true))))
def m_w_eqTokenS_l0 (p0a : List (Int × Int × Int × Int)) (p1b : List (Int × Int × Int × Int)) (s3 : Int) : Option (Out Bool Int) :=
  if decide (s3 < (p0a.length : Int)) then ((getI p0a s3).bind fun x5 => (getI p1b s3).bind fun x6 => (m_w_eqToken (x5.1, x5.2.1, x5.2.2.1, x5.2.2.2) (x6.1, x6.2.1, x6.2.2.1, x6.2.2.2)).bind fun r3 => if r3 then (some (.nxt (IntKind.i64.wrap (s3 + 1)))) else (some (.ret false))) else (some (.brk s3))
def m_w_eqTokenS (p0a : List (Int × Int × Int × Int)) (p1b : List (Int × Int × Int × Int)) : Option Bool :=
  if (p0a.length : Int) != (p1b.length : Int) then (some false) else (bindL (loopM (m_w_eqTokenS_l0 p0a p1b) FUEL 0) (fun r => some r) (fun s4 => some true))
def m_w_eqExpr (p0a : (List (Int × Int × Int × Int))) (p1b : (List (Int × Int × Int × Int))) : Option Bool :=
  (m_w_eqTokenS p0a p1b).bind fun r1 => if r1 then (some true) else (some false)
def m_w_markTokenS_l0 (s3 : (List (Int × Int × Int × Int)) × Int × Int) : Option (Out (Int × (List (Int × Int × Int × Int))) ((List (Int × Int × Int × Int)) × Int × Int)) :=
  if decide (s3.2.2 < (s3.1.length : Int)) then ((getI s3.1 s3.2.2).bind fun x9 => (getI (s3.1.set s3.2.2.toNat (s3.2.1, x9.2.1, x9.2.2.1, x9.2.2.2)) s3.2.2).bind fun x10 => (getI ((s3.1.set s3.2.2.toNat (s3.2.1, x9.2.1, x9.2.2.1, x9.2.2.2)).set s3.2.2.toNat (x10.1, IntKind.i64.wrap (s3.2.1 + 1), x10.2.2.1, x10.2.2.2)) s3.2.2).bind fun x11 => (getI (((s3.1.set s3.2.2.toNat (s3.2.1, x9.2.1, x9.2.2.1, x9.2.2.2)).set s3.2.2.toNat (x10.1, IntKind.i64.wrap (s3.2.1 + 1), x10.2.2.1, x10.2.2.2)).set s3.2.2.toNat (x11.1, x11.2.1, IntKind.i64.wrap ((IntKind.i64.wrap (s3.2.1 + 1)) + 1), x11.2.2.2)) s3.2.2).bind fun x12 => some (.nxt ((((s3.1.set s3.2.2.toNat (s3.2.1, x9.2.1, x9.2.2.1, x9.2.2.2)).set s3.2.2.toNat (x10.1, IntKind.i64.wrap (s3.2.1 + 1), x10.2.2.1, x10.2.2.2)).set s3.2.2.toNat (x11.1, x11.2.1, IntKind.i64.wrap ((IntKind.i64.wrap (s3.2.1 + 1)) + 1), x11.2.2.2)).set s3.2.2.toNat (x12.1, x12.2.1, x12.2.2.1, IntKind.i64.wrap ((IntKind.i64.wrap ((IntKind.i64.wrap (s3.2.1 + 1)) + 1)) + 1)), IntKind.i64.wrap ((IntKind.i64.wrap ((IntKind.i64.wrap ((IntKind.i64.wrap (s3.2.1 + 1)) + 1)) + 1)) + 1), IntKind.i64.wrap (s3.2.2 + 1)))) else (some (.brk (s3.1, s3.2.1, s3.2.2)))
def m_w_markTokenS (p0a : List (Int × Int × Int × Int)) (p1k : Int) : Option (Int × (List (Int × Int × Int × Int))) :=
  bindL (loopM (m_w_markTokenS_l0) FUEL (p0a, p1k, 0)) (fun r => some r) (fun s4 => some (s4.2.1, s4.1))
def m_w_markExpr (p0a : (List (Int × Int × Int × Int))) (p1k : Int) : Option (Int × ((List (Int × Int × Int × Int)))) :=
  (m_w_markTokenS p0a p1k).bind fun r1 => some (r1.1, r1.2)
def m_w_markBoolS_l0 (s3 : (List Bool) × Int × Int) : Option (Out (Int × (List Bool)) ((List Bool) × Int × Int)) :=
  if decide (s3.2.2 < (s3.1.length : Int)) then ((getI s3.1 s3.2.2).bind fun x3 => some (.nxt (s3.1.set s3.2.2.toNat ((Int.tmod s3.2.1 3) == 0), IntKind.i64.wrap (s3.2.1 + 1), IntKind.i64.wrap (s3.2.2 + 1)))) else (some (.brk (s3.1, s3.2.1, s3.2.2)))
def m_w_markBoolS (p0a : List Bool) (p1k : Int) : Option (Int × (List Bool)) :=
  bindL (loopM (m_w_markBoolS_l0) FUEL (p0a, p1k, 0)) (fun r => some r) (fun s4 => some (s4.2.1, s4.1))
def m_w_markIntS_l0 (s3 : (List Int) × Int × Int) : Option (Out (Int × (List Int)) ((List Int) × Int × Int)) :=
  if decide (s3.2.2 < (s3.1.length : Int)) then ((getI s3.1 s3.2.2).bind fun x3 => some (.nxt (s3.1.set s3.2.2.toNat s3.2.1, IntKind.i64.wrap (s3.2.1 + 1), IntKind.i64.wrap (s3.2.2 + 1)))) else (some (.brk (s3.1, s3.2.1, s3.2.2)))
def m_w_markIntS (p0a : List Int) (p1k : Int) : Option (Int × (List Int)) :=
  bindL (loopM (m_w_markIntS_l0) FUEL (p0a, p1k, 0)) (fun r => some r) (fun s4 => some (s4.2.1, s4.1))
def m_w_markIntSS_l0 (s3 : (List (List Int)) × Int × Int) : Option (Out (Int × (List (List Int))) ((List (List Int)) × Int × Int)) :=
  if decide (s3.2.2 < (s3.1.length : Int)) then ((getI s3.1 s3.2.2).bind fun x3 => (m_w_markIntS x3 s3.2.1).bind fun r6 => some (.nxt (s3.1.set s3.2.2.toNat r6.2, r6.1, IntKind.i64.wrap (s3.2.2 + 1)))) else (some (.brk (s3.1, s3.2.1, s3.2.2)))
def m_w_markIntSS (p0a : List (List Int)) (p1k : Int) : Option (Int × (List (List Int))) :=
  bindL (loopM (m_w_markIntSS_l0) FUEL (p0a, p1k, 0)) (fun r => some r) (fun s4 => some (s4.2.1, s4.1))
def m_w_markAutomaton (p0a : Int × (List Bool) × (List (List Int))) (p1k : Int) : Option (Int × (Int × (List Bool) × (List (List Int)))) :=
  (m_w_markBoolS p0a.2.1 p1k).bind fun r1 => (m_w_markIntSS p0a.2.2 r1.1).bind fun r2 => some (r2.1, (p0a.1, r1.2, r2.2))
def m_w_heldBoolS_l0 (p0a : List Bool) (s3 : Int × Int) : Option (Out Int (Int × Int)) :=
  if decide (s3.2 < (p0a.length : Int)) then ((getI p0a s3.2).bind fun x3 => if x3 != ((Int.tmod s3.1 3) == 0) then (some (.ret (-1))) else (some (.nxt (IntKind.i64.wrap (s3.1 + 1), IntKind.i64.wrap (s3.2 + 1))))) else (some (.brk (s3.1, s3.2)))
def m_w_heldBoolS (p0a : List Bool) (p1k : Int) : Option Int :=
  bindL (loopM (m_w_heldBoolS_l0 p0a) FUEL (p1k, 0)) (fun r => some r) (fun s4 => some s4.1)
def m_w_heldIntS_l0 (p0a : List Int) (s3 : Int × Int) : Option (Out Int (Int × Int)) :=
  if decide (s3.2 < (p0a.length : Int)) then ((getI p0a s3.2).bind fun x3 => if x3 != s3.1 then (some (.ret (-1))) else (some (.nxt (IntKind.i64.wrap (s3.1 + 1), IntKind.i64.wrap (s3.2 + 1))))) else (some (.brk (s3.1, s3.2)))
def m_w_heldIntS (p0a : List Int) (p1k : Int) : Option Int :=
  bindL (loopM (m_w_heldIntS_l0 p0a) FUEL (p1k, 0)) (fun r => some r) (fun s4 => some s4.1)
def m_w_heldIntSS_l0 (p0a : List (List Int)) (s3 : Int × Int) : Option (Out Int (Int × Int)) :=
  if decide (s3.2 < (p0a.length : Int)) then ((getI p0a s3.2).bind fun x3 => (m_w_heldIntS x3 s3.1).bind fun r6 => if decide (r6 < 0) then (some (.ret (-1))) else (some (.nxt (r6, IntKind.i64.wrap (s3.2 + 1))))) else (some (.brk (s3.1, s3.2)))
def m_w_heldIntSS (p0a : List (List Int)) (p1k : Int) : Option Int :=
  bindL (loopM (m_w_heldIntSS_l0 p0a) FUEL (p1k, 0)) (fun r => some r) (fun s4 => some s4.1)
def m_w_heldAutomaton (p0a : Int × (List Bool) × (List (List Int))) (p1k : Int) : Option Int :=
  (m_w_heldBoolS p0a.2.1 p1k).bind fun r1 => if decide (r1 < 0) then (some (-1)) else ((m_w_heldIntSS p0a.2.2 r1).bind fun r2 => if decide (r2 < 0) then (some (-1)) else (some r2))
def m_w_FnExactCompileExpr (p0 : (List (Int × Int × Int × Int))) : Option Bool :=
  (m_w_szExpr p0 1048576).bind fun r1 => if decide (r1 < 0) then (some true) else ((m_w_toExpr p0).bind fun r2 => (m_s_CompileExpr r2).bind fun r3 => (m_w_toExpr p0).bind fun r4 => (m_i_CompileExpr r4).bind fun r5 => (m_w_eqAutomaton (r5.1.1, r5.1.2.1, r5.1.2.2) (r3.1.1, r3.1.2.1, r3.1.2.2)).bind fun r6 => if r6 then (if r5.2 != r3.2 then (some false) else ((m_w_toExpr p0).bind fun r7 => (m_w_eqExpr r4 r7).bind fun r8 => if r8 then ((m_w_markExpr r4 1).bind fun r9 => if decide (r9.1 < 0) then (some false) else ((m_w_eqAutomaton (r5.1.1, r5.1.2.1, r5.1.2.2) (r3.1.1, r3.1.2.1, r3.1.2.2)).bind fun r10 => if r10 then (if r5.2 != r3.2 then (some false) else ((m_w_markAutomaton (r5.1.1, r5.1.2.1, r5.1.2.2) 1).bind fun r11 => (m_w_heldAutomaton (r5.1.1, r11.2.2.1, r11.2.2.2) 1).bind fun r12 => if decide (r12 < 0) then (some false) else (if r12 != r11.1 then (some false) else ((m_w_toExpr p0).bind fun r13 => (m_i_CompileExpr r13).bind fun r14 => (m_w_eqAutomaton (r14.1.1, r14.1.2.1, r14.1.2.2) (r3.1.1, r3.1.2.1, r3.1.2.2)).bind fun r15 => if r15 then (if r14.2 != r3.2 then (some false) else ((m_w_heldAutomaton (r5.1.1, r11.2.2.1, r11.2.2.2) 1).bind fun r16 => if decide (r16 < 0) then (some false) else (if r16 != r11.1 then (some false) else (some true)))) else (some false))))) else (some false))) else (some false))) else (some false))
end Go.Proofs.Ytofopdbnkafljaa.D
/- Printed by lp.py: what is known of the types and of the functions. -/
set_option linter.unusedVariables false
set_option maxRecDepth 1000000
namespace Go.Proofs.Ytofopdbnkafljaa.R
open Go.RowKit
open Go.Proofs.Ytofopdbnkafljaa.D
abbrev y3 : Ty := .int .i64
abbrev y60 : Ty := .prod y3 (.prod y3 (.prod y3 y3))
abbrev t76 : Ty := .tree 97 76 y60
abbrev y123 : Ty := .int .u32
abbrev y126 : Ty := .int .u64
abbrev y72 : Ty := .prod y3 (.prod y3 (.prod y3 y3))
abbrev y22 : Ty := .sl 72 y72
abbrev y24 : Ty := .wr y22
abbrev y4 : Ty := .bool
abbrev y26 : Ty := .sl 4 y4
abbrev y42 : Ty := .sl 3 y3
abbrev y27 : Ty := .sl 42 y42
abbrev y29 : Ty := .prod y3 (.prod y26 y27)
abbrev y32 : Ty := .sl 60 y60
abbrev y34 : Ty := .wr y32
abbrev y44 : Ty := .prod y42 (.prod y3 (.prod y3 (.prod y42 y4)))
abbrev y62 : Ty := .prod y4 (.prod y3 y3)
abbrev y74 : Ty := .prod y3 (.prod y3 y4)
abbrev y76 : Ty := .fro t76
abbrev y89 : Ty := .int .u64
abbrev y95 : Ty := .sl 76 y76
abbrev y97 : Ty := .prod y60 y95
theorem ti3 : TI Try.prog 3 false 1 := ⟨⟨_, Try.underlying3, rfl⟩, by kernel_rfl⟩
theorem eqt60 (a0 : Int) (a1 : Int) (a2 : Int) (a3 : Int) (b0 : Int) (b1 : Int) (b2 : Int) (b3 : Int) (w : World) : EqT Try.prog 60 (.agg #[.int .i64 a0, .int .i64 a1, .int .i64 a2, .int .i64 a3]) (.agg #[.int .i64 b0, .int .i64 b1, .int .i64 b2, .int .i64 b3]) ((a0 == b0) && ((a1 == b1) && ((a2 == b2) && ((a3 == b3) && true)))) w := eqT_of w Try.underlying60 (by kernel_rfl) (by kernel_rfl) (eqF_cons rfl (part_1 ti3 rfl) (part_1 ti3 rfl) (run_equalIn_int w 9998 3 _ _ _ _ Try.underlying3) (eqF_cons rfl (part_1 ti3 rfl) (part_1 ti3 rfl) (run_equalIn_int w 9998 3 _ _ _ _ Try.underlying3) (eqF_cons rfl (part_1 ti3 rfl) (part_1 ti3 rfl) (run_equalIn_int w 9998 3 _ _ _ _ Try.underlying3) (eqF_cons rfl (part_1 ti3 rfl) (part_1 ti3 rfl) (run_equalIn_int w 9998 3 _ _ _ _ Try.underlying3) (eqF_nil w)))))
theorem mz3 (w : World) : (zeroValue 3).run Try.prog w = .ok (.int .i64 0) w := by kernel_rfl
theorem kk3 : KeyOk Try.prog 3 (fun n : Int => Value.int .i64 n) iLit iOk := kk_int Try.underlying3
theorem ek3 : EltOk Try.prog 3 (fun n : Int => Value.int .i64 n) iLit iOk 0 := ek_int Try.underlying3 mz3
def tt : TT := [(3, ⟨false, 1, none, y3, [], some 8, none, false, none, none, some (some .i64), false, none⟩),
  (4, ⟨false, 1, none, y4, [], some 1, none, true, none, none, none, false, none⟩),
  (22, ⟨false, 1, some 72, y22, [], some 24, none, false, none, none, none, false, none⟩),
  (24, ⟨true, 1, none, y24, [(0, 0)], some 24, some [(0, 1)], false, none, none, none, false, none⟩),
  (26, ⟨false, 1, some 4, y26, [], some 24, none, false, none, none, none, false, none⟩),
  (27, ⟨false, 1, some 42, y27, [], some 24, none, false, none, none, none, false, none⟩),
  (29, ⟨true, 3, none, y29, [(0, 0), (1, 0), (2, 0)], some 56, some [(0, 1), (1, 1), (2, 1)], false, none, none, none, false, none⟩),
  (32, ⟨false, 1, some 60, y32, [], some 24, none, false, none, none, none, false, none⟩),
  (34, ⟨true, 1, none, y34, [(0, 0)], some 24, some [(0, 1)], false, none, none, none, false, none⟩),
  (42, ⟨false, 1, some 3, y42, [], some 24, none, false, none, none, none, false, none⟩),
  (44, ⟨true, 5, none, y44, [(0, 0), (1, 0), (2, 0), (3, 0), (4, 0)], some 72, some [(0, 1), (1, 1), (2, 1), (3, 1), (4, 1)], false, none, none, none, false, none⟩),
  (60, ⟨true, 4, none, y60, [(0, 0), (1, 0), (2, 0), (3, 0)], some 32, some [(0, 1), (1, 1), (2, 1), (3, 1)], false, some [some .i64, some .i64, some .i64, some .i64], none, none, false, none⟩),
  (62, ⟨true, 3, none, y62, [(0, 0), (1, 0), (2, 0)], some 24, some [(0, 1), (1, 1), (2, 1)], false, none, none, none, false, none⟩),
  (72, ⟨true, 4, none, y72, [(0, 0), (1, 0), (2, 0), (3, 0)], some 32, some [(0, 1), (1, 1), (2, 1), (3, 1)], false, none, none, none, false, none⟩),
  (74, ⟨true, 3, none, y74, [(0, 0), (1, 0), (2, 0)], some 24, some [(0, 1), (1, 1), (2, 1)], false, none, none, none, false, none⟩),
  (76, ⟨false, 1, none, y76, [], some 8, none, false, none, none, none, false, some 97⟩),
  (79, ⟨false, 1, none, .bool, [], none, none, false, none, none, none, true, none⟩),
  (81, ⟨false, 1, none, .bool, [], none, none, false, none, none, none, true, none⟩),
  (89, ⟨false, 1, none, y89, [], some 8, none, false, none, none, some (some .u64), false, none⟩),
  (95, ⟨false, 1, some 76, y95, [], some 24, none, false, none, none, none, false, none⟩),
  (97, ⟨true, 5, none, y97, [(0, 3), (4, 0)], some 56, some [(0, 4), (4, 1)], false, none, none, none, false, none⟩),
  (101, ⟨false, 1, none, .bool, [], none, none, false, none, some ⟨3, 3, .int, .int⟩, none, false, none⟩),
  (104, ⟨false, 1, none, .bool, [], none, none, false, none, none, none, true, none⟩),
  (120, ⟨false, 1, none, .bool, [], none, none, false, none, none, none, true, none⟩),
  (123, ⟨false, 1, none, y123, [], some 4, none, false, none, none, some (some .u32), false, none⟩),
  (126, ⟨false, 1, none, y126, [], some 8, none, false, none, none, some (some .u64), false, none⟩)]
theorem tt_ok : TTok Try.prog tt := ⟨td_flat (n := 1) (z := .int .i64 0) ⟨⟨_, Try.underlying3, rfl⟩, by kernel_rfl⟩ rfl (by unfold TZ; kernel_rfl) rfl (Nat.le_of_ble_eq_true rfl) (fun h => by cases h) (fun k h => by obtain rfl := Option.some.inj h; exact Try.underlying3),
  td_flat (n := 1) (z := .bool false) ⟨⟨_, Try.underlying4, rfl⟩, by kernel_rfl⟩ rfl (by unfold TZ; kernel_rfl) rfl (Nat.le_of_ble_eq_true rfl) (fun h => Try.underlying4) (fun k h => by cases h),
  td_sl ⟨⟨_, Try.underlying22, rfl⟩, by kernel_rfl⟩ Try.underlying22 (by unfold TZ; kernel_rfl),
  td_st (z := .agg #[.slice none 0 0]) ⟨⟨_, Try.underlying24, rfl⟩, by kernel_rfl⟩ rfl ⟨⟨_, _, Try.underlying24, rfl, rfl, by kernel_rfl⟩, trivial⟩ (by unfold TZ; kernel_rfl) rfl (Nat.le_of_ble_eq_true rfl) ⟨_, Try.underlying24, by kernel_rfl⟩ (fun ks h => by cases h),
  td_sl ⟨⟨_, Try.underlying26, rfl⟩, by kernel_rfl⟩ Try.underlying26 (by unfold TZ; kernel_rfl),
  td_sl ⟨⟨_, Try.underlying27, rfl⟩, by kernel_rfl⟩ Try.underlying27 (by unfold TZ; kernel_rfl),
  td_st (z := .agg #[.int .i64 0, .slice none 0 0, .slice none 0 0]) ⟨⟨_, Try.underlying29, rfl⟩, by kernel_rfl⟩ rfl ⟨⟨_, _, Try.underlying29, rfl, rfl, by kernel_rfl⟩, ⟨_, _, Try.underlying29, rfl, rfl, by kernel_rfl⟩, ⟨_, _, Try.underlying29, rfl, rfl, by kernel_rfl⟩, trivial⟩ (by unfold TZ; kernel_rfl) rfl (Nat.le_of_ble_eq_true rfl) ⟨_, Try.underlying29, by kernel_rfl⟩ (fun ks h => by cases h),
  td_sl ⟨⟨_, Try.underlying32, rfl⟩, by kernel_rfl⟩ Try.underlying32 (by unfold TZ; kernel_rfl),
  td_st (z := .agg #[.slice none 0 0]) ⟨⟨_, Try.underlying34, rfl⟩, by kernel_rfl⟩ rfl ⟨⟨_, _, Try.underlying34, rfl, rfl, by kernel_rfl⟩, trivial⟩ (by unfold TZ; kernel_rfl) rfl (Nat.le_of_ble_eq_true rfl) ⟨_, Try.underlying34, by kernel_rfl⟩ (fun ks h => by cases h),
  td_sl ⟨⟨_, Try.underlying42, rfl⟩, by kernel_rfl⟩ Try.underlying42 (by unfold TZ; kernel_rfl),
  td_st (z := .agg #[.slice none 0 0, .int .i64 0, .int .i64 0, .slice none 0 0, .bool false]) ⟨⟨_, Try.underlying44, rfl⟩, by kernel_rfl⟩ rfl ⟨⟨_, _, Try.underlying44, rfl, rfl, by kernel_rfl⟩, ⟨_, _, Try.underlying44, rfl, rfl, by kernel_rfl⟩, ⟨_, _, Try.underlying44, rfl, rfl, by kernel_rfl⟩, ⟨_, _, Try.underlying44, rfl, rfl, by kernel_rfl⟩, ⟨_, _, Try.underlying44, rfl, rfl, by kernel_rfl⟩, trivial⟩ (by unfold TZ; kernel_rfl) rfl (Nat.le_of_ble_eq_true rfl) ⟨_, Try.underlying44, by kernel_rfl⟩ (fun ks h => by cases h),
  td_st (z := .agg #[.int .i64 0, .int .i64 0, .int .i64 0, .int .i64 0]) ⟨⟨_, Try.underlying60, rfl⟩, by kernel_rfl⟩ rfl ⟨⟨_, _, Try.underlying60, rfl, rfl, by kernel_rfl⟩, ⟨_, _, Try.underlying60, rfl, rfl, by kernel_rfl⟩, ⟨_, _, Try.underlying60, rfl, rfl, by kernel_rfl⟩, ⟨_, _, Try.underlying60, rfl, rfl, by kernel_rfl⟩, trivial⟩ (by unfold TZ; kernel_rfl) rfl (Nat.le_of_ble_eq_true rfl) ⟨_, Try.underlying60, by kernel_rfl⟩ (fun ks h => by obtain rfl := Option.some.inj h; exact fun w a0 b0 a1 b1 a2 b2 a3 b3 => eqt60 a0 a1 a2 a3 b0 b1 b2 b3 w),
  td_st (z := .agg #[.bool false, .int .i64 0, .int .i64 0]) ⟨⟨_, Try.underlying62, rfl⟩, by kernel_rfl⟩ rfl ⟨⟨_, _, Try.underlying62, rfl, rfl, by kernel_rfl⟩, ⟨_, _, Try.underlying62, rfl, rfl, by kernel_rfl⟩, ⟨_, _, Try.underlying62, rfl, rfl, by kernel_rfl⟩, trivial⟩ (by unfold TZ; kernel_rfl) rfl (Nat.le_of_ble_eq_true rfl) ⟨_, Try.underlying62, by kernel_rfl⟩ (fun ks h => by cases h),
  td_st (z := .agg #[.int .i64 0, .int .i64 0, .int .i64 0, .int .i64 0]) ⟨⟨_, Try.underlying72, rfl⟩, by kernel_rfl⟩ rfl ⟨⟨_, _, Try.underlying72, rfl, rfl, by kernel_rfl⟩, ⟨_, _, Try.underlying72, rfl, rfl, by kernel_rfl⟩, ⟨_, _, Try.underlying72, rfl, rfl, by kernel_rfl⟩, ⟨_, _, Try.underlying72, rfl, rfl, by kernel_rfl⟩, trivial⟩ (by unfold TZ; kernel_rfl) rfl (Nat.le_of_ble_eq_true rfl) ⟨_, Try.underlying72, by kernel_rfl⟩ (fun ks h => by cases h),
  td_st (z := .agg #[.int .i64 0, .int .i64 0, .bool false]) ⟨⟨_, Try.underlying74, rfl⟩, by kernel_rfl⟩ rfl ⟨⟨_, _, Try.underlying74, rfl, rfl, by kernel_rfl⟩, ⟨_, _, Try.underlying74, rfl, rfl, by kernel_rfl⟩, ⟨_, _, Try.underlying74, rfl, rfl, by kernel_rfl⟩, trivial⟩ (by unfold TZ; kernel_rfl) rfl (Nat.le_of_ble_eq_true rfl) ⟨_, Try.underlying74, by kernel_rfl⟩ (fun ks h => by cases h),
  td_pt (e := 97) (E := 76) (u := y60) ⟨⟨_, Try.underlying76, rfl⟩, by kernel_rfl⟩ Try.underlying76 (by unfold TZ; kernel_rfl),
  td_fn (ty := .bool) (b := 8) ⟨⟨_, Try.underlying79, rfl⟩, by kernel_rfl⟩ rfl (by unfold TZ; kernel_rfl),
  td_fn (ty := .bool) (b := 8) ⟨⟨_, Try.underlying81, rfl⟩, by kernel_rfl⟩ rfl (by unfold TZ; kernel_rfl),
  td_flat (n := 1) (z := .int .u64 0) ⟨⟨_, Try.underlying89, rfl⟩, by kernel_rfl⟩ rfl (by unfold TZ; kernel_rfl) rfl (Nat.le_of_ble_eq_true rfl) (fun h => by cases h) (fun k h => by obtain rfl := Option.some.inj h; exact Try.underlying89),
  td_sl ⟨⟨_, Try.underlying95, rfl⟩, by kernel_rfl⟩ Try.underlying95 (by unfold TZ; kernel_rfl),
  td_st (z := .agg #[.int .i64 0, .int .i64 0, .int .i64 0, .int .i64 0, .slice none 0 0]) ⟨⟨_, Try.underlying97, rfl⟩, by kernel_rfl⟩ rfl ⟨⟨_, _, Try.underlying97, rfl, rfl, by kernel_rfl⟩, ⟨_, _, Try.underlying97, rfl, rfl, by kernel_rfl⟩, trivial⟩ (by unfold TZ; kernel_rfl) rfl (Nat.le_of_ble_eq_true rfl) ⟨_, Try.underlying97, by kernel_rfl⟩ (fun ks h => by cases h),
  td_mp (m := ⟨3, 3, .int, .int⟩) (ty := .bool) ⟨⟨_, Try.underlying101, rfl⟩, by kernel_rfl⟩ rfl ⟨Try.underlying101, kk3, ek3⟩,
  td_fn (ty := .bool) (b := 8) ⟨⟨_, Try.underlying104, rfl⟩, by kernel_rfl⟩ rfl (by unfold TZ; kernel_rfl),
  td_fn (ty := .bool) (b := 8) ⟨⟨_, Try.underlying120, rfl⟩, by kernel_rfl⟩ rfl (by unfold TZ; kernel_rfl),
  td_flat (n := 1) (z := .int .u32 0) ⟨⟨_, Try.underlying123, rfl⟩, by kernel_rfl⟩ rfl (by unfold TZ; kernel_rfl) rfl (Nat.le_of_ble_eq_true rfl) (fun h => by cases h) (fun k h => by obtain rfl := Option.some.inj h; exact Try.underlying123),
  td_flat (n := 1) (z := .int .u64 0) ⟨⟨_, Try.underlying126, rfl⟩, by kernel_rfl⟩ rfl (by unfold TZ; kernel_rfl) rfl (Nat.le_of_ble_eq_true rfl) (fun h => by cases h) (fun k h => by obtain rfl := Option.some.inj h; exact Try.underlying126), trivial⟩
theorem mixed : Try.prog.follows .mixedOrders = true := by kernel_rfl
def F_w_szTokenS : FS := ⟨[.rd y22, .rd y3], [y3], m_w_szTokenS, none⟩
def F_w_szExpr : FS := ⟨[.rd y24, .rd y3], [y3], m_w_szExpr, none⟩
def F_s_l1In : FS := ⟨[.rd y3, .rd y3, .rd y3], [y4], m_s_l1In, none⟩
def F_s_l2Letter : FS := ⟨[.rd y3], [y4], m_s_l2Letter, none⟩
def F_s_l8Arity : FS := ⟨[.rd y60], [y3], m_s_l8Arity, none⟩
def F_s_IsExpr : FS := ⟨[.rd y34], [y4], m_s_IsExpr, none⟩
def F_s_IsValidExpr : FS := ⟨[.rd y34], [y4], m_s_IsValidExpr, none⟩
def F_s_l8Start : FS := ⟨[.rd y32], [y3], m_s_l8Start, none⟩
def F_s_l10Size (n : Nat) : FS := ⟨[.rd y32], [y3], m_s_l10Size n, none⟩
def F_s_l8Copy : FS := ⟨[.rd y32], [y34], m_s_l8Copy, none⟩
def F_s_l8Join : FS := ⟨[.rd y34, .rd y34, .rd y60], [y34], m_s_l8Join, none⟩
def F_s_l8Leaf : FS := ⟨[.rd y3], [y34], m_s_l8Leaf, none⟩
def F_s_l10Times (n : Nat) : FS := ⟨[.rd y34, .rd y3, .rd y3], [y34], m_s_l10Times n, none⟩
def F_s_l10Expand (n : Nat) : FS := ⟨[.rd y32], [y34], m_s_l10Expand n, none⟩
def F_s_ExpandExpr : FS := ⟨[.rd y34], [y34, y4], m_s_ExpandExpr, none⟩
def F_s_l10Link : FS := ⟨[.ptr 44 y44, .rd y3, .rd y3], [], m_s_l10Link, none⟩
def F_s_l10Build (n : Nat) : FS := ⟨[.ptr 44 y44, .rd y32], [y62], m_s_l10Build n, none⟩
def F_s_BuildPositions : FS := ⟨[.rd y34], [y44, y4], m_s_BuildPositions, none⟩
def F_s_l10After : FS := ⟨[.rd y44, .rd y3, .rd y3], [y3], m_s_l10After, none⟩
def F_s_l11Find : FS := ⟨[.rd y42, .rd y3], [y3], m_s_l11Find, none⟩
def F_s_l10Accepts : FS := ⟨[.rd y44, .rd y3], [y4], m_s_l10Accepts, none⟩
def F_s_l11Subsets : FS := ⟨[.rd y44, .rd y3], [y29, y4], m_s_l11Subsets, none⟩
def F_s_l11Nothing : FS := ⟨[], [y29], m_s_l11Nothing, none⟩
def F_s_l11Number : FS := ⟨[.rd y29, .rd y42, .rd y26], [y29], m_s_l11Number, none⟩
def F_s_l11Live : FS := ⟨[.rd y29], [y26], m_s_l11Live, none⟩
def F_s_l12Key : FS := ⟨[.rd y29, .rd y42, .rd y3], [y42], m_s_l12Key, none⟩
def F_s_l2Cmp : FS := ⟨[.rd y42, .rd y42], [y3], m_s_l2Cmp, none⟩
def F_s_l12Classes : FS := ⟨[.rd y29], [y42], m_s_l12Classes, none⟩
def F_s_l12Minimize : FS := ⟨[.rd y29], [y29], m_s_l12Minimize, none⟩
def F_s_CompileExpr : FS := ⟨[.rd y34], [y29, y4], m_s_CompileExpr, none⟩
def F_w_toToken : FS := ⟨[.rd y72], [y60], m_w_toToken, none⟩
def F_w_toTokenS : FS := ⟨[.rd y22], [y32], m_w_toTokenS, none⟩
def F_w_toExpr : FS := ⟨[.rd y24], [y34], m_w_toExpr, none⟩
def F_i_within : FS := ⟨[.rd y3, .rd y3, .rd y3], [y4], m_i_within, none⟩
def F_i_isLetter : FS := ⟨[.rd y3], [y4], m_i_isLetter, none⟩
def F_i_tokenOk : FS := ⟨[.rd y60], [y4], m_i_tokenOk, none⟩
def F_g_slices_Clone_S__tree_tree : FS := ⟨[.rd y95], [y95], fun _ => none, some (76, 8)⟩
def F_i_treeOf : FS := ⟨[.rd y34], [t76], m_i_treeOf, none⟩
def F_i_IsExpr : FS := ⟨[.rd y34], [y4], m_i_IsExpr, none⟩
def F_i_IsValidExpr : FS := ⟨[.rd y34], [y4], m_i_IsValidExpr, none⟩
def F_i_tree_bound (n : Nat) : FS := ⟨[.rd t76], [y3], m_i_tree_bound n, none⟩
def F_i_leaf : FS := ⟨[.rd y3], [t76], m_i_leaf, none⟩
def F_i_repeated (n : Nat) : FS := ⟨[.eat t76, .rd y3, .rd y3], [t76], m_i_repeated n, none⟩
def F_i_tree_expand (n : Nat) : FS := ⟨[.rd t76], [t76], m_i_tree_expand n, none⟩
def F_i_tree_collect (n : Nat) : FS := ⟨[.rd t76, .ptr 34 y34], [], m_i_tree_collect n, none⟩
def F_i_tree_expr : FS := ⟨[.rd t76], [y34], m_i_tree_expr, none⟩
def F_i_ExpandExpr : FS := ⟨[.rd y34], [y34, y4], m_i_ExpandExpr, none⟩
def F_i_Positions_follow : FS := ⟨[.ptr 44 y44, .rd y3, .rd y3], [], m_i_Positions_follow, none⟩
def F_i_Positions_build (n : Nat) : FS := ⟨[.ptr 44 y44, .rd t76], [y74], m_i_Positions_build n, none⟩
def F_i_BuildPositions : FS := ⟨[.rd y34], [y44, y4], m_i_BuildPositions, none⟩
def F_i_numbered_int : FS := ⟨[.rd y3, .rd y3, .fn [y3] [y4], .fn [y3, y3] [y3, y4]], [y29, y4], m_i_numbered_int, none⟩
def F_i_Positions_accepts : FS := ⟨[.rd y44, .rd y3], [y4], m_i_Positions_accepts, none⟩
def F_i_Positions_after : FS := ⟨[.rd y44, .rd y3, .rd y3], [y3], m_i_Positions_after, none⟩
def F_i_determinize_1 : FS := ⟨[.rd y3, .rd y3, .cap 44 y44], [y3, y4], m_i_determinize_1, none⟩
def F_i_determinize : FS := ⟨[.rd y44, .rd y3], [y29, y4], m_i_determinize, none⟩
def F_g_slices_Clone_S_bool_bool : FS := ⟨[.rd y26], [y26], fun _ => none, some (4, 1)⟩
def F_i_Automaton_live : FS := ⟨[.rd y29], [y26], m_i_Automaton_live, none⟩
def F_g_slices_IndexFunc_S_S_int_S_int : FS := ⟨[.rd y27, .fn [y42] [y4]], [y3], m_g_slices_IndexFunc_S_S_int_S_int, none⟩
def F_g_slices_Equal_S_int_int : FS := ⟨[.rd y42, .rd y42], [y4], m_g_slices_Equal_S_int_int, none⟩
def F_i_Automaton_refine_1 : FS := ⟨[.rd y42, .cap 42 y42], [y4], m_i_Automaton_refine_1, none⟩
def F_i_Automaton_refine : FS := ⟨[.rd y29, .rd y42], [y42, y3], m_i_Automaton_refine, none⟩
def F_i_Automaton_classes : FS := ⟨[.rd y29], [y42], m_i_Automaton_classes, none⟩
def F_g_math_bits_Mul32 : FS := ⟨[.rd y123, .rd y123], [y123, y123], m_g_math_bits_Mul32, none⟩
def F_g_math_bits_Mul64 : FS := ⟨[.rd y126, .rd y126], [y126, y126], m_g_math_bits_Mul64, none⟩
def F_g_math_bits_Mul : FS := ⟨[.rd y89, .rd y89], [y89, y89], m_g_math_bits_Mul, none⟩
def F_g_slices_Repeat_S_int_int : FS := ⟨[.rd y42, .rd y3], [y42], m_g_slices_Repeat_S_int_int, none⟩
def F_i_nothing : FS := ⟨[], [y29], m_i_nothing, none⟩
def F_g_slices_Index_S_int_int : FS := ⟨[.rd y42, .rd y3], [y3], m_g_slices_Index_S_int_int, none⟩
def F_i_Automaton_minimize_1 : FS := ⟨[.rd y3, .cap 42 y42], [y3], m_i_Automaton_minimize_1, none⟩
def F_i_Automaton_minimize_2 : FS := ⟨[.rd y3, .cap 29 y29, .capf 104 [y3] [y3]], [y4], m_i_Automaton_minimize_2, none⟩
def F_i_Automaton_move : FS := ⟨[.rd y29, .rd y3, .rd y3], [y3], m_i_Automaton_move, none⟩
def F_i_Automaton_minimize_3 : FS := ⟨[.rd y3, .rd y3, .cap 29 y29, .capf 104 [y3] [y3], .cap 42 y42], [y3, y4], m_i_Automaton_minimize_3, none⟩
def F_i_Automaton_minimize : FS := ⟨[.rd y29], [y29], m_i_Automaton_minimize, none⟩
def F_i_small : FS := ⟨[.rd y29], [y29, y4], m_i_small, none⟩
def F_i_CompileExpr : FS := ⟨[.rd y34], [y29, y4], m_i_CompileExpr, none⟩
def F_w_eqBoolS : FS := ⟨[.rd y26, .rd y26], [y4], m_w_eqBoolS, none⟩
def F_w_eqIntS : FS := ⟨[.rd y42, .rd y42], [y4], m_w_eqIntS, none⟩
def F_w_eqIntSS : FS := ⟨[.rd y27, .rd y27], [y4], m_w_eqIntSS, none⟩
def F_w_eqAutomaton : FS := ⟨[.rd y29, .rd y29], [y4], m_w_eqAutomaton, none⟩
def F_w_eqToken : FS := ⟨[.rd y60, .rd y60], [y4], m_w_eqToken, none⟩
def F_w_eqTokenS : FS := ⟨[.rd y32, .rd y32], [y4], m_w_eqTokenS, none⟩
def F_w_eqExpr : FS := ⟨[.rd y34, .rd y34], [y4], m_w_eqExpr, none⟩
def F_w_markTokenS : FS := ⟨[.ow y32, .rd y3], [y3], m_w_markTokenS, none⟩
def F_w_markExpr : FS := ⟨[.ow y34, .rd y3], [y3], m_w_markExpr, none⟩
def F_w_markBoolS : FS := ⟨[.ow y26, .rd y3], [y3], m_w_markBoolS, none⟩
def F_w_markIntS : FS := ⟨[.ow y42, .rd y3], [y3], m_w_markIntS, none⟩
def F_w_markIntSS : FS := ⟨[.ow y27, .rd y3], [y3], m_w_markIntSS, none⟩
def F_w_markAutomaton : FS := ⟨[.ow y29, .rd y3], [y3], m_w_markAutomaton, none⟩
def F_w_heldBoolS : FS := ⟨[.rd y26, .rd y3], [y3], m_w_heldBoolS, none⟩
def F_w_heldIntS : FS := ⟨[.rd y42, .rd y3], [y3], m_w_heldIntS, none⟩
def F_w_heldIntSS : FS := ⟨[.rd y27, .rd y3], [y3], m_w_heldIntSS, none⟩
def F_w_heldAutomaton : FS := ⟨[.rd y29, .rd y3], [y3], m_w_heldAutomaton, none⟩
def F_w_FnExactCompileExpr : FS := ⟨[.rd y24], [y4], m_w_FnExactCompileExpr, none⟩
end Go.Proofs.Ytofopdbnkafljaa.R
