/- A drawn region, run on states: every order serves. No program text is named here. -/
import Derived.Test.YtfkocnnphjkmfaaRK
import Derived.Test.YtfkocnnphjkmfaaRQ
set_option linter.unusedVariables false
set_option linter.unusedSimpArgs false
set_option linter.unnecessarySimpa false
set_option linter.unusedSectionVars false
namespace Go.Proofs.Ytfkocnnphjkmfaa.R
open Go.RowKit
open Go.Proofs.Ytfkocnnphjkmfaa.D

/-! ### What a word hangs on -/
def LV.ids : LV → List Nat
  | .val _ => []
  | .nb _ => []
  | .rd h _ _ => [h.id]
  | .own h => [h.id]
  | .ptr h _ => [h.id]
  | .fn h _ _ _ => [h.id]
  | .fz h _ _ _ _ => [h.id]
  | .fzf h _ _ _ _ => [h.id]
def idsL : List LV → List Nat
  | [] => []
  | x :: l => x.ids ++ idsL l
def idsT : List (Bool × List LV) → List Nat
  | [] => []
  | y :: l => idsL y.2 ++ idsT l
def AV.ids : AV → List Nat
  | .one x => x.ids
  | .agg xs => idsL xs
  | .tup ys => idsT ys
  | .elr h _ _ _ _ _ _ => [h.id]
  | .elo h _ _ _ _ _ _ _ => [h.id]
  | .any h => [h.id]
  | .und => []
def Chk.ids : Chk → List Nat
  | .own _ _ => []
  | .blk _ cs => idsL cs
  | .hole _ _ _ _ _ _ _ _ _ lv => lv.ids
  | .box _ _ _ => []
  | .map _ _ _ _ _ => []
  | .clo _ first capt => idsT first ++ idsL capt
def entIds (h : Hdr) (c : Chk) : List Nat := h.id :: c.ids
theorem idsL_mem {x : LV} {i : Nat} : ∀ {l : List LV}, x ∈ l → i ∈ x.ids → i ∈ idsL l
  | y :: l, h, hi => by
    rcases List.mem_cons.1 h with rfl | h
    · exact List.mem_append_left _ hi
    · exact List.mem_append_right _ (idsL_mem h hi)
theorem idsT_mem {y : Bool × List LV} {i : Nat} : ∀ {l : List (Bool × List LV)}, y ∈ l → i ∈ idsL y.2 → i ∈ idsT l
  | z :: l, h, hi => by
    rcases List.mem_cons.1 h with rfl | h
    · exact List.mem_append_left _ hi
    · exact List.mem_append_right _ (idsT_mem h hi)
section
variable {P : Program} {w0 : World} {J : Hp} {θ θ' : Th} {n m : Nat} {chs chs' : List Ent}
theorem hv_loc {h : Hdr} (k : θ' h.id = θ h.id) : hv θ' h = hv θ h := by unfold hv; rw [k]
theorem LV.v_loc {x : LV} (h : ∀ i ∈ x.ids, θ' i = θ i) : x.v θ' = x.v θ := by
  cases x with
  | val _ => rfl
  | nb _ => rfl
  | rd k t d => exact hv_loc (h _ (by simp [LV.ids]))
  | own k => exact hv_loc (h _ (by simp [LV.ids]))
  | ptr k off => show Value.pointer (some ⟨bk (hv θ' k), off, none⟩) = _; rw [hv_loc (h _ (by simp [LV.ids]))]; rfl
  | fn k ps rs e => exact hv_loc (h _ (by simp [LV.ids]))
  | fz k T t d off => show Value.pointer (some ⟨bk (hv θ' k), off, none⟩) = _; rw [hv_loc (h _ (by simp [LV.ids]))]; rfl
  | fzf k T ps rs e => show Value.pointer (some ⟨bk (hv θ' k), 0, none⟩) = _; rw [hv_loc (h _ (by simp [LV.ids]))]; rfl
theorem LV.ok_loc {x : LV} (h : ∀ i ∈ x.ids, θ' i = θ i) (k : x.ok P w0 J θ n) : x.ok P w0 J θ' n := by
  cases x with
  | val _ => exact k
  | nb _ => trivial
  | rd g t d => exact ⟨k.1, by rw [hv_loc (h _ (by simp [LV.ids]))]; exact k.2⟩
  | own g => exact ⟨k.1, by rw [hv_loc (h _ (by simp [LV.ids]))]; exact k.2⟩
  | ptr g off => exact k
  | fn g ps rs e => exact ⟨k.1, by rw [hv_loc (h _ (by simp [LV.ids]))]; exact k.2⟩
  | fz g T t d off => exact ⟨k.1, by rw [hv_loc (h _ (by simp [LV.ids]))]; exact k.2⟩
  | fzf g T ps rs e => exact ⟨k.1, by rw [hv_loc (h _ (by simp [LV.ids]))]; exact k.2⟩
theorem map_loc {xs : List LV} (h : ∀ i ∈ idsL xs, θ' i = θ i) : xs.map (·.v θ') = xs.map (·.v θ) := List.map_congr_left fun x hx => LV.v_loc fun i hi => h i (idsL_mem hx hi)
theorem partV_loc {y : Bool × List LV} (hy : ∀ i ∈ idsL y.2, θ' i = θ i) : partV θ' y = partV θ y := by
  unfold partV
  rw [map_loc hy]
  split
  · rfl
  · cases hl : y.2 with
    | nil => rfl
    | cons x l => exact LV.v_loc fun i hi => hy i (by rw [hl]; exact List.mem_append_left _ hi)
theorem AV.v_loc {x : AV} (h : ∀ i ∈ x.ids, θ' i = θ i) : x.v θ' = x.v θ := by
  cases x with
  | one x => exact LV.v_loc h
  | agg xs => show Value.agg _ = Value.agg _; rw [map_loc h]
  | tup ys =>
    show Value.tuple _ = Value.tuple _
    congr 2
    refine List.map_congr_left fun y hy => ?_
    exact partV_loc fun i hi => h i (idsT_mem hy hi)
  | elr k E t xs x i off => show pt (hv θ' k) _ = _; rw [hv_loc (h _ (by simp [AV.ids]))]; rfl
  | elo k ver E t xs x i off => show pt (hv θ' k) _ = _; rw [hv_loc (h _ (by simp [AV.ids]))]; rfl
  | any k => exact hv_loc (h _ (by simp [AV.ids]))
  | und => rfl
theorem AV.ok_loc {x : AV} (h : ∀ i ∈ x.ids, θ' i = θ i) (k : x.ok P w0 J θ n chs) : x.ok P w0 J θ' n chs := by
  cases x with
  | one x => exact LV.ok_loc h k
  | agg xs => exact fun x hx => LV.ok_loc (fun i hi => h i (idsL_mem hx hi)) (k x hx)
  | tup ys => exact fun y hy x hx => LV.ok_loc (fun i hi => h i (idsT_mem hy (idsL_mem hx hi))) (k y hy x hx)
  | elr g E t xs x i off => exact ⟨k.1, k.2.1, by rw [hv_loc (h _ (by simp [AV.ids]))]; exact k.2.2⟩
  | elo g ver E t xs x i off => exact k
  | any g => exact k
  | und => trivial
theorem toCh_loc {e : Ent} (h : ∀ i ∈ entIds e.1 e.2.2, θ' i = θ i) : toCh P θ' e = toCh P θ e := by
  obtain ⟨k, ver, c⟩ := e
  have hk : hv θ' k = hv θ k := hv_loc (h _ (by simp [entIds]))
  cases c with
  | own t d => show Ch.own _ [hv θ' k] d = _; rw [hk]; rfl
  | blk T cells => show Ch.blk (bk (hv θ' k)) (cells.map (·.v θ')) T = _; rw [hk, map_loc fun i hi => h i (List.mem_cons_of_mem _ hi)]; rfl
  | hole over t d u y f i kk off lv => show Ch.gap _ [hv θ' k] _ f (ptB (hv θ' k)) (ptO (hv θ' k) + (i.toNat * kk + off)) (lv.v θ') = _; rw [hk, LV.v_loc fun i hi => h i (List.mem_cons_of_mem _ hi)]; rfl
  | box T t d => show Ch.box (bk (hv θ' k)) T _ d = _; rw [hk]; rfl
  | map K E kk e m => show @Ch.mp P K E kk.den e.den kk.dec kk.lit kk.ok e.lit e.z (hv θ' k) m = _; rw [hk]; rfl
  | clo _ _ _ => rfl
theorem okE_loc {e : Ent} (h : ∀ i ∈ entIds e.1 e.2.2, θ' i = θ i) (k : okE P w0 J θ n chs e) : okE P w0 J θ' n chs e := by
  obtain ⟨g, ver, c⟩ := e
  cases c with
  | own t d => exact k
  | blk T cells => exact ⟨k.1, k.2.1, fun x hx => LV.ok_loc (fun i hi => h i (List.mem_cons_of_mem _ (idsL_mem hx hi))) (k.2.2 x hx)⟩
  | hole over t d u y f i kk off lv => exact ⟨k.1, k.2.1, LV.ok_loc (fun i hi => h i (List.mem_cons_of_mem _ hi)) k.2.2.1, k.2.2.2⟩
  | box T t d => exact k
  | map K E kk e m => exact k
  | clo f first capt =>
    obtain ⟨h1, h2, h3, h4, h5⟩ := k
    have hf : ∀ y ∈ first, ∀ i ∈ idsL y.2, θ' i = θ i := fun y hy i hi => h i (List.mem_cons_of_mem _ (List.mem_append_left _ (idsT_mem hy hi)))
    have hc : ∀ i ∈ idsL capt, θ' i = θ i := fun i hi => h i (List.mem_cons_of_mem _ (List.mem_append_right _ hi))
    refine ⟨h1, h2, fun y hy x hx => LV.ok_loc (fun i hi => hf y hy i (idsL_mem hx hi)) (h3 y hy x hx), fun x hx => LV.ok_loc (fun i hi => hc i (idsL_mem hx hi)) (h4 x hx), ?_⟩
    show hv θ' g = _
    rw [hv_loc (h _ (by simp [entIds])), map_loc hc, List.map_congr_left fun y hy => partV_loc (hf y hy)]
    exact h5
/-- which entries are recalled -/
def AV.elos : AV → List (Hdr × Nat)
  | .elo h ver _ _ _ _ _ _ => [(h, ver)]
  | _ => []
def Chk.elos (ver : Nat) : Chk → List (Hdr × Nat)
  | .hole _ _ _ _ _ _ _ _ _ (.own l) => [(l, ver)]
  | _ => []
theorem LV.ok_le {x : LV} (hm : n ≤ m) (h : x.ok P w0 J θ n) : x.ok P w0 J θ m := LV.ok_same Same.rfl' hm h Hp.le.rfl
where Same.rfl' {n : Nat} {θ : Th} : Same n θ θ := fun i hi => Eq.refl _
theorem AV.ok_move {x : AV} (hn : n ≤ m) (hm : ∀ h ver c, (h, ver) ∈ x.elos → Mem chs n h ver c → ∀ e ∈ chs', ∀ c', Says e h ver c' → c' = c) (k : x.ok P w0 J θ n chs) : x.ok P w0 J θ m chs' := by
  cases x with
  | one x => exact LV.ok_le hn k
  | agg xs => exact fun x hx => LV.ok_le hn (k x hx)
  | tup ys => exact fun y hy x hx => LV.ok_le hn (k y hy x hx)
  | elr g E t xs x i off => exact ⟨Nat.lt_of_lt_of_le k.1 hn, k.2⟩
  | elo g ver E t xs x i off => exact ⟨Nat.lt_of_lt_of_le k.1 hn, k.2.1, Nat.lt_of_lt_of_le k.2.2.1 hn, hm _ _ _ (by simp [AV.elos]) k.2.2⟩
  | any g => exact Nat.lt_of_lt_of_le k hn
  | und => trivial
theorem okE_move {e : Ent} (hn : n ≤ m) (hm : ∀ h ver c, (h, ver) ∈ e.2.2.elos e.2.1 → Mem chs n h ver c → ∀ e ∈ chs', ∀ c', Says e h ver c' → c' = c) (k : okE P w0 J θ n chs e) : okE P w0 J θ m chs' e := by
  obtain ⟨g, ver, c⟩ := e
  cases c with
  | own t d => exact ⟨Nat.lt_of_lt_of_le k.1 hn, Nat.lt_of_lt_of_le k.2.1 hn, trivial⟩
  | blk T cells => exact ⟨Nat.lt_of_lt_of_le k.1 hn, Nat.lt_of_lt_of_le k.2.1 hn, fun x hx => LV.ok_le hn (k.2.2 x hx)⟩
  | hole over t d u y f i kk off lv =>
    refine ⟨Nat.lt_of_lt_of_le k.1 hn, Nat.lt_of_lt_of_le k.2.1 hn, LV.ok_le hn k.2.2.1, k.2.2.2.1, k.2.2.2.2.1, fun l hl => ?_⟩
    have := k.2.2.2.2.2 l hl
    exact ⟨Nat.lt_of_lt_of_le this.1 hn, hm _ _ _ (by subst hl; simp [Chk.elos]) this⟩
  | box T t d => exact ⟨Nat.lt_of_lt_of_le k.1 hn, Nat.lt_of_lt_of_le k.2.1 hn, trivial⟩
  | map K E kk e m => exact ⟨Nat.lt_of_lt_of_le k.1 hn, Nat.lt_of_lt_of_le k.2.1 hn, trivial⟩
  | clo f first capt => exact ⟨Nat.lt_of_lt_of_le k.1 hn, Nat.lt_of_lt_of_le k.2.1 hn, fun y hy x hx => LV.ok_le hn (k.2.2.1 y hy x hx), fun x hx => LV.ok_le hn (k.2.2.2.1 x hx), k.2.2.2.2⟩
end

/-! ### What has been done -/
structure TR where
  i : Nat
  o : Oper
  b : List Nat
  s : Sg
  r : Res
  run : Bool
def givesOf (n0 : Nat) (x : TR) : List Ent := x.r.gives.map fun g => (g.1, n0 + x.i, g.2)
def envOf (n0 : Nat) (env : List (Nat × Nat × AV)) : List TR → List (Nat × Nat × AV)
  | [] => env
  | x :: l => putE x.o.dst (n0 + x.i) x.r.av (envOf n0 env l)
def tabOf (n0 : Nat) (chs : List Ent) : List TR → List Ent
  | [] => chs
  | x :: l => givesOf n0 x ++ tabOf n0 chs l
def sameKey (a b : Ent) : Bool := Nat.beq a.2.1 b.2.1 && Hdr.beq a.1 b.1
def usedBy (e : Ent) (l : List TR) : Bool := l.any fun x => x.r.ns.any fun e' => sameKey e' e
def inB (n0 : Nat) (b : List Nat) (v : Nat) : Bool := Nat.blt v n0 || isIn (v - n0) b
def subS (s0 : Sg) (l : List TR) (i : Nat) (b : List Nat) : Sg :=
  ⟨(envOf s0.nxt s0.env l).filter fun e => inB s0.nxt b e.2.1, (tabOf s0.nxt s0.chs l).filter fun e => inB s0.nxt b e.2.1 && !usedBy e l, s0.nxt + i⟩
def endS (s0 : Sg) (l : List TR) : Sg := subS s0 l l.length (List.range l.length)
def recAt (i : Nat) : List TR → Option TR
  | [] => none
  | x :: l => if Nat.beq x.i i then some x else recAt i l
def addN (t : Nat) (l : List Nat) : List Nat := if isIn t l then l else t :: l
def addAll : List Nat → List Nat → List Nat
  | [], acc => acc
  | t :: l, acc => addAll l (addN t acc)
def bOf (l : List TR) : List Nat → List Nat → List Nat
  | [], acc => acc
  | j :: js, acc => bOf l js (addAll (match recAt j l with | some y => y.b | none => []) (addN j acc))
/-- a value that guards: both ways at once -/
def splitB {Y : Type} (g : Bool) (av : AV) (k : AV → Option Y) : Option Y := match g with
  | false => k av
  | true => match av with
    | .one (.val (.bool b)) => if b then k (.one (.val (.bool true))) else k (.one (.val (.bool false)))
    | .one (.nb b) => if b then k (.one (.val (.bool false))) else k (.one (.val (.bool true)))
    | _ => none
def isGuard (ops : List Oper) (i : Nat) : Bool := match ops with
  | [] => false
  | o :: ops => (match o.guard with | some (g, _) => Nat.beq g i | none => false) || isGuard ops i
section
variable {Y : Type} (V : Env) (ops : List Oper) (s0 : Sg) (k : List TR → Option Y)
def runD (o : Oper) (i : Nat) (l : List TR) (b : List Nat) (s : Sg) : Option Y :=
  chkT (okO V.n s o) (step V s (fun r => splitB (isGuard ops i) r.av fun av => k (⟨i, o, b, s, ⟨r.rs, r.ns, r.rest, r.gives, av⟩, true⟩ :: l)) o)
def skipD (o : Oper) (i : Nat) (l : List TR) (b : List Nat) (s : Sg) : Option Y :=
  k (⟨i, o, b, s, ⟨[], [], s.chs, [], .und⟩, false⟩ :: l)
def opD (o : Oper) (i : Nat) (l : List TR) (b : List Nat) (s : Sg) : Option Y := match o.guard with
  | none => runD V ops k o i l b s
  | some (g, want) => match recAt g l with
    | some y => match y.r.av with
      | .one (.val (.bool c)) => match c == want with
        | true => runD V ops k o i l b s
        | false => skipD k o i l b s
      | .und => skipD k o i l b s
      | _ => none
    | none => none
def goD : List Oper → Nat → List TR → Option Y
  | [], _, l => k l
  | o :: os, i, l => (fun b => opD V ops (goD os (i + 1)) o i l b (subS s0 l i b)) (bOf l (edgesOf o) [])
end
def GdOk (l : List TR) (x : TR) : Prop := match x.o.guard with
  | none => x.run = true
  | some (g, want) => ∃ y ∈ l, y.i = g ∧ ((∃ c : Bool, y.r.av = .one (.val (.bool c)) ∧ x.run = (c == want)) ∨ (y.r.av = .und ∧ x.run = false))
structure RecOk (P : Program) (w0 : World) (n : Nat) (s0 : Sg) (ops : List Oper) (l : List TR) (x : TR) : Prop where
  hi : x.i = l.length
  ho : ops[x.i]? = some x.o
  hb : x.b = bOf l (edgesOf x.o) []
  hs : x.s = subS s0 l x.i x.b
  good : x.run = true → Good P w0 x.s x.o x.r ∧ okO n x.s x.o = true
  skip : x.run = false → x.r = ⟨[], [], x.s.chs, [], .und⟩
  gd : GdOk l x
def AllOk (P : Program) (w0 : World) (n : Nat) (s0 : Sg) (ops : List Oper) : List TR → Prop
  | [] => True
  | x :: l => RecOk P w0 n s0 ops l x ∧ AllOk P w0 n s0 ops l
section
variable {Y : Type} {V : Env} {P : Program} {w0 : World} {ops : List Oper} {s0 : Sg} {k : List TR → Option Y} {res : Y}
theorem recAt_ok {i : Nat} {y : TR} : ∀ {l : List TR}, recAt i l = some y → y ∈ l ∧ y.i = i
  | x :: l, h => by
    unfold recAt at h
    split at h
    · rename_i hx
      obtain rfl := Option.some.inj h
      exact ⟨by simp, Nat.eq_of_beq_eq_true hx⟩
    · obtain ⟨h1, h2⟩ := recAt_ok h
      exact ⟨by simp [h1], h2⟩
theorem good_setav {s : Sg} {o : Oper} {r : Res} {av : AV} (h : Good P w0 s o r) (hv : ∀ θ, av.v θ = r.av.v θ) (hok : ∀ (J : Hp) (θ : Th) n chs, av.ok P w0 J θ n chs) : Good P w0 s o ⟨r.rs, r.ns, r.rest, r.gives, av⟩ :=
  ⟨h.perm, h.says, fun J θ hf => OpT.weak (h.op J θ hf) (fun v hv' => ⟨hok _ _ _ _, (hv _).trans hv'.2.1, hv'.2.2⟩) (fun v _ => rfl)⟩
theorem splitB_ok {g : Bool} {s : Sg} {o : Oper} {r : Res} {f : AV → Option Y} (h : splitB g r.av f = some res) (hG : Good P w0 s o r) : ∃ av, f av = some res ∧ Good P w0 s o ⟨r.rs, r.ns, r.rest, r.gives, av⟩ := by
  unfold splitB at h
  split at h
  · exact ⟨r.av, h, hG⟩
  · split at h
    · rename_i b hb
      cases b with
      | true => exact ⟨_, h, good_setav hG (fun θ => by rw [hb]) fun _ _ _ _ => Eq.refl true⟩
      | false => exact ⟨_, h, good_setav hG (fun θ => by rw [hb]) fun _ _ _ _ => Eq.refl true⟩
    · rename_i b hb
      cases b with
      | true => exact ⟨_, h, good_setav hG (fun θ => by rw [hb]; rfl) fun _ _ _ _ => Eq.refl true⟩
      | false => exact ⟨_, h, good_setav hG (fun θ => by rw [hb]; rfl) fun _ _ _ _ => Eq.refl true⟩
    · cases h
theorem goD_ok (hT : TTok P V.tt) (hF : FTok P V.ft) : ∀ {os : List Oper} {i : Nat} {l : List TR}, goD V ops s0 k os i l = some res → i = l.length → ops.drop i = os → AllOk P w0 V.n s0 ops l → ∃ l', k l' = some res ∧ AllOk P w0 V.n s0 ops l' ∧ l'.length = ops.length
  | [], i, l, h, hi, hd, ha => ⟨l, h, ha, by
    have h1 := List.drop_eq_nil_iff.1 hd
    have : ∀ {l : List TR}, AllOk P w0 V.n s0 ops l → l.length ≤ ops.length := by
      intro l
      induction l with
      | nil => intro _; exact Nat.zero_le _
      | cons x l ih =>
        rintro ⟨hx, hl⟩
        have := (List.getElem?_eq_some_iff.1 hx.ho).1
        rw [hx.hi] at this
        exact this
    have := this ha
    omega⟩
  | o :: os, i, l, h, hi, hd, ha => by
    have ho : ops[i]? = some o := by
      have := congrArg (·[0]?) hd
      simpa using this
    have hd' : ops.drop (i + 1) = os := by
      rw [← List.drop_drop, hd]; rfl
    have h : opD V ops (goD V ops s0 k os (i + 1)) o i l (bOf l (edgesOf o) []) (subS s0 l i (bOf l (edgesOf o) [])) = some res := h
    have run : (GdOk l ⟨i, o, bOf l (edgesOf o) [], subS s0 l i (bOf l (edgesOf o) []), ⟨[], [], [], [], .und⟩, true⟩) → runD V ops (goD V ops s0 k os (i + 1)) o i l (bOf l (edgesOf o) []) (subS s0 l i (bOf l (edgesOf o) [])) = some res → ∃ l', k l' = some res ∧ AllOk P w0 V.n s0 ops l' ∧ l'.length = ops.length := by
      intro hg h
      obtain ⟨hk, h⟩ := chkT_ok h
      obtain ⟨r, hr, hG⟩ := step_ok (w0 := w0) hT hF h
      obtain ⟨av, h, hG⟩ := splitB_ok hr hG
      exact goD_ok hT hF h (by rw [hi]; rfl) hd' ⟨⟨hi, ho, rfl, rfl, fun _ => ⟨hG, hk⟩, fun e => (by cases e), hg⟩, ha⟩
    have skp : (GdOk l ⟨i, o, bOf l (edgesOf o) [], subS s0 l i (bOf l (edgesOf o) []), ⟨[], [], [], [], .und⟩, false⟩) → skipD (goD V ops s0 k os (i + 1)) o i l (bOf l (edgesOf o) []) (subS s0 l i (bOf l (edgesOf o) [])) = some res → ∃ l', k l' = some res ∧ AllOk P w0 V.n s0 ops l' ∧ l'.length = ops.length := by
      intro hg h
      exact goD_ok hT hF h (by rw [hi]; rfl) hd' ⟨⟨hi, ho, rfl, rfl, fun e => (by cases e), fun _ => rfl, hg⟩, ha⟩
    unfold opD at h
    split at h
    · rename_i hg
      exact run (by unfold GdOk; simp only [hg]) h
    · rename_i g want hg
      split at h
      · rename_i y hy
        obtain ⟨hy1, hy2⟩ := recAt_ok hy
        split at h
        · rename_i c hc
          split at h
          · rename_i hcw
            exact run (by unfold GdOk; simp only [hg]; exact ⟨y, hy1, hy2, .inl ⟨c, hc, hcw.symm⟩⟩) h
          · rename_i hcw
            exact skp (by unfold GdOk; simp only [hg]; exact ⟨y, hy1, hy2, .inl ⟨c, hc, hcw.symm⟩⟩) h
        · rename_i hc
          exact skp (by unfold GdOk; simp only [hg]; exact ⟨y, hy1, hy2, .inr ⟨hc, trivial⟩⟩) h
        · cases h
      · cases h
end
end Go.Proofs.Ytfkocnnphjkmfaa.R
