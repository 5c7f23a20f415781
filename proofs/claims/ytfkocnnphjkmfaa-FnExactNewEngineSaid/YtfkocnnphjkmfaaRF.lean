/- Loads, stores and parts taken out, of memory of the function's own: steps. No program text is named here. -/
import Derived.Test.YtfkocnnphjkmfaaRE
set_option linter.unusedVariables false
set_option linter.unusedSimpArgs false
set_option linter.unnecessarySimpa false
set_option linter.unusedSectionVars false
namespace Go.Proofs.Ytfkocnnphjkmfaa.R
open Go.RowKit
open Go.Proofs.Ytfkocnnphjkmfaa.D

/-! ### Owned data out of cells -/
/-- what takes a value of one cell apart from its chunk: data, the entries used -/
def takeSl (E : TypeId) (t : Ty) (x : LV) (chs : List Ent) : Option (List t.den × List Ent × List Ent) := match x with
  | .own h => (pull h chs).bind fun r => match r.1.2.2 with
    | .own t' d => (castEq t' (.sl E t) d).bind fun d => some (d, [r.1], r.2)
    | _ => none
  | .val v => chkT (isNil v) (some ([], [], chs))
  | _ => none
structure Took (t : Ty) where
  d : t.den
  cells : List LV
  used : List Ent
  rest : List Ent
def takeData : (t : Ty) → List LV → List Ent → Option (Took t)
  | .prod a b, l, chs => (takeData a l chs).bind fun x => (takeData b x.cells x.rest).bind fun y => some ⟨(x.d, y.d), y.cells, x.used ++ y.used, y.rest⟩
  | .sl E t, l, chs => match l with
    | x :: r => (takeSl E t x chs).bind fun q => some ⟨q.1, r, q.2.1, q.2.2⟩
    | [] => none
  | .int k, l, chs => (rdData (.int k) l).bind fun x => some ⟨x.1, x.2, [], chs⟩
  | .bool, l, chs => (rdData .bool l).bind fun x => some ⟨x.1, x.2, [], chs⟩
  | .str, l, chs => (rdData .str l).bind fun x => some ⟨x.1, x.2, [], chs⟩
  | .fro t, l, chs => (rdData t l).bind fun x => some ⟨x.1, x.2, [], chs⟩
  | .wr t, l, chs => (takeData t l chs).bind fun x => some ⟨x.d, x.cells, x.used, x.rest⟩
theorem takeSl_ok {E : TypeId} {t : Ty} {x : LV} {chs : List Ent} {q : List t.den × List Ent × List Ent} (h : takeSl E t x chs = some q) (P : Program) (J : Hp) (θ : Th) : chs.Perm (q.2.1 ++ q.2.2) ∧ Bun J (q.2.1.map (toCh P θ)) (Ty.sl E t).rep [x.v θ] q.1 := by
  cases x with
  | own h' =>
    obtain ⟨r, hr, h⟩ := bind_some (show (pull h' chs).bind _ = some q from h)
    obtain ⟨p, k⟩ := pull_ok hr
    obtain ⟨⟨h2, ver, c⟩, rest⟩ := r
    obtain rfl : h2 = h' := k
    cases c with
    | own t' d =>
      obtain ⟨d', hd, h⟩ := bind_some (show (castEq t' (.sl E t) d).bind _ = some q from h)
      obtain ⟨e, rfl⟩ := castEq_ok hd
      obtain rfl := Option.some.inj h
      subst e
      exact ⟨p, bun_own⟩
    | _ => cases h
  | val v =>
    obtain ⟨h1, h⟩ := chkT_ok (show chkT (isNil v) _ = some q from h)
    obtain rfl := Option.some.inj h
    refine ⟨List.Perm.refl _, ?_⟩
    show Bun J [] _ [v] []
    rw [isNil_ok h1]
    exact bun_nil
  | _ => cases h
theorem takeSl_perm {E : TypeId} {t : Ty} {x : LV} {chs : List Ent} {q : List t.den × List Ent × List Ent} (h : takeSl E t x chs = some q) : chs.Perm (q.2.1 ++ q.2.2) := by
  cases x with
  | own h' =>
    obtain ⟨r, hr, h⟩ := bind_some (show (pull h' chs).bind _ = some q from h)
    obtain ⟨p, k⟩ := pull_ok hr
    obtain ⟨⟨h2, ver, c⟩, rest⟩ := r
    cases c with
    | own t' d =>
      obtain ⟨d', hd, h⟩ := bind_some (show (castEq t' (.sl E t) d).bind _ = some q from h)
      obtain rfl := Option.some.inj h
      exact p
    | _ => cases h
  | val v =>
    obtain ⟨h1, h⟩ := chkT_ok (show chkT (isNil v) _ = some q from h)
    obtain rfl := Option.some.inj h
    exact List.Perm.refl _
  | _ => cases h
theorem bun_of_rd {J : Hp} {α : Type} {R : Rep α} (hc : Cpy R R) {c : List Value} {x : α} (h : R.rd J c x) : Bun J [] R c x := fun w F k => by
  rw [show F = [] from k]; exact hc h
theorem takeData_ok {P : Program} {w0 : World} {J : Hp} {θ : Th} {n : Nat} : ∀ {t : Ty} {cs : List LV} {chs : List Ent} {r : Took t}, takeData t cs chs = some r → (∀ x ∈ cs, x.ok P w0 J θ n) →
    chs.Perm (r.used ++ r.rest) ∧ ∃ c1, cs = c1 ++ r.cells ∧ Bun J (r.used.map (toCh P θ)) t.rep (c1.map (·.v θ)) r.d := by
  intro t
  induction t with
  | prod a b iha ihb =>
    intro cs chs r h hc
    obtain ⟨x, hx, h⟩ := bind_some (show (takeData a cs chs).bind _ = some r from h)
    obtain ⟨y, hy, h⟩ := bind_some h
    obtain rfl := Option.some.inj h
    obtain ⟨p1, c1, rfl, k1⟩ := iha hx hc
    obtain ⟨p2, c2, e2, k2⟩ := ihb hy fun z hz => hc z (List.mem_append_right _ hz)
    refine ⟨by rw [List.append_assoc]; exact p1.trans (p2.append_left _), c1 ++ c2, by rw [e2, List.append_assoc], ?_⟩
    rw [List.map_append, List.map_append]
    exact bun_prod k1 k2
  | sl E t ih =>
    intro cs chs r h hc
    cases cs with
    | nil => cases h
    | cons x l =>
      obtain ⟨q, hq, h⟩ := bind_some (show (takeSl E t x chs).bind _ = some r from h)
      obtain rfl := Option.some.inj h
      obtain ⟨p, k⟩ := takeSl_ok hq P J θ
      exact ⟨p, [x], rfl, k⟩
  | fro t ih =>
    intro cs chs r h hc
    obtain ⟨x, hx, h⟩ := bind_some (show (rdData t cs).bind _ = some r from h)
    obtain rfl := Option.some.inj h
    obtain ⟨c1, e, k⟩ := rdData_ok hx hc
    exact ⟨List.Perm.refl _, c1, e, bun_rd k⟩
  | wr t ih =>
    intro cs chs r h hc
    obtain ⟨x, hx, h⟩ := bind_some (show (takeData t cs chs).bind _ = some r from h)
    obtain rfl := Option.some.inj h
    exact ih hx hc
  | int k =>
    intro cs chs r h hc
    obtain ⟨x, hx, h⟩ := bind_some (show (rdData _ cs).bind _ = some r from h)
    obtain rfl := Option.some.inj h
    obtain ⟨c1, e, k⟩ := rdData_ok hx hc
    exact ⟨List.Perm.refl _, c1, e, bun_of_rd cpy_flat k⟩
  | bool =>
    intro cs chs r h hc
    obtain ⟨x, hx, h⟩ := bind_some (show (rdData _ cs).bind _ = some r from h)
    obtain rfl := Option.some.inj h
    obtain ⟨c1, e, k⟩ := rdData_ok hx hc
    exact ⟨List.Perm.refl _, c1, e, bun_of_rd cpy_bool k⟩
  | str =>
    intro cs chs r h hc
    obtain ⟨x, hx, h⟩ := bind_some (show (rdData _ cs).bind _ = some r from h)
    obtain rfl := Option.some.inj h
    obtain ⟨c1, e, k⟩ := rdData_ok hx hc
    exact ⟨List.Perm.refl _, c1, e, bun_of_rd cpy_str k⟩

theorem takeData_perm : ∀ {t : Ty} {cs : List LV} {chs : List Ent} {r : Took t}, takeData t cs chs = some r → chs.Perm (r.used ++ r.rest) := by
  intro t
  induction t with
  | prod a b iha ihb =>
    intro cs chs r h
    obtain ⟨x, hx, h⟩ := bind_some (show (takeData a cs chs).bind _ = some r from h)
    obtain ⟨y, hy, h⟩ := bind_some h
    obtain rfl := Option.some.inj h
    exact (by rw [List.append_assoc]; exact (iha hx).trans ((ihb hy).append_left _))
  | sl E t ih =>
    intro cs chs r h
    cases cs with
    | nil => cases h
    | cons x l =>
      obtain ⟨q, hq, h⟩ := bind_some (show (takeSl E t x chs).bind _ = some r from h)
      obtain rfl := Option.some.inj h
      exact takeSl_perm hq
  | fro t ih =>
    intro cs chs r h
    obtain ⟨x, hx, h⟩ := bind_some (show (rdData t cs).bind _ = some r from h)
    obtain rfl := Option.some.inj h
    exact List.Perm.refl _
  | wr t ih =>
    intro cs chs r h
    obtain ⟨x, hx, h⟩ := bind_some (show (takeData t cs chs).bind _ = some r from h)
    obtain rfl := Option.some.inj h
    exact ih hx
  | int k =>
    intro cs chs r h
    obtain ⟨x, hx, h⟩ := bind_some (show (rdData _ cs).bind _ = some r from h)
    obtain rfl := Option.some.inj h
    exact List.Perm.refl _
  | bool =>
    intro cs chs r h
    obtain ⟨x, hx, h⟩ := bind_some (show (rdData _ cs).bind _ = some r from h)
    obtain rfl := Option.some.inj h
    exact List.Perm.refl _
  | str =>
    intro cs chs r h
    obtain ⟨x, hx, h⟩ := bind_some (show (rdData _ cs).bind _ = some r from h)
    obtain rfl := Option.some.inj h
    exact List.Perm.refl _

/-! ### Steps -/
section
variable {Y : Type} (tt : TT) (s : Sg) (k : Res → Option Y)
def sBox (T : TypeId) (x : Operand) : Option Y := (opd s x).bind fun v => (avCells v).bind fun cs => k ⟨[], [], s.chs, [(⟨s.nxt, []⟩, .blk T cs)], .one (.ptr ⟨s.nxt, []⟩ 0)⟩
def sAlloc (T : TypeId) : Option Y := (td tt T).bind fun d => d.bytes.bind fun _ => k ⟨[], [], s.chs, [(⟨s.nxt, []⟩, .blk T ((zeroCells d.ty).map .val))], .one (.ptr ⟨s.nxt, []⟩ 0)⟩
def avOf (agg : Bool) (cs : List LV) : Option AV := match agg with
  | true => some (.agg cs)
  | false => match cs with
    | [x] => some (.one x)
    | _ => none
def sLoadB (T : TypeId) (x : Operand) : Option Y := (td tt T).bind fun d => match opd s x with
  | some (.one (.ptr h off)) => (blkOf h s.chs).bind fun b => chkT (Nat.beq ((b.cells.drop off).take d.n).length d.n) ((avOf d.agg ((b.cells.drop off).take d.n)).bind fun v => k ⟨[b.ent h], [], b.rest, [], v⟩)
  | _ => none
def sStoreB (T : TypeId) (x y : Operand) : Option Y := (td tt T).bind fun d => match opd s x with
  | some (.one (.ptr h off)) => (opd s y).bind fun v => (avCells v).bind fun cs => (blkOf h s.chs).bind fun b => chkT (Nat.beq cs.length d.n && Nat.ble (off + d.n) b.cells.length) (k ⟨[], [b.ent h], b.rest, [(h, .blk b.T (b.cells.take off ++ cs ++ b.cells.drop (off + cs.length)))], .any ⟨s.nxt, []⟩⟩)
  | _ => none
def sLenO (T : TypeId) (x : Operand) : Option Y := (td tt T).bind fun d => match d.el, opd s x with
  | some _, some (.one (.own h)) => (rowOf h s.chs).bind fun r => k ⟨[r.ent h], [], r.rest, [], .one (.val (.int .i64 (r.xs.length : Int)))⟩
  | _, _ => none
def sIndexO (T : TypeId) (x i : Operand) : Option Y := (td tt T).bind fun d => match d.el, opd s x, opd s i with
  | some E, some (.one (.own h)), some (.one (.val (.int .i64 i))) => (rowOf h s.chs).bind fun r => (td tt E).bind fun e => chkT (Nat.beq e.n r.t.size) ((getI r.xs i).bind fun a => k ⟨[r.ent h], [], r.rest, [], .elo h r.ver r.E r.t r.xs a i 0⟩)
  | _, _, _ => none
def sLoadO (T : TypeId) (x : Operand) : Option Y := (td tt T).bind fun d => match opd s x with
  | some (.elo h ver E t xs a i off) => (rowOf h s.chs).bind fun r => chkT (Nat.beq r.ver ver) ((fldAt d.agg t off d.n).bind fun p => match p.ty.sh with
    | true => chkT (p.ty.isProd == d.agg) (k ⟨[r.ent h], [], r.rest, [], avRd s.nxt p.ty (p.get a)⟩)
    | false => chkT (Nat.beq p.ty.size 1 && !d.agg) (k ⟨[], [r.ent h], r.rest, [(⟨s.nxt, []⟩, .own p.ty (p.get a)), (h, .hole ver (.sl E t) xs p.ty (p.get a) (fun y => xs.set i.toNat (p.set a y)) i t.size off (.own ⟨s.nxt, []⟩))], .one (.own ⟨s.nxt, []⟩)⟩))
  | _ => none
def sStoreO (T : TypeId) (x y : Operand) : Option Y := (td tt T).bind fun d => match opd s x with
  | some (.elo h ver E t xs a i off) => (opd s y).bind fun v => (avCells v).bind fun cs => (rowOf h s.chs).bind fun r => chkT (Nat.beq r.ver ver && Nat.beq cs.length d.n) ((fldAt d.agg t off d.n).bind fun p => match t.sh with
    | true => (rdData p.ty cs).bind fun b => chkT b.2.isEmpty (k ⟨[], [r.ent h], r.rest, [(h, .own (.sl E t) (xs.set i.toNat (p.set a b.1)))], .any ⟨s.nxt, []⟩⟩)
    | false => (takeData p.ty cs r.rest).bind fun q => chkT q.cells.isEmpty (k ⟨[], r.ent h :: q.used, q.rest, [(h, .own (.sl E t) (xs.set i.toNat (p.set a q.d)))], .any ⟨s.nxt, []⟩⟩))
  | _ => none
end
section
variable {Y : Type} {tt : TT} {s : Sg} {k : Res → Option Y} {P : Program} {w0 : World} {o : Oper} {res : Y} {x y : Operand}
/-- a row is read for its head -/
theorem opT_rd1 {I : Hp} {ev : Operand → Value} {α : Type} {R : Rep α} {E : TypeId} {v : Value} {xs : List α} {fact : Value → Prop} (h : Hd v xs.length → OpT P I w0 o ev [] fact (fun _ => [])) : OpT P I w0 o ev [Ch.own (rSlice E R) [v] xs] fact (fun _ => [Ch.own (rSlice E R) [v] xs]) :=
  fun w C hs => h (hs.hd 0 rfl).1 w (Ch.own (rSlice E R) [v] xs :: C) hs
theorem hv_new {θ : Th} {n : Nat} {v : Value} : hv (upd θ n v) ⟨n, []⟩ = v := upd_self
theorem sBox_ok {T : TypeId} (ho : o.op = .box T x) (h : sBox s k T x = some res) : Oks P w0 s o k res := by
  obtain ⟨v, hv', h⟩ := bind_some h
  obtain ⟨cs, hcs, h⟩ := bind_some h
  refine ⟨_, h, by simp, says_plain rfl, fun J θ hf => ?_⟩
  obtain ⟨h1, h2⟩ := avCells_ok hcs (opd_ok hf hv')
  refine OpT.weak (opT_box (l := cs.map (·.v θ)) (opd_ev hv') h2 ho) (fun v hpt => ⟨Nat.lt_succ_self _, ?_, fun g hg => ?_⟩) (fun v hpt => ?_)
  · show Value.pointer (some ⟨bk (hv _ ⟨s.nxt, []⟩), 0, none⟩) = v
    rw [hv_new]; exact (isPt_bk hpt).symm
  · obtain rfl := List.mem_singleton.1 hg
    exact ⟨Nat.lt_succ_self _, Nat.lt_succ_self _, fun x hx => LV.ok_same Same.upd (Nat.le_succ _) (h1 x hx) Hp.le.rfl⟩
  · show [Ch.blk (bk v) _ T] = [Ch.blk (bk (hv _ ⟨s.nxt, []⟩)) (cs.map _) T]
    rw [hv_new, map_v_same Same.upd h1]
theorem sAlloc_ok (hT : TTok P tt) {T : TypeId} (ho : o.op = .alloc T) (h : sAlloc tt s k T = some res) : Oks P w0 s o k res := by
  obtain ⟨d, hd, h⟩ := bind_some h
  obtain ⟨z, hz, h⟩ := bind_some h
  obtain ⟨zv, hz1, hz2, -⟩ := (hT.get hd).zero z hz
  refine ⟨_, h, by simp, says_plain rfl, fun J θ hf => ?_⟩
  refine OpT.weak (opT_alloc (l := zeroCells d.ty) hz1 hz2 ho) (fun v hpt => ⟨Nat.lt_succ_self _, ?_, fun g hg => ?_⟩) (fun v hpt => ?_)
  · show Value.pointer (some ⟨bk (hv _ ⟨s.nxt, []⟩), 0, none⟩) = v
    rw [hv_new]; exact (isPt_bk hpt).symm
  · obtain rfl := List.mem_singleton.1 hg
    refine ⟨Nat.lt_succ_self _, Nat.lt_succ_self _, fun x hx => ?_⟩
    obtain ⟨u, hu, rfl⟩ := List.mem_map.1 hx
    exact zero_one _ u hu
  · show [Ch.blk (bk v) _ T] = [Ch.blk (bk (hv _ ⟨s.nxt, []⟩)) (((zeroCells d.ty).map LV.val).map _) T]
    rw [hv_new, List.map_map]
    congr 2
    exact (List.map_id' _).symm
theorem avOf_ok {agg : Bool} {cs : List LV} {v : AV} (h : avOf agg cs = some v) {P : Program} {w0 : World} {J : Hp} {θ : Th} {n : Nat} {chs : List Ent} (hc : ∀ x ∈ cs, x.ok P w0 J θ n) : v.ok P w0 J θ n chs ∧ (if agg then Value.agg (cs.map (·.v θ)).toArray else (cs.map (·.v θ)).getD 0 undef) = v.v θ := by
  cases agg with
  | true =>
    obtain rfl := Option.some.inj (show some (AV.agg cs) = some v from h)
    exact ⟨hc, rfl⟩
  | false =>
    cases cs with
    | nil => cases h
    | cons x l =>
      cases l with
      | nil =>
        obtain rfl := Option.some.inj (show some (AV.one x) = some v from h)
        exact ⟨hc x (by simp), rfl⟩
      | cons _ _ => cases h
theorem ent_ok {e : Ent} {r : List Ent} {J : Hp} {θ : Th} (hf : Fine P w0 J θ s) (hp : s.chs.Perm (e :: r)) : okE P w0 J θ s.nxt s.chs e := hf.chs e (hp.mem_iff.2 (by simp))
theorem perm1 {e : Ent} {r l : List Ent} (hp : l.Perm (e :: r)) : l.Perm ([e] ++ [] ++ r) := hp
theorem perm2 {e : Ent} {r l : List Ent} (hp : l.Perm (e :: r)) : l.Perm ([] ++ [e] ++ r) := hp
theorem sLoadB_ok (hT : TTok P tt) {T : TypeId} (ho : o.op = .load T x) (h : sLoadB tt s k T x = some res) : Oks P w0 s o k res := by
  obtain ⟨d, hd, h⟩ := bind_some h
  split at h
  · rename_i hh off hx
    obtain ⟨b, hb, h⟩ := bind_some h
    obtain ⟨hl, h⟩ := chkT_ok h
    obtain ⟨v, hv', h⟩ := bind_some h
    have hp := blkOf_ok hb
    have hl := Nat.eq_of_beq_eq_true hl
    refine ⟨_, h, perm1 hp, says_plain rfl, fun J θ hf => ?_⟩
    have hc : ∀ z ∈ (b.cells.drop off).take d.n, z.ok P w0 J θ s.nxt := fun z hz => (ent_ok hf hp).2.2 z (List.mem_of_mem_drop (List.mem_of_mem_take hz))
    obtain ⟨k1, k2⟩ := avOf_ok (chs := s.chs) hv' hc
    have hdk := hT.get hd
    refine OpT.weak (opT_load_blk (l := b.cells.map (·.v θ)) (E := b.T) hdk.ti ho (opd_ev hx) hdk.one (by rw [← List.map_drop, ← List.map_take]) (by rw [List.length_map]; exact hl) k2) (fun u hu => ?_) (fun u hu => rfl)
    subst hu
    exact ⟨AV.ok_same Same.upd (Nat.le_succ _) (Res.newer (perm1 hp) (says_plain rfl J θ hf)) k1 Hp.le.rfl, AV.v_same Same.upd k1, fun g hg => by cases hg⟩
  · cases h
theorem sStoreB_ok (hT : TTok P tt) {T : TypeId} (ho : o.op = .store T x y) (h : sStoreB tt s k T x y = some res) : Oks P w0 s o k res := by
  obtain ⟨d, hd, h⟩ := bind_some h
  split at h
  · rename_i hh off hx
    obtain ⟨v, hv', h⟩ := bind_some h
    obtain ⟨cs, hcs, h⟩ := bind_some h
    obtain ⟨b, hb, h⟩ := bind_some h
    obtain ⟨hl, h⟩ := chkT_ok h
    rw [Bool.and_eq_true] at hl
    have hl1 := Nat.eq_of_beq_eq_true hl.1
    have hl2 := Nat.le_of_ble_eq_true hl.2
    have hp := blkOf_ok hb
    refine ⟨_, h, perm2 hp, says_plain rfl, fun J θ hf => ?_⟩
    obtain ⟨c1, c2⟩ := avCells_ok hcs (opd_ok hf hv')
    have hok := ent_ok hf hp
    have hdk := hT.get hd
    have hall : ∀ z ∈ b.cells.take off ++ cs ++ b.cells.drop (off + cs.length), z.ok P w0 J θ s.nxt := fun z hz => by
      rcases List.mem_append.1 hz with hz | hz
      · rcases List.mem_append.1 hz with hz | hz
        · exact hok.2.2 z (List.mem_of_mem_take hz)
        · exact c1 z hz
      · exact hok.2.2 z (List.mem_of_mem_drop hz)
    refine OpT.weak (opT_store_blk (l := b.cells.map (·.v θ)) (E := b.T) hdk.ti ho (opd_ev hx) (opd_ev hv') c2 (by rw [List.length_map]; exact hl1) (all_one c1) (by rw [List.length_map]; exact hl2)) (fun u hu => ⟨Nat.lt_succ_self _, hv_new, fun g hg => ?_⟩) (fun u hu => ?_)
    · obtain rfl := List.mem_singleton.1 hg
      exact ⟨Nat.lt_succ_of_lt hok.1, Nat.lt_succ_self _, fun z hz => LV.ok_same Same.upd (Nat.le_succ _) (hall z hz) Hp.le.rfl⟩
    · show [Ch.blk (bk (hv θ hh)) _ b.T] = [Ch.blk (bk (hv (upd θ s.nxt u) hh)) _ b.T]
      rw [show hv (upd θ s.nxt u) hh = hv θ hh from hv_same Same.upd hok.1, spl_eq _ _ _ (by rw [List.length_map, List.length_map, hl1]; exact hl2), map_v_same Same.upd hall, List.map_append, List.map_append, List.map_take, List.map_drop, List.length_map]
  · cases h
theorem sLenO_ok (hT : TTok P tt) {T : TypeId} (ho : o.op = .call { callee := .builtin .len, args := #[x], argTypes := #[T] }) (h : sLenO tt s k T x = some res) : Oks P w0 s o k res := by
  obtain ⟨d, hd, h⟩ := bind_some h
  split at h
  · rename_i E hh he hx
    obtain ⟨r, hr, h⟩ := bind_some h
    obtain ⟨hp, -⟩ := rowOf_ok hr
    refine ⟨_, h, perm1 hp, says_plain rfl, fun J θ hf => OpT.weak (opT_rd1 fun hD => opT_len_hd hD ((hT.get hd).el _ he) ho (opd_ev hx)) (fun u hu => ?_) (fun u hu => rfl)⟩
    subst hu
    exact ⟨Eq.refl true, rfl, fun g hg => by cases hg⟩
  · cases h
theorem sIndexO_ok (hT : TTok P tt) {T : TypeId} {i : Operand} (ho : o.op = .indexAddr T x i) (h : sIndexO tt s k T x i = some res) : Oks P w0 s o k res := by
  obtain ⟨d, hd, h⟩ := bind_some h
  split at h
  · rename_i E hh j he hx hi
    obtain ⟨r, hr, h⟩ := bind_some h
    obtain ⟨e, hE, h⟩ := bind_some h
    obtain ⟨hn, h⟩ := chkT_ok h
    obtain ⟨a, ha, h⟩ := bind_some h
    have hn := Nat.eq_of_beq_eq_true hn
    obtain ⟨hp, hno⟩ := rowOf_ok hr
    refine ⟨_, h, perm1 hp, says_plain rfl, fun J θ hf => OpT.weak (opT_rd1 (fact := (· = pt (hv θ hh) (j.toNat * r.t.size + 0))) fun hD => ?_) (fun u hu => ?_) (fun u hu => rfl)⟩
    · have := opT_index_hd (I := J) (w0 := w0) hD ((hT.get hd).el _ he) (hT.get hE).ti ho (opd_ev hx) (opd_ev hi) (getI_in ha)
      rw [hn] at this
      exact this
    · have hok := ent_ok hf hp
      refine ⟨⟨Nat.lt_succ_of_lt hok.1, ha, (rowOf_mem hr hok.2.1).newer (Res.newer (perm1 hp) (says_plain rfl J θ hf)) (Nat.le_succ _)⟩, ?_, fun g hg => by cases hg⟩
      rw [hu]
      show pt (hv (upd θ s.nxt _) hh) _ = pt (hv θ hh) _
      rw [show hv (upd θ s.nxt _) hh = hv θ hh from hv_same Same.upd hok.1]
  · cases h
/-- the row that a pointer to an element remembers -/
theorem elo_row {h : Hdr} {ver : Nat} {E : TypeId} {t : Ty} {xs : List t.den} {a : t.den} {i : Int} {off : Nat} {J : Hp} {θ : Th} {r : Row} (hr : rowOf h s.chs = some r) (hv : r.ver = ver) (hm : AV.ok P w0 J θ s.nxt s.chs (.elo h ver E t xs a i off)) : r.ent h = (h, ver, .own (.sl E t) xs) := by
  obtain ⟨hp, -⟩ := rowOf_ok hr
  have := hm.2.2.2 (r.ent h) (hp.mem_iff.2 (by simp)) _ ⟨rfl, .inl ⟨hv, rfl⟩⟩
  show (h, r.ver, Chk.own (.sl r.E r.t) r.xs) = _
  rw [hv, show Chk.own (.sl r.E r.t) r.xs = _ from this]
theorem sLoadO_ok (hT : TTok P tt) {T : TypeId} (ho : o.op = .load T x) (h : sLoadO tt s k T x = some res) : Oks P w0 s o k res := by
  obtain ⟨d, hd, h⟩ := bind_some h
  split at h
  · rename_i hh ver E t xs a i off hx
    obtain ⟨r, hr, h⟩ := bind_some h
    obtain ⟨hv', h⟩ := chkT_ok h
    have hv' := Nat.eq_of_beq_eq_true hv'
    obtain ⟨p, hp', h⟩ := bind_some h
    have hpo := fldAt_ok _ _ _ _ hp'
    obtain ⟨hp, -⟩ := rowOf_ok hr
    have hdk := hT.get hd
    split at h
    · rename_i hsh
      obtain ⟨hg, h⟩ := chkT_ok h
      have hg : p.ty.isProd = d.agg := by simpa using hg
      refine ⟨_, h, perm1 hp, says_plain rfl, fun J θ hf => ?_⟩
      have ho' := opd_ok hf hx
      have he := elo_row hr hv' ho'
      have := opT_load_part (P := P) (I := J) (w0 := w0) (o := o) (T := T) (E := E) (Ty.sh_ok hsh) ho'.2.1 hpo.lens hdk.ti (p.ty.rep_size.trans hpo.size) hdk.one ho (opd_ev (θ := θ) hx) t.rep_size
      rw [he]
      refine OpT.weak this (fun u hu => ?_) (fun u hu => rfl)
      obtain ⟨c, h1, h2⟩ := hu
      rw [← hg] at h2
      have := avRd_fine (P := P) (w0 := w0) (J := J) (θ := upd θ s.nxt u) (id := s.nxt) (n := s.nxt + 1) (chs := Res.chs ⟨[r.ent hh], [], r.rest, [], avRd s.nxt p.ty (p.get a)⟩ s.nxt) (Nat.lt_succ_self _) upd_self p.ty (p.get a) c h1 h2
      rw [he] at this
      exact ⟨this.1, this.2, fun g hg => by cases hg⟩
    · obtain ⟨hg, h⟩ := chkT_ok h
      rw [Bool.and_eq_true] at hg
      have hg1 := Nat.eq_of_beq_eq_true hg.1
      have hg2 : d.agg = false := by simpa using hg.2
      refine ⟨_, h, perm2 hp, fun J θ hf g hg ver' c hs => ?_, fun J θ hf => ?_⟩
      · rcases List.mem_cons.1 hg with rfl | hg
        · exact hs.elim
        · obtain rfl := List.mem_singleton.1 hg
          obtain ⟨rfl, rfl⟩ := hs
          exact ⟨r.ent hh, hp.mem_iff.2 (by simp), by rw [elo_row hr hv' (opd_ok hf hx)]; exact ⟨rfl, .inl ⟨rfl, rfl⟩⟩⟩
      have ho' := opd_ok hf hx
      have he := elo_row hr hv' ho'
      have hok := ent_ok hf hp
      have hti := hdk.ti
      rw [hg2, ← hpo.size, hg1] at hti
      have := opT_take_part (P := P) (I := J) (w0 := w0) (o := o) (T := T) (E := E) ho'.2.1 hpo.lens hti (p.ty.rep_size.trans hg1) ho (opd_ev (θ := θ) hx) t.rep_size
      rw [he]
      have hset : xs.set i.toNat (p.set a (p.get a)) = xs := by
        obtain ⟨hlt, e⟩ := List.getElem?_eq_some_iff.1 (getI_at ho'.2.1)
        rw [hpo.eta, ← e]; exact List.set_getElem_self hlt
      have hver : ver < s.nxt := by rw [← hv']; exact hok.2.1
      refine OpT.weak this (fun u hu => ⟨⟨Nat.lt_succ_self _, by rw [hv_new]; exact hu⟩, hv_new, fun g hg => ?_⟩) (fun u hu => ?_)
      · rcases List.mem_cons.1 hg with rfl | hg
        · exact ⟨Nat.lt_succ_self _, Nat.lt_succ_self _, trivial⟩
        · obtain rfl := List.mem_singleton.1 hg
          refine ⟨Nat.lt_succ_of_lt hok.1, Nat.lt_succ_self _, ⟨Nat.lt_succ_self _, by rw [hv_new]; exact hu⟩, hver, hset, fun l hl => ?_⟩
          obtain rfl := LV.own.inj hl
          refine ⟨Nat.lt_succ_self _, fun e he c hs => ?_⟩
          rcases List.mem_append.1 he with he | he
          · obtain ⟨g, hg, rfl⟩ := List.mem_map.1 he
            rcases List.mem_cons.1 hg with rfl | hg
            · rcases hs.2 with h1 | h1
              · exact h1.2
              · exact h1.elim
            · obtain rfl := List.mem_singleton.1 hg
              have := hok.1
              rw [show hh = (⟨s.nxt, []⟩ : Hdr) from hs.1] at this
              exact absurd this (Nat.lt_irrefl _)
          · have he : e ∈ s.chs := hp.mem_iff.2 (List.mem_cons_of_mem _ (by simpa using he))
            have hek := hf.chs e he
            have := hek.1
            rw [hs.1] at this
            exact absurd this (Nat.lt_irrefl _)
      · show [Ch.own p.ty.rep [u] (p.get a), Ch.gap _ [hv θ hh] p.ty.rep _ (ptB (hv θ hh)) (ptO (hv θ hh) + _) u] = [Ch.own p.ty.rep [hv (upd θ s.nxt u) ⟨s.nxt, []⟩] (p.get a), Ch.gap _ [hv (upd θ s.nxt u) hh] p.ty.rep _ (ptB (hv (upd θ s.nxt u) hh)) (ptO (hv (upd θ s.nxt u) hh) + _) (hv (upd θ s.nxt u) ⟨s.nxt, []⟩)]
        rw [hv_new, show hv (upd θ s.nxt u) hh = hv θ hh from hv_same Same.upd hok.1]; rfl
  · cases h
theorem sStoreO_ok (hT : TTok P tt) {T : TypeId} (ho : o.op = .store T x y) (h : sStoreO tt s k T x y = some res) : Oks P w0 s o k res := by
  obtain ⟨d, hd, h⟩ := bind_some h
  split at h
  · rename_i hh ver E t xs a i off hx
    obtain ⟨v, hv', h⟩ := bind_some h
    obtain ⟨cs, hcs, h⟩ := bind_some h
    obtain ⟨r, hr, h⟩ := bind_some h
    obtain ⟨hg, h⟩ := chkT_ok h
    rw [Bool.and_eq_true] at hg
    have hver := Nat.eq_of_beq_eq_true hg.1
    have hcl := Nat.eq_of_beq_eq_true hg.2
    obtain ⟨p, hp', h⟩ := bind_some h
    have hpo := fldAt_ok _ _ _ _ hp'
    obtain ⟨hp, -⟩ := rowOf_ok hr
    have hdk := hT.get hd
    split at h
    · rename_i hsh
      obtain ⟨b, hb, h⟩ := bind_some h
      obtain ⟨hbe, h⟩ := chkT_ok h
      refine ⟨_, h, perm2 hp, says_plain rfl, fun J θ hf => ?_⟩
      have ho' := opd_ok hf hx
      have he := elo_row hr hver ho'
      have hok := ent_ok hf hp
      obtain ⟨c1, c2⟩ := avCells_ok hcs (opd_ok hf hv')
      obtain ⟨cc, e1, e2⟩ := rdData_ok (J := J) hb c1
      rw [List.isEmpty_iff.1 hbe, List.append_nil] at e1
      subst e1
      have := opT_store_el (P := P) (I := J) (w0 := w0) (o := o) (T := T) (E := E) (Ty.sh_ok hsh) (Ty.cpy hsh) ho'.2.1 hpo.upd hdk.ti ho (opd_ev (θ := θ) hx) (opd_ev hv') c2 (all_one c1) (by rw [List.length_map]; exact hcl) t.rep_size hpo.fit e2
      rw [he]
      refine OpT.weak this (fun u hu => ⟨Nat.lt_succ_self _, hv_new, fun g hg => ?_⟩) (fun u hu => ?_)
      · obtain rfl := List.mem_singleton.1 hg
        exact ⟨Nat.lt_succ_of_lt hok.1, Nat.lt_succ_self _, trivial⟩
      · show [Ch.own _ [hv θ hh] _] = [Ch.own _ [hv (upd θ s.nxt u) hh] _]
        rw [show hv (upd θ s.nxt u) hh = hv θ hh from hv_same Same.upd hok.1]; rfl
    · obtain ⟨q, hq, h⟩ := bind_some h
      obtain ⟨hbe, h⟩ := chkT_ok h
      refine ⟨_, h, (hp.trans ((takeData_perm hq).cons _)), says_plain rfl, fun J θ hf => ?_⟩
      have ho' := opd_ok hf hx
      have he := elo_row hr hver ho'
      have hok := ent_ok hf hp
      obtain ⟨c1, c2⟩ := avCells_ok hcs (opd_ok hf hv')
      obtain ⟨-, cc, e1, e2⟩ := takeData_ok (J := J) (θ := θ) hq c1
      rw [List.isEmpty_iff.1 hbe, List.append_nil] at e1
      subst e1
      have := opT_store_own (P := P) (I := J) (w0 := w0) (o := o) (T := T) (E := E) e2 ho'.2.1 hpo.updO hdk.ti ho (opd_ev (θ := θ) hx) (opd_ev hv') c2 (all_one c1) (by rw [List.length_map]; exact hcl) (p.ty.rep_size.trans hpo.size) t.rep_size hpo.fit
      rw [he]
      refine OpT.weak this (fun u hu => ⟨Nat.lt_succ_self _, hv_new, fun g hg => ?_⟩) (fun u hu => ?_)
      · obtain rfl := List.mem_singleton.1 hg
        exact ⟨Nat.lt_succ_of_lt hok.1, Nat.lt_succ_self _, trivial⟩
      · show [Ch.own _ [hv θ hh] _] = [Ch.own _ [hv (upd θ s.nxt u) hh] _]
        rw [show hv (upd θ s.nxt u) hh = hv θ hh from hv_same Same.upd hok.1]; rfl
  · cases h
end
end Go.Proofs.Ytfkocnnphjkmfaa.R
