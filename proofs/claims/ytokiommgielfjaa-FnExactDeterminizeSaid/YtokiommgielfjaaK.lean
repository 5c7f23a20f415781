/- Walks of the laws' helpers (sz: what is left of a budget; to: a copy; eq; mark; held), written by a program of ours (genwalk.py). No condition but that what is copied holds at most 1048576 values. -/
import Derived.Test.YtokiommgielfjaaH
set_option linter.unusedVariables false
set_option linter.unusedSimpArgs false
namespace Go.Proofs.Ytokiommgielfjaa
open Go.RowKit
def ceInt (x : Int) : Nat := 1
def meInt (k : Int) (x : Int) : Int := k
def ceBool (x : Bool) : Nat := 1
def meBool (k : Int) (x : Bool) : Bool := k % 3 == 0
theorem sumL_le {α : Type} {f g : α → Nat} (h : ∀ a, f a ≤ 8 + 8 * g a) : ∀ xs : List α, sumL f xs ≤ 8 * szL g xs
  | [] => by simp [sumL]
  | x :: xs => by have h1 := sumL_le h xs; have h2 := h x; simp only [sumL, szL, List.length_cons] at h1 ⊢; omega
theorem sumL_zero {α : Type} : ∀ xs : List α, sumL (fun _ => 0) xs = 0
  | [] => rfl
  | x :: xs => by simp [sumL, sumL_zero xs]

theorem flat_Pair {w : World} (x : DPair) (o0 : I64 (x.1)) (o1 : I64 (x.2)) : rPair.own w [.int .i64 x.1, .int .i64 x.2] x [] := by
  exact ⟨_, _, [], [], rfl, rfl, ⟨rfl, rfl, o0⟩, ⟨rfl, rfl, o1⟩⟩

theorem hsz78 : (Try.prog.info? 78).map (·.size) = some 2 := by kernel_rfl
set_option maxHeartbeats 800000 in
theorem toPair_any (x : DPair) (w : World) (o0 : I64 (x.1)) (o1 : I64 (x.2))  :
    Calls Try.prog 59 #[.agg #[.int .i64 x.1, .int .i64 x.2]] w fun e w' => e = .returned (.agg #[.int .i64 x.1, .int .i64 x.2]) ∧ St w w' [] := by
  go_enter Try.func59, Try.ntmps59
  go_wp2
  exact bodyPost_ret (v := .agg #[.int .i64 x.1, .int .i64 x.2]) (by simp [results, Try.results59, go_sem]) rfl ⟨rfl, (((St.init w).alloc3 _ _ _ _ _ _).drop)⟩

set_option maxHeartbeats 800000 in
theorem eqPair_any (x y : DPair) (w : World)   :
    Calls Try.prog 61 #[.agg #[.int .i64 x.1, .int .i64 x.2], .agg #[.int .i64 y.1, .int .i64 y.2]] w fun e w' => e = .returned (.bool (decide (x = y))) ∧ St w w' [] := by
  have ST := hid (show St w ((w.alloc (.cells #[.int .i64 x.1, .int .i64 x.2] 78)).alloc (.cells #[.int .i64 y.1, .int .i64 y.2] 78)) [Ch.blk (w.heap.size + 1) [.int .i64 y.1, .int .i64 y.2] 78, Ch.blk w.heap.size [.int .i64 x.1, .int .i64 x.2] 78] from (St.init w).alloc2 _ _ _ _)
  go_enter Try.func61, Try.ntmps61
  by_cases e0 : x.1 = y.1
  rotate_left
  · have E := hid (decide_eq_false (show ¬ x = y from fun h => e0 (by rw [h])))
    have n1 : (x.1 != y.1) = true := by simpa using e0
    have n2 : (x.1 == y.1) = false := by simpa using e0
    clear e0
    go_wp2
    go_ret
    exact ⟨by rw [E.out]; rfl, ST.out.drop⟩
  have p0 : (x.1 != y.1) = false := by simpa using e0
  have q0 : (x.1 == y.1) = true := by simpa using e0
  have E0 := hid e0; clear e0
  by_cases e1 : x.2 = y.2
  rotate_left
  · have E := hid (decide_eq_false (show ¬ x = y from fun h => e1 (by rw [h])))
    have n1 : (x.2 != y.2) = true := by simpa using e1
    have n2 : (x.2 == y.2) = false := by simpa using e1
    clear e1
    go_wp2
    go_ret
    exact ⟨by rw [E.out]; rfl, ST.out.drop⟩
  have p1 : (x.2 != y.2) = false := by simpa using e1
  have q1 : (x.2 == y.2) = true := by simpa using e1
  have E1 := hid e1; clear e1
  have E := hid (decide_eq_true (show x = y from Prod.ext E0.out (E1.out)))
  go_wp2
  go_ret
  exact ⟨by rw [E.out]; rfl, ST.out.drop⟩

def cnPair (x : DPair) : Nat := 0
def mkPair (k : Int) (x : DPair) : DPair := (x.1, x.2)
def cePair (x : DPair) : Nat := ceInt x.1 + ceInt x.2
def mePair (k : Int) (x : DPair) : DPair := (meInt (k) x.1, meInt (k + ((ceInt x.1 : Nat) : Int)) x.2)

def szPairS (x : DPairS) : Nat := x.length
theorem szPairS_any (v : Value) (x : DPairS) (n : Int) (w : World) (h : rPairS.rd w.heap.size w [v] x) (n0 : 0 ≤ n) (n1 : n ≤ 1048576) :
    Calls Try.prog 43 #[v, .int .i64 n] w fun e w' => e = .returned (.int .i64 (lft n (szPairS x))) ∧ St w w' [] := by
  obtain ⟨ao, cap, b, off, hv, hl, -, -⟩ := sl_open h
  obtain rfl : v = _ := by simpa using hv
  clear hv h
  unfold lim at hl
  by_cases hc : n < x.length
  · have e := hid (lft_neg (n := n) (s := szPairS x) hc)
    go_enter Try.func43, Try.ntmps43
    go_wp2
    all_goals go_ret
    all_goals exact ⟨by rw [e.out]; rfl, St.init _⟩
  · have e := hid (lft_pos (n := n) (s := szPairS x) hc)
    go_enter Try.func43, Try.ntmps43
    go_wp2
    all_goals go_ret
    all_goals exact ⟨by rw [e.out]; rfl, St.init _⟩

theorem hinfo78 : (Try.prog.info? 78).map (fun i => (i.zero, i.size, i.bytes)) = some (some (.agg #[.int .i64 0, .int .i64 0]), 2, 16) := by kernel_rfl
set_option maxHeartbeats 800000 in
theorem toPairS_any (v : Value) (x : DPairS) (w : World) (h : rPairS.rd w.heap.size w [v] x) (hn : szPairS x ≤ 1048576) :
    Calls Try.prog 45 #[v] w fun e w' => ∃ u, e = .returned u ∧ St w w' [Ch.own rPairS [u] x] := by
  obtain ⟨ao, cap, b, off, hv, hl, hao, hc⟩ := sl_open h
  obtain rfl : v = _ := by simpa using hv
  clear hv h hl
  have hn0 : x.length ≤ 1048576 := by exact hn
  obtain ⟨i, hi, hz0, hz1, hz2⟩ := info_parts hinfo78
  have hmk : ∀ u : World, (Instr.makeSlice 31 (.int .i64 (x.length : Int)) (.int .i64 (x.length : Int))).run Try.prog u =
      .ok (.slice (some ⟨u.heap.size, 0, none⟩) x.length x.length) (u.alloc (.cells (madeCells #[.int .i64 0, .int .i64 0] (x.length * 2)) 78)) := fun u => by
    have h := run_make (P := Try.prog) u 31 78 i (.agg #[.int .i64 0, .int .i64 0]) Try.underlying31 hi hz0 .i64 .i64 (x.length : Int) (x.length : Int) (by omega) (Int.le_refl _) (by rw [hz2]; omega) (by omega)
    simpa [hz1, Value.cells] using h
  clear hi hz0 hz1 hz2
  have HC := hid hc; have HA := hid hao; have HN := hid hn
  clear hc hao hn
  have H0 := hid (show St w (w.alloc (.cells (madeCells #[.int .i64 0, .int .i64 0] (x.length * 2)) 78)) [Ch.part rPair w.heap.size x.length 78 []] from (St.init w).part_start _ (by simp [size_madeCells, rInt, rPair, rSlice, rProd, rFlat]))
  go_enter Try.func45, Try.ntmps45
  go_wp2
  clear hmk
  go_loopw [4] (fun i wr => ∃ k : Nat, k ≤ x.length ∧ i = .int .i64 k ∧ St w wr [Ch.part rPair w.heap.size x.length 78 (x.take k)]) (fun i _ => x.length - (intOf i).toNat)
  case atStart => exact ⟨0, Nat.zero_le _, rfl, by simpa using H0.out⟩
  case round =>
    obtain ⟨k, hk, rfl, st⟩ := hrel
    have ST := hid st
    by_cases hlt : k < x.length
    · obtain ⟨y, hy⟩ := get_of_lt hlt
      obtain ⟨c, hcl, hcr, hcc⟩ := HC.out k y hy
      obtain ⟨rfl, hb⟩ := HA.out (by omega)
      obtain ⟨hceq, oo0, oo1⟩ := open_Pair hcr
      subst hceq
      have q0 := (st.below.cell (p := ⟨b, off + k * 2, none⟩) hb).trans (by have := hcc 0 _ rfl; simpa [rInt, rPair, rSlice, rProd, rFlat] using this)
      have q1 := (st.below.cell (p := ⟨b, off + k * 2 + 1, none⟩) hb).trans (by have := hcc 1 _ rfl; simpa [rInt, rPair, rSlice, rProd, rFlat] using this)
      have HY := hid hy
      clear hy hcc
      clear st
      go_wp2_with fail
      refine (toPair_any  y _ oo0 oo1 ).mono ?_
      rintro e w1 ⟨rfl, hs1⟩
      have ST1 := hid (ST.out.call hs1)
      clear hs1
      obtain ⟨hcell, hfz, hg, hg0⟩ := (ST1.out.sel 1 [0] rfl (by decide) : St w w1 [Ch.part rPair w.heap.size x.length 78 (x.take k)]).part_cell
      obtain ⟨p0, hp0⟩ := hcell (k * 2) (by show k * 2 < x.length * 2; omega)
      have hf0 := hfz (k * 2)
      obtain ⟨p1, hp1⟩ := hcell (k * 2 + 1) (by show k * 2 + 1 < x.length * 2; omega)
      have hf1 := hfz (k * 2 + 1)
      clear hcell hfz
      go_wp2
      go_roundw
      case rel =>
        refine ⟨k + 1, by omega, by go_num, ?_⟩
        have := ST1.out.part_put' (o := k * 2) (c := [.int .i64 y.1, .int .i64 y.2]) (x := y) (by rw [List.length_take]; show k * 2 = min k x.length * 2; omega) (by rw [List.length_take]; omega) (flat_Pair y oo0 oo1)
        rwa [← take_get HY.out] at this
      case measure => simp [intOf]; omega
    · clear st
      go_wp2
      go_ret
      refine ⟨_, rfl, ?_⟩
      have := ST.out.part_done (by rw [List.length_take]; omega) (by unfold lim; omega)
      rwa [List.take_of_length_le (by omega)] at this

set_option maxHeartbeats 800000 in
theorem eqPairS_any (v u : Value) (x y : DPairS) (w : World) (h : rPairS.rd w.heap.size w [v] x) (g : rPairS.rd w.heap.size w [u] y) :
    Calls Try.prog 47 #[v, u] w fun e w' => e = .returned (.bool (decide (x = y))) ∧ St w w' [] := by
  obtain ⟨ao, cap, b, off, hv, hl, hao, hc⟩ := sl_open h
  obtain rfl : v = _ := by simpa using hv
  obtain ⟨ao', cap', b', off', hv', hl', hao', hc'⟩ := sl_open g
  obtain rfl : u = _ := by simpa using hv'
  clear hv h hv' g
  unfold lim at hl hl'
  by_cases hne : x.length = y.length
  · have HN := hid hne
    have hn2 : (((x.length : Nat) : Int) != ((y.length : Nat) : Int)) = false := by simp [hne]
    have HC := hid hc; have HC' := hid hc'
    have HA := hid hao; have HA' := hid hao'
    have h7 : y.length ≤ x.length := by omega
    have h8 : x.length ≤ y.length := by omega
    clear hne hc hc' hao hao'
    go_enter Try.func47, Try.ntmps47
    go_wp2
    go_loopw [5] (fun i wr => ∃ k : Nat, k ≤ x.length ∧ i = .int .i64 k ∧ x.take k = y.take k ∧ St w wr []) (fun i _ => x.length - (intOf i).toNat)
    case atStart => exact ⟨0, Nat.zero_le _, rfl, rfl, St.init w⟩
    case round =>
      obtain ⟨k, hk, rfl, ht, st⟩ := hrel
      have HT := hid ht; clear ht
      have ST := hid st
      by_cases hlt : k < x.length
      · obtain ⟨a, ha⟩ := get_of_lt hlt
        obtain ⟨c, hc⟩ := get_of_lt (show k < y.length by omega)
        obtain ⟨cc, hcl, hcr, hcc⟩ := HC.out k a ha
        obtain ⟨cc', hcl', hcr', hcc'⟩ := HC'.out k c hc
        obtain ⟨rfl, hb⟩ := HA.out (by omega)
        obtain ⟨rfl, hb'⟩ := HA'.out (by omega)
        obtain ⟨hceq, oo0, oo1⟩ := open_Pair hcr
        subst hceq
        have q0 := (st.below.cell (p := ⟨b, off + k * 2, none⟩) hb).trans (by have := hcc 0 _ rfl; simpa [rInt, rPair, rSlice, rProd, rFlat] using this)
        have q1 := (st.below.cell (p := ⟨b, off + k * 2 + 1, none⟩) hb).trans (by have := hcc 1 _ rfl; simpa [rInt, rPair, rSlice, rProd, rFlat] using this)
        obtain ⟨hceq2, pp0, pp1⟩ := open_Pair hcr'
        subst hceq2
        have p0 := (st.below.cell (p := ⟨b', off' + k * 2, none⟩) hb').trans (by have := hcc' 0 _ rfl; simpa [rInt, rPair, rSlice, rProd, rFlat] using this)
        have p1 := (st.below.cell (p := ⟨b', off' + k * 2 + 1, none⟩) hb').trans (by have := hcc' 1 _ rfl; simpa [rInt, rPair, rSlice, rProd, rFlat] using this)
        have HX := hid ha; have HY := hid hc
        clear ha hc hcc hcc' st
        by_cases hxy : a = c
        · have E := hid (decide_eq_true hxy)
          have HY2 := hid (show y[k]? = some a by rw [hxy]; exact HY.out)
          clear hxy
          go_wp2
          go_region_with (go_at_call 61; refine (eqPair_any   a c _  ).mono ?_; rintro e w1 ⟨rfl, hs1⟩; rw [E.out])
          all_goals
            go_wp2
            go_roundw
            case rel => exact ⟨k + 1, by omega, by go_num, take_snoc_eq HT.out HX.out HY2.out, (ST.out.drew.call (by assumption))⟩
            case measure => simp [intOf]; omega
        · have E := hid (decide_eq_false hxy)
          have E2 := hid (decide_eq_false (ne_of_get HX.out HY.out hxy)); clear hxy
          go_wp2
          go_region_with (go_at_call 61; refine (eqPair_any   a c _  ).mono ?_; rintro e w1 ⟨rfl, hs1⟩; rw [E.out])
          all_goals
            go_wp2
            go_ret
            exact ⟨by rw [E2.out]; rfl, (ST.out.drew.call (by assumption))⟩
      · have e : x = y := eq_of_take HT.out (by omega) (by omega)
        have E := hid (decide_eq_true e); clear e st
        go_wp2
        go_ret
        exact ⟨by rw [E.out]; rfl, ST.out⟩
  · have hn2 : (((x.length : Nat) : Int) != ((y.length : Nat) : Int)) = true := by simp; omega
    have E := hid (decide_eq_false (show ¬ x = y from fun e => hne (by rw [e])))
    clear hc hc' hao hao' hne
    go_enter Try.func47, Try.ntmps47
    go_wp2
    go_ret
    exact ⟨by rw [E.out]; rfl, St.init w⟩

def cnPairS (x : DPairS) : Nat := sumL cePair x
def mkPairS (k : Int) (x : DPairS) : DPairS := mkL mePair cePair k x
def cePairS (x : DPairS) : Nat := cnPairS x
def mePairS (k : Int) (x : DPairS) : DPairS := mkPairS k x

theorem cnle_PairS (x : DPairS) : cnPairS x ≤ 8 * szPairS x := by
  have := sumL_le (f := cePair) (g := fun _ => 0) (by intro a; have : cePair a = 1 + 1 := rfl; omega) x
  have h2 : sumL (fun _ : DPair => 0) x = 0 := sumL_zero x
  have h3 : cnPairS x = sumL cePair x := rfl
  have h4 : szPairS x = x.length := rfl
  unfold szL at this
  omega

def szDelta (x : DDelta) : Nat := szPairS x.1 + szPairS x.2
set_option maxHeartbeats 400000 in
theorem szDelta_any (v0 v1 : Value) (x : DDelta) (n : Int) (w : World) (h0 : rPairS.rd w.heap.size w [v0] x.1) (h1 : rPairS.rd w.heap.size w [v1] x.2) (n0 : 0 ≤ n) (n1 : n ≤ 1048576) :
    Calls Try.prog 24 #[.agg #[v0, v1], .int .i64 n] w fun e w' => e = .returned (.int .i64 (lft n (szDelta x))) ∧ St w w' [] := by
  have HB := hid (show St w (w.alloc (.cells #[v0, v1] 26)) [Ch.blk w.heap.size [v0, v1] 26] from (St.init w).alloc [v0, v1] 26)
  have L0 := hid n0; have M0 := hid n1
  go_enter Try.func24, Try.ntmps24
  go_wp2_with fail
  refine (szPairS_any v0 _ _ _ (HB.out.arg h0) L0.out M0.out).mono ?_
  rintro e w1 ⟨rfl, hs⟩
  have ST1 := hid (HB.out.call hs); clear hs
  have c1 := ST1.out.cell 0 rfl
  by_cases hneg : lft n (szPairS x.1) < 0
  · have E2 := hid (show lft n (szDelta x) = -1 from by
      have := lft_over (n := n) (a := szPairS x.1) (szPairS x.2) hneg; rw [← this]; congr 1)
    go_wp2
    go_ret
    exact ⟨by rw [E2.out]; rfl, ST1.out.drop⟩
  have L1 := hid (show 0 ≤ lft n (szPairS x.1) by omega); have M1 := hid (lft_le (a := szPairS x.1) n1)
  have hge : 0 ≤ lft n (szPairS x.1) := by omega
  clear hneg
  go_wp2_with fail
  refine (szPairS_any v1 _ _ _ (ST1.out.arg h1) L1.out M1.out).mono ?_
  rintro e w2 ⟨rfl, hs⟩
  have ST2 := hid (ST1.out.call hs); clear hs
  have c2 := ST2.out.cell 0 rfl
  have EE := hid (lft_add (b := szPairS x.2) L1.out); rw [EE.out]; clear EE
  clear c1
  by_cases hneg : lft n (szPairS x.1 + szPairS x.2) < 0
  · have E2 := hid (show lft n (szDelta x) = -1 from by
      have h := hneg; unfold lft at h; split at h <;> first | (exact lft_neg (by assumption)) | omega)
    go_wp2
    go_ret
    exact ⟨by rw [E2.out]; rfl, ST2.out.drop⟩
  have L2 := hid (show 0 ≤ lft n (szPairS x.1 + szPairS x.2) by omega); have M2 := hid (lft_le (a := szPairS x.1 + szPairS x.2) n1)
  have hge : 0 ≤ lft n (szPairS x.1 + szPairS x.2) := by omega
  clear hneg
  go_wp2
  go_ret
  exact ⟨rfl, ST2.out.drop⟩

theorem hsz33 : (Try.prog.info? 33).map (·.size) = some 2 := by kernel_rfl
set_option maxHeartbeats 800000 in
theorem toDelta_any (v0 v1 : Value) (x : DDelta) (w : World)  (h0 : rPairS.rd w.heap.size w [v0] x.1) (h1 : rPairS.rd w.heap.size w [v1] x.2) (hn : szDelta x ≤ 1048576) :
    Calls Try.prog 26 #[.agg #[v0, v1]] w fun e w' => ∃ u0 u1 : Value, e = .returned (.agg #[u0, u1]) ∧ St w w' [Ch.own rPairS [u0] x.1, Ch.own rPairS [u1] x.2] := by
  have HN := hid hn; clear hn; unfold szDelta at HN
  go_enter Try.func26, Try.ntmps26
  have ST := hid (show St w (((w.alloc (.cells #[v0, v1] 26)).alloc (.cells #[.slice none 0 0, .slice none 0 0] 33)).alloc (.cells #[.slice none 0 0, .slice none 0 0] 33)) [Ch.blk (w.heap.size + 2) [.slice none 0 0, .slice none 0 0] 33, Ch.blk (w.heap.size + 1) [.slice none 0 0, .slice none 0 0] 33, Ch.blk w.heap.size [v0, v1] 26] from (St.init w).alloc3 _ _ _ _ _ _)
  go_wp2_with fail
  refine (toPairS_any v0 x.1 _  (ST.out.arg h0) (by have := HN.out; omega)).mono ?_
  rintro e w1 ⟨u0, rfl, hs⟩
  have SC0 := hid (show St w w1 [Ch.own rPairS [u0] x.1, Ch.blk (w.heap.size + 2) [.slice none 0 0, .slice none 0 0] 33, Ch.blk (w.heap.size + 1) [.slice none 0 0, .slice none 0 0] 33, Ch.blk w.heap.size [v0, v1] 26] from ST.out.call hs); clear hs
  obtain ⟨ha0, hp0, rfl⟩ := SC0.out.hdr (R := rPair) 0 rfl
  have ca0 := SC0.out.cell 1 rfl
  have fa0 := SC0.out.free 1 rfl
  have cb0 := SC0.out.cell 2 rfl
  have fb0 := SC0.out.free 2 rfl
  have cd0 := SC0.out.cell 3 rfl
  go_wp2_with fail
  have SS1 := hid (show St w ((w1).setCell ⟨w.heap.size + 2, 0, none⟩ ((.slice ha0 x.1.length hp0))) [Ch.blk (w.heap.size + 2) [(.slice ha0 x.1.length hp0), .slice none 0 0] 33, Ch.own rPairS [(.slice ha0 x.1.length hp0)] x.1, Ch.blk (w.heap.size + 1) [.slice none 0 0, .slice none 0 0] 33, Ch.blk w.heap.size [v0, v1] 26] from ((SC0.out.sel 4 [1, 0, 2, 3] rfl (by decide) : St w _ [Ch.blk (w.heap.size + 2) [.slice none 0 0, .slice none 0 0] 33, Ch.own rPairS [(.slice ha0 x.1.length hp0)] x.1, Ch.blk (w.heap.size + 1) [.slice none 0 0, .slice none 0 0] 33, Ch.blk w.heap.size [v0, v1] 26])).set0 0 ((.slice ha0 x.1.length hp0)))
  refine (toPairS_any v1 x.2 _  (SS1.out.arg h1) (by have := HN.out; omega)).mono ?_
  rintro e w2 ⟨u1, rfl, hs⟩
  have SC1 := hid (show St w w2 [Ch.own rPairS [u1] x.2, Ch.blk (w.heap.size + 2) [(.slice ha0 x.1.length hp0), .slice none 0 0] 33, Ch.own rPairS [(.slice ha0 x.1.length hp0)] x.1, Ch.blk (w.heap.size + 1) [.slice none 0 0, .slice none 0 0] 33, Ch.blk w.heap.size [v0, v1] 26] from SS1.out.call hs); clear hs
  obtain ⟨ha1, hp1, rfl⟩ := SC1.out.hdr (R := rPair) 0 rfl
  have ca1 := SC1.out.cell 1 rfl
  have fa1 := SC1.out.free 1 rfl
  have cb1 := SC1.out.cell 3 rfl
  have fb1 := SC1.out.free 3 rfl
  have cd1 := SC1.out.cell 4 rfl
  go_wp2
  have fin : ∀ W, St w W [Ch.own rPairS [(.slice ha0 x.1.length hp0)] x.1, Ch.own rPairS [(.slice ha1 x.2.length hp1)] x.2] → ∃ y0 y1 : Value, Ending.returned (.agg #[(.slice ha0 x.1.length hp0), (.slice ha1 x.2.length hp1)]) = .returned (.agg #[y0, y1]) ∧ St w W [Ch.own rPairS [y0] x.1, Ch.own rPairS [y1] x.2] := fun W h => ⟨(.slice ha0 x.1.length hp0), (.slice ha1 x.2.length hp1), rfl, h⟩
  have SS2 := hid (show St w ((w2).setCell ⟨w.heap.size + 2, 1, none⟩ ((.slice ha1 x.2.length hp1))) [Ch.blk (w.heap.size + 2) [(.slice ha0 x.1.length hp0), (.slice ha1 x.2.length hp1)] 33, Ch.own rPairS [(.slice ha1 x.2.length hp1)] x.2, Ch.own rPairS [(.slice ha0 x.1.length hp0)] x.1, Ch.blk (w.heap.size + 1) [.slice none 0 0, .slice none 0 0] 33, Ch.blk w.heap.size [v0, v1] 26] from ((SC1.out.sel 5 [1, 0, 2, 3, 4] rfl (by decide) : St w _ [Ch.blk (w.heap.size + 2) [(.slice ha0 x.1.length hp0), .slice none 0 0] 33, Ch.own rPairS [(.slice ha1 x.2.length hp1)] x.2, Ch.own rPairS [(.slice ha0 x.1.length hp0)] x.1, Ch.blk (w.heap.size + 1) [.slice none 0 0, .slice none 0 0] 33, Ch.blk w.heap.size [v0, v1] 26])).set0 1 ((.slice ha1 x.2.length hp1)))
  have SS3 := hid (show St w ((((w2).setCell ⟨w.heap.size + 2, 1, none⟩ ((.slice ha1 x.2.length hp1))).setCell ⟨w.heap.size + 1, 0, none⟩ ((.slice ha0 x.1.length hp0))).setCell ⟨w.heap.size + 1, 1, none⟩ ((.slice ha1 x.2.length hp1))) [Ch.blk (w.heap.size + 1) [(.slice ha0 x.1.length hp0), (.slice ha1 x.2.length hp1)] 33, Ch.blk (w.heap.size + 2) [(.slice ha0 x.1.length hp0), (.slice ha1 x.2.length hp1)] 33, Ch.own rPairS [(.slice ha1 x.2.length hp1)] x.2, Ch.own rPairS [(.slice ha0 x.1.length hp0)] x.1, Ch.blk w.heap.size [v0, v1] 26] from (((SS2.out.sel 5 [3, 0, 1, 2, 4] rfl (by decide) : St w _ [Ch.blk (w.heap.size + 1) [.slice none 0 0, .slice none 0 0] 33, Ch.blk (w.heap.size + 2) [(.slice ha0 x.1.length hp0), (.slice ha1 x.2.length hp1)] 33, Ch.own rPairS [(.slice ha1 x.2.length hp1)] x.2, Ch.own rPairS [(.slice ha0 x.1.length hp0)] x.1, Ch.blk w.heap.size [v0, v1] 26])).set0 0 ((.slice ha0 x.1.length hp0))).set0 1 ((.slice ha1 x.2.length hp1)))
  exact bodyPost_ret (v := .agg #[(.slice ha0 x.1.length hp0), (.slice ha1 x.2.length hp1)]) (res_cell (cs := [(.slice ha0 x.1.length hp0), (.slice ha1 x.2.length hp1)]) Try.results26 rfl (SS3.out.heap 0 rfl).1 rfl Try.underlying33 hsz33) rfl (fin _ (SS3.out.sel 5 [3, 2] rfl (by decide)))

set_option maxHeartbeats 800000 in
theorem eqDelta_any (v0 v1 : Value) (u0 u1 : Value) (x y : DDelta) (w : World) (h0 : rPairS.rd w.heap.size w [v0] x.1) (h1 : rPairS.rd w.heap.size w [v1] x.2) (g0 : rPairS.rd w.heap.size w [u0] y.1) (g1 : rPairS.rd w.heap.size w [u1] y.2) :
    Calls Try.prog 28 #[.agg #[v0, v1], .agg #[u0, u1]] w fun e w' => e = .returned (.bool (decide (x = y))) ∧ St w w' [] := by
  have ST := hid (show St w ((w.alloc (.cells #[v0, v1] 33)).alloc (.cells #[u0, u1] 33)) [Ch.blk (w.heap.size + 1) [u0, u1] 33, Ch.blk w.heap.size [v0, v1] 33] from (St.init w).alloc2 _ _ _ _)
  go_enter Try.func28, Try.ntmps28
  by_cases e0 : x.1 = y.1
  rotate_left
  · have E := hid (decide_eq_false (show ¬ x = y from fun h => e0 (by rw [h])))
    have D := hid (decide_eq_false e0); clear e0
    go_wp2_with fail
    refine (eqPairS_any v0 u0 x.1 y.1 _ (ST.out.arg h0) (ST.out.arg g0)).mono ?_
    rintro e w1 ⟨rfl, hs⟩
    rw [D.out]
    have S2 := hid (ST.out.call hs)
    go_wp2
    go_ret
    exact ⟨by rw [E.out]; rfl, S2.out.drop⟩
  have D0 := hid (decide_eq_true e0); have E0 := hid e0; clear e0
  go_wp2_with fail
  refine (eqPairS_any v0 u0 x.1 y.1 _ (ST.out.arg h0) (ST.out.arg g0)).mono ?_
  rintro e w2 ⟨rfl, hs⟩
  rw [D0.out]
  have SC1 := hid (show St w w2 [Ch.blk (w.heap.size + 1) [u0, u1] 33, Ch.blk w.heap.size [v0, v1] 33] from ST.out.call hs); clear hs
  have ca1 := SC1.out.cell 0 rfl; have cb1 := SC1.out.cell 1 rfl
  by_cases e1 : x.2 = y.2
  rotate_left
  · have E := hid (decide_eq_false (show ¬ x = y from fun h => e1 (by rw [h])))
    have D := hid (decide_eq_false e1); clear e1
    go_wp2_with fail
    refine (eqPairS_any v1 u1 x.2 y.2 _ (SC1.out.arg h1) (SC1.out.arg g1)).mono ?_
    rintro e w1 ⟨rfl, hs⟩
    rw [D.out]
    have S2 := hid (SC1.out.call hs)
    go_wp2
    go_ret
    exact ⟨by rw [E.out]; rfl, S2.out.drop⟩
  have D1 := hid (decide_eq_true e1); have E1 := hid e1; clear e1
  go_wp2_with fail
  refine (eqPairS_any v1 u1 x.2 y.2 _ (SC1.out.arg h1) (SC1.out.arg g1)).mono ?_
  rintro e w3 ⟨rfl, hs⟩
  rw [D1.out]
  have SC2 := hid (show St w w3 [Ch.blk (w.heap.size + 1) [u0, u1] 33, Ch.blk w.heap.size [v0, v1] 33] from SC1.out.call hs); clear hs
  have ca2 := SC2.out.cell 0 rfl; have cb2 := SC2.out.cell 1 rfl
  have E := hid (decide_eq_true (show x = y from Prod.ext E0.out (E1.out)))
  go_wp2
  go_ret
  exact ⟨by rw [E.out]; rfl, SC2.out.drop⟩

def cnDelta (x : DDelta) : Nat := cnPairS x.1 + cnPairS x.2
def mkDelta (k : Int) (x : DDelta) : DDelta := (mkPairS (k) x.1, mkPairS (k + ((cnPairS x.1 : Nat) : Int)) x.2)
def ceDelta (x : DDelta) : Nat := cnPairS x.1 + cnPairS x.2
def meDelta (k : Int) (x : DDelta) : DDelta := (mkPairS (k) x.1, mkPairS (k + ((cnPairS x.1 : Nat) : Int)) x.2)

theorem cnle_Delta (x : DDelta) : cnDelta x ≤ 8 * szDelta x := by
  have h0 := cnle_PairS x.1
  have h1 := cnle_PairS x.2
  unfold cnDelta szDelta; omega
theorem cele_Delta (x : DDelta) : ceDelta x ≤ 8 + 8 * szDelta x := by
  have h_0 := cnle_PairS x.1
  have h_1 := cnle_PairS x.2
  have hh : ceDelta x = cnPairS x.1 + cnPairS x.2 := rfl
  unfold szDelta; omega

def szMessage (x : DMessage) : Nat := szDelta x.2.2
set_option maxHeartbeats 400000 in
theorem szMessage_any (v0 v1 : Value) (x : DMessage) (n : Int) (w : World) (h0 : rPairS.rd w.heap.size w [v0] x.2.2.1) (h1 : rPairS.rd w.heap.size w [v1] x.2.2.2) (n0 : 0 ≤ n) (n1 : n ≤ 1048576) :
    Calls Try.prog 8 #[.agg #[.int .i64 x.1, .bool x.2.1, v0, v1], .int .i64 n] w fun e w' => e = .returned (.int .i64 (lft n (szMessage x))) ∧ St w w' [] := by
  have HB := hid (show St w (w.alloc (.cells #[.int .i64 x.1, .bool x.2.1, v0, v1] 28)) [Ch.blk w.heap.size [.int .i64 x.1, .bool x.2.1, v0, v1] 28] from (St.init w).alloc [.int .i64 x.1, .bool x.2.1, v0, v1] 28)
  have L0 := hid n0; have M0 := hid n1
  go_enter Try.func8, Try.ntmps8
  go_wp2_with fail
  refine (szDelta_any v0 v1 _ _ _ (HB.out.arg h0) (HB.out.arg h1) L0.out M0.out).mono ?_
  rintro e w1 ⟨rfl, hs⟩
  have ST1 := hid (HB.out.call hs); clear hs
  have c1 := ST1.out.cell 0 rfl
  by_cases hneg : lft n (szDelta x.2.2) < 0
  · have E2 := hid (show lft n (szMessage x) = -1 from by
      have h := hneg; unfold lft at h; split at h <;> first | (exact lft_neg (by assumption)) | omega)
    go_wp2
    go_ret
    exact ⟨by rw [E2.out]; rfl, ST1.out.drop⟩
  have L1 := hid (show 0 ≤ lft n (szDelta x.2.2) by omega); have M1 := hid (lft_le (a := szDelta x.2.2) n1)
  have hge : 0 ≤ lft n (szDelta x.2.2) := by omega
  clear hneg
  go_wp2
  go_ret
  exact ⟨rfl, ST1.out.drop⟩

theorem hsz35 : (Try.prog.info? 35).map (·.size) = some 4 := by kernel_rfl
set_option maxHeartbeats 800000 in
theorem toMessage_any (v0 v1 : Value) (x : DMessage) (w : World) (o0 : I64 (x.1)) (h0 : rPairS.rd w.heap.size w [v0] x.2.2.1) (h1 : rPairS.rd w.heap.size w [v1] x.2.2.2) (hn : szMessage x ≤ 1048576) :
    Calls Try.prog 10 #[.agg #[.int .i64 x.1, .bool x.2.1, v0, v1]] w fun e w' => ∃ u0 u1 : Value, e = .returned (.agg #[.int .i64 x.1, .bool x.2.1, u0, u1]) ∧ St w w' [Ch.own rPairS [u0] x.2.2.1, Ch.own rPairS [u1] x.2.2.2] := by
  have HN := hid hn; clear hn; unfold szMessage at HN
  go_enter Try.func10, Try.ntmps10
  have ST := hid (show St w (((w.alloc (.cells #[.int .i64 x.1, .bool x.2.1, v0, v1] 28)).alloc (.cells #[.int .i64 0, .bool false, .slice none 0 0, .slice none 0 0] 35)).alloc (.cells #[.int .i64 x.1, .bool x.2.1, .slice none 0 0, .slice none 0 0] 35)) [Ch.blk (w.heap.size + 2) [.int .i64 x.1, .bool x.2.1, .slice none 0 0, .slice none 0 0] 35, Ch.blk (w.heap.size + 1) [.int .i64 0, .bool false, .slice none 0 0, .slice none 0 0] 35, Ch.blk w.heap.size [.int .i64 x.1, .bool x.2.1, v0, v1] 28] from (St.init w).alloc3 _ _ _ _ _ _)
  go_wp2_with fail
  refine (toDelta_any v0 v1 x.2.2 _  (ST.out.arg h0) (ST.out.arg h1) (by have := HN.out; omega)).mono ?_
  rintro e w3 ⟨u0, u1, rfl, hs⟩
  have SC2 := hid (show St w w3 [Ch.own rPairS [u0] x.2.2.1, Ch.own rPairS [u1] x.2.2.2, Ch.blk (w.heap.size + 2) [.int .i64 x.1, .bool x.2.1, .slice none 0 0, .slice none 0 0] 35, Ch.blk (w.heap.size + 1) [.int .i64 0, .bool false, .slice none 0 0, .slice none 0 0] 35, Ch.blk w.heap.size [.int .i64 x.1, .bool x.2.1, v0, v1] 28] from ST.out.call hs); clear hs
  obtain ⟨ha0, hp0, rfl⟩ := SC2.out.hdr (R := rPair) 0 rfl
  obtain ⟨ha1, hp1, rfl⟩ := SC2.out.hdr (R := rPair) 1 rfl
  have ca2 := SC2.out.cell 2 rfl
  have fa2 := SC2.out.free 2 rfl
  have cb2 := SC2.out.cell 3 rfl
  have fb2 := SC2.out.free 3 rfl
  have cd2 := SC2.out.cell 4 rfl
  go_wp2
  have fin : ∀ W, St w W [Ch.own rPairS [(.slice ha0 x.2.2.1.length hp0)] x.2.2.1, Ch.own rPairS [(.slice ha1 x.2.2.2.length hp1)] x.2.2.2] → ∃ y0 y1 : Value, Ending.returned (.agg #[.int .i64 x.1, .bool x.2.1, (.slice ha0 x.2.2.1.length hp0), (.slice ha1 x.2.2.2.length hp1)]) = .returned (.agg #[.int .i64 x.1, .bool x.2.1, y0, y1]) ∧ St w W [Ch.own rPairS [y0] x.2.2.1, Ch.own rPairS [y1] x.2.2.2] := fun W h => ⟨(.slice ha0 x.2.2.1.length hp0), (.slice ha1 x.2.2.2.length hp1), rfl, h⟩
  have SS1 := hid (show St w (((w3).setCell ⟨w.heap.size + 2, 2, none⟩ ((.slice ha0 x.2.2.1.length hp0))).setCell ⟨w.heap.size + 2, 3, none⟩ ((.slice ha1 x.2.2.2.length hp1))) [Ch.blk (w.heap.size + 2) [.int .i64 x.1, .bool x.2.1, (.slice ha0 x.2.2.1.length hp0), (.slice ha1 x.2.2.2.length hp1)] 35, Ch.own rPairS [(.slice ha0 x.2.2.1.length hp0)] x.2.2.1, Ch.own rPairS [(.slice ha1 x.2.2.2.length hp1)] x.2.2.2, Ch.blk (w.heap.size + 1) [.int .i64 0, .bool false, .slice none 0 0, .slice none 0 0] 35, Ch.blk w.heap.size [.int .i64 x.1, .bool x.2.1, v0, v1] 28] from (((SC2.out.sel 5 [2, 0, 1, 3, 4] rfl (by decide) : St w _ [Ch.blk (w.heap.size + 2) [.int .i64 x.1, .bool x.2.1, .slice none 0 0, .slice none 0 0] 35, Ch.own rPairS [(.slice ha0 x.2.2.1.length hp0)] x.2.2.1, Ch.own rPairS [(.slice ha1 x.2.2.2.length hp1)] x.2.2.2, Ch.blk (w.heap.size + 1) [.int .i64 0, .bool false, .slice none 0 0, .slice none 0 0] 35, Ch.blk w.heap.size [.int .i64 x.1, .bool x.2.1, v0, v1] 28])).set0 2 ((.slice ha0 x.2.2.1.length hp0))).set0 3 ((.slice ha1 x.2.2.2.length hp1)))
  have SS2 := hid (show St w (((((((w3).setCell ⟨w.heap.size + 2, 2, none⟩ ((.slice ha0 x.2.2.1.length hp0))).setCell ⟨w.heap.size + 2, 3, none⟩ ((.slice ha1 x.2.2.2.length hp1))).setCell ⟨w.heap.size + 1, 0, none⟩ (.int .i64 x.1)).setCell ⟨w.heap.size + 1, 1, none⟩ (.bool x.2.1)).setCell ⟨w.heap.size + 1, 2, none⟩ ((.slice ha0 x.2.2.1.length hp0))).setCell ⟨w.heap.size + 1, 3, none⟩ ((.slice ha1 x.2.2.2.length hp1))) [Ch.blk (w.heap.size + 1) [.int .i64 x.1, .bool x.2.1, (.slice ha0 x.2.2.1.length hp0), (.slice ha1 x.2.2.2.length hp1)] 35, Ch.blk (w.heap.size + 2) [.int .i64 x.1, .bool x.2.1, (.slice ha0 x.2.2.1.length hp0), (.slice ha1 x.2.2.2.length hp1)] 35, Ch.own rPairS [(.slice ha0 x.2.2.1.length hp0)] x.2.2.1, Ch.own rPairS [(.slice ha1 x.2.2.2.length hp1)] x.2.2.2, Ch.blk w.heap.size [.int .i64 x.1, .bool x.2.1, v0, v1] 28] from (((((SS1.out.sel 5 [3, 0, 1, 2, 4] rfl (by decide) : St w _ [Ch.blk (w.heap.size + 1) [.int .i64 0, .bool false, .slice none 0 0, .slice none 0 0] 35, Ch.blk (w.heap.size + 2) [.int .i64 x.1, .bool x.2.1, (.slice ha0 x.2.2.1.length hp0), (.slice ha1 x.2.2.2.length hp1)] 35, Ch.own rPairS [(.slice ha0 x.2.2.1.length hp0)] x.2.2.1, Ch.own rPairS [(.slice ha1 x.2.2.2.length hp1)] x.2.2.2, Ch.blk w.heap.size [.int .i64 x.1, .bool x.2.1, v0, v1] 28])).set0 0 (.int .i64 x.1)).set0 1 (.bool x.2.1)).set0 2 ((.slice ha0 x.2.2.1.length hp0))).set0 3 ((.slice ha1 x.2.2.2.length hp1)))
  exact bodyPost_ret (v := .agg #[.int .i64 x.1, .bool x.2.1, (.slice ha0 x.2.2.1.length hp0), (.slice ha1 x.2.2.2.length hp1)]) (res_cell (cs := [.int .i64 x.1, .bool x.2.1, (.slice ha0 x.2.2.1.length hp0), (.slice ha1 x.2.2.2.length hp1)]) Try.results10 rfl (SS2.out.heap 0 rfl).1 rfl Try.underlying35 hsz35) rfl (fin _ (SS2.out.sel 5 [2, 3] rfl (by decide)))

set_option maxHeartbeats 800000 in
theorem eqMessage_any (v0 v1 : Value) (u0 u1 : Value) (x y : DMessage) (w : World) (h0 : rPairS.rd w.heap.size w [v0] x.2.2.1) (h1 : rPairS.rd w.heap.size w [v1] x.2.2.2) (g0 : rPairS.rd w.heap.size w [u0] y.2.2.1) (g1 : rPairS.rd w.heap.size w [u1] y.2.2.2) :
    Calls Try.prog 12 #[.agg #[.int .i64 x.1, .bool x.2.1, v0, v1], .agg #[.int .i64 y.1, .bool y.2.1, u0, u1]] w fun e w' => e = .returned (.bool (decide (x = y))) ∧ St w w' [] := by
  have ST := hid (show St w ((w.alloc (.cells #[.int .i64 x.1, .bool x.2.1, v0, v1] 35)).alloc (.cells #[.int .i64 y.1, .bool y.2.1, u0, u1] 35)) [Ch.blk (w.heap.size + 1) [.int .i64 y.1, .bool y.2.1, u0, u1] 35, Ch.blk w.heap.size [.int .i64 x.1, .bool x.2.1, v0, v1] 35] from (St.init w).alloc2 _ _ _ _)
  go_enter Try.func12, Try.ntmps12
  by_cases e0 : x.1 = y.1
  rotate_left
  · have E := hid (decide_eq_false (show ¬ x = y from fun h => e0 (by rw [h])))
    have n1 : (x.1 != y.1) = true := by simpa using e0
    have n2 : (x.1 == y.1) = false := by simpa using e0
    clear e0
    go_wp2
    go_ret
    exact ⟨by rw [E.out]; rfl, ST.out.drop⟩
  have p0 : (x.1 != y.1) = false := by simpa using e0
  have q0 : (x.1 == y.1) = true := by simpa using e0
  have E0 := hid e0; clear e0
  by_cases e1 : x.2.1 = y.2.1
  rotate_left
  · have E := hid (decide_eq_false (show ¬ x = y from fun h => e1 (by rw [h])))
    have n1 : (x.2.1 != y.2.1) = true := by simpa using e1
    have n2 : (x.2.1 == y.2.1) = false := by simpa using e1
    clear e1
    go_wp2
    go_ret
    exact ⟨by rw [E.out]; rfl, ST.out.drop⟩
  have p1 : (x.2.1 != y.2.1) = false := by simpa using e1
  have q1 : (x.2.1 == y.2.1) = true := by simpa using e1
  have E1 := hid e1; clear e1
  by_cases e2 : x.2.2 = y.2.2
  rotate_left
  · have E := hid (decide_eq_false (show ¬ x = y from fun h => e2 (by rw [h])))
    have D := hid (decide_eq_false e2); clear e2
    go_wp2_with fail
    refine (eqDelta_any v0 v1 u0 u1 x.2.2 y.2.2 _ (ST.out.arg h0) (ST.out.arg h1) (ST.out.arg g0) (ST.out.arg g1)).mono ?_
    rintro e w1 ⟨rfl, hs⟩
    rw [D.out]
    have S2 := hid (ST.out.call hs)
    go_wp2
    go_ret
    exact ⟨by rw [E.out]; rfl, S2.out.drop⟩
  have D2 := hid (decide_eq_true e2); have E2 := hid e2; clear e2
  go_wp2_with fail
  refine (eqDelta_any v0 v1 u0 u1 x.2.2 y.2.2 _ (ST.out.arg h0) (ST.out.arg h1) (ST.out.arg g0) (ST.out.arg g1)).mono ?_
  rintro e w2 ⟨rfl, hs⟩
  rw [D2.out]
  have SC1 := hid (show St w w2 [Ch.blk (w.heap.size + 1) [.int .i64 y.1, .bool y.2.1, u0, u1] 35, Ch.blk w.heap.size [.int .i64 x.1, .bool x.2.1, v0, v1] 35] from ST.out.call hs); clear hs
  have ca1 := SC1.out.cell 0 rfl; have cb1 := SC1.out.cell 1 rfl
  have E := hid (decide_eq_true (show x = y from Prod.ext E0.out (Prod.ext E1.out (E2.out))))
  go_wp2
  go_ret
  exact ⟨by rw [E.out]; rfl, SC1.out.drop⟩

def cnMessage (x : DMessage) : Nat := cnDelta x.2.2
def mkMessage (k : Int) (x : DMessage) : DMessage := (x.1, x.2.1, mkDelta (k) x.2.2)
def ceMessage (x : DMessage) : Nat := ceInt x.1 + ceBool x.2.1 + ceDelta x.2.2
def meMessage (k : Int) (x : DMessage) : DMessage := (meInt (k) x.1, meBool (k + ((ceInt x.1 : Nat) : Int)) x.2.1, meDelta (k + ((ceInt x.1 : Nat) : Int) + ((ceBool x.2.1 : Nat) : Int)) x.2.2)

theorem cnle_Message (x : DMessage) : cnMessage x ≤ 8 * szMessage x := by
  have h2 := cnle_Delta x.2.2
  unfold cnMessage szMessage; omega
theorem cele_Message (x : DMessage) : ceMessage x ≤ 8 + 8 * szMessage x := by
  have h_2_0 := cnle_PairS x.2.2.1
  have h_2_1 := cnle_PairS x.2.2.2
  have hh : ceMessage x = 1 + 1 + (cnPairS x.2.2.1 + cnPairS x.2.2.2) := rfl
  unfold szMessage szDelta; omega

def szIntS (x : DIntS) : Nat := x.length
theorem szIntS_any (v : Value) (x : DIntS) (n : Int) (w : World) (h : rIntS.rd w.heap.size w [v] x) (n0 : 0 ≤ n) (n1 : n ≤ 1048576) :
    Calls Try.prog 29 #[v, .int .i64 n] w fun e w' => e = .returned (.int .i64 (lft n (szIntS x))) ∧ St w w' [] := by
  obtain ⟨ao, cap, b, off, hv, hl, -, -⟩ := sl_open h
  obtain rfl : v = _ := by simpa using hv
  clear hv h
  unfold lim at hl
  by_cases hc : n < x.length
  · have e := hid (lft_neg (n := n) (s := szIntS x) hc)
    go_enter Try.func29, Try.ntmps29
    go_wp2
    all_goals go_ret
    all_goals exact ⟨by rw [e.out]; rfl, St.init _⟩
  · have e := hid (lft_pos (n := n) (s := szIntS x) hc)
    go_enter Try.func29, Try.ntmps29
    go_wp2
    all_goals go_ret
    all_goals exact ⟨by rw [e.out]; rfl, St.init _⟩

theorem hinfo3 : (Try.prog.info? 3).map (fun i => (i.zero, i.size, i.bytes)) = some (some (.int .i64 0), 1, 8) := by kernel_rfl
set_option maxHeartbeats 800000 in
theorem toIntS_any (v : Value) (x : DIntS) (w : World) (h : rIntS.rd w.heap.size w [v] x) (hn : szIntS x ≤ 1048576) :
    Calls Try.prog 32 #[v] w fun e w' => ∃ u, e = .returned u ∧ St w w' [Ch.own rIntS [u] x] := by
  obtain ⟨ao, cap, b, off, hv, hl, hao, hc⟩ := sl_open h
  obtain rfl : v = _ := by simpa using hv
  clear hv h hl
  have hn0 : x.length ≤ 1048576 := by exact hn
  obtain ⟨i, hi, hz0, hz1, hz2⟩ := info_parts hinfo3
  have hmk : ∀ u : World, (Instr.makeSlice 38 (.int .i64 (x.length : Int)) (.int .i64 (x.length : Int))).run Try.prog u =
      .ok (.slice (some ⟨u.heap.size, 0, none⟩) x.length x.length) (u.alloc (.cells (madeCells #[.int .i64 0] (x.length * 1)) 3)) := fun u => by
    have h := run_make (P := Try.prog) u 38 3 i (.int .i64 0) Try.underlying38 hi hz0 .i64 .i64 (x.length : Int) (x.length : Int) (by omega) (Int.le_refl _) (by rw [hz2]; omega) (by omega)
    simpa [hz1, Value.cells] using h
  clear hi hz0 hz1 hz2
  have HC := hid hc; have HA := hid hao; have HN := hid hn
  clear hc hao hn
  have H0 := hid (show St w (w.alloc (.cells (madeCells #[.int .i64 0] (x.length * 1)) 3)) [Ch.part rInt w.heap.size x.length 3 []] from (St.init w).part_start _ (by simp [size_madeCells, rInt, rSlice, rProd, rFlat]))
  go_enter Try.func32, Try.ntmps32
  go_wp2
  clear hmk
  go_loopw [4] (fun i wr => ∃ k : Nat, k ≤ x.length ∧ i = .int .i64 k ∧ St w wr [Ch.part rInt w.heap.size x.length 3 (x.take k)]) (fun i _ => x.length - (intOf i).toNat)
  case atStart => exact ⟨0, Nat.zero_le _, rfl, by simpa using H0.out⟩
  case round =>
    obtain ⟨k, hk, rfl, st⟩ := hrel
    have ST := hid st
    by_cases hlt : k < x.length
    · obtain ⟨y, hy⟩ := get_of_lt hlt
      obtain ⟨c, hcl, hcr, hcc⟩ := HC.out k y hy
      obtain ⟨rfl, hb⟩ := HA.out (by omega)
      obtain ⟨hceq, oo0⟩ := hcr
      subst hceq
      have q0 := (st.below.cell (p := ⟨b, off + k, none⟩) hb).trans (by have := hcc 0 _ rfl; simpa [rInt, rSlice, rProd, rFlat] using this)
      have HY := hid hy
      clear hy hcc
      obtain ⟨hcell, hfz, hg, hg0⟩ := st.part_cell
      obtain ⟨p0, hp0⟩ := hcell k (by show k < x.length * 1; omega)
      have hf0 := hfz k
      clear hcell hfz st
      go_wp2
      go_roundw
      case rel =>
        refine ⟨k + 1, by omega, by go_num, ?_⟩
        have := ST.out.part_put' (o := k) (c := [.int .i64 y]) (x := y) (by rw [List.length_take]; show k = min k x.length * 1; omega) (by rw [List.length_take]; omega) ⟨rfl, rfl, by first | exact oo0 | trivial⟩
        rwa [← take_get HY.out] at this
      case measure => simp [intOf]; omega
    · clear st
      go_wp2
      go_ret
      refine ⟨_, rfl, ?_⟩
      have := ST.out.part_done (by rw [List.length_take]; omega) (by unfold lim; omega)
      rwa [List.take_of_length_le (by omega)] at this

set_option maxHeartbeats 800000 in
theorem eqIntS_any (v u : Value) (x y : DIntS) (w : World) (h : rIntS.rd w.heap.size w [v] x) (g : rIntS.rd w.heap.size w [u] y) :
    Calls Try.prog 37 #[v, u] w fun e w' => e = .returned (.bool (decide (x = y))) ∧ St w w' [] := by
  obtain ⟨ao, cap, b, off, hv, hl, hao, hc⟩ := sl_open h
  obtain rfl : v = _ := by simpa using hv
  obtain ⟨ao', cap', b', off', hv', hl', hao', hc'⟩ := sl_open g
  obtain rfl : u = _ := by simpa using hv'
  clear hv h hv' g
  unfold lim at hl hl'
  by_cases hne : x.length = y.length
  · have HN := hid hne
    have hn2 : (((x.length : Nat) : Int) != ((y.length : Nat) : Int)) = false := by simp [hne]
    have HC := hid hc; have HC' := hid hc'
    have HA := hid hao; have HA' := hid hao'
    have h7 : y.length ≤ x.length := by omega
    have h8 : x.length ≤ y.length := by omega
    clear hne hc hc' hao hao'
    go_enter Try.func37, Try.ntmps37
    go_wp2
    go_loopw [5] (fun i wr => ∃ k : Nat, k ≤ x.length ∧ i = .int .i64 k ∧ x.take k = y.take k ∧ St w wr []) (fun i _ => x.length - (intOf i).toNat)
    case atStart => exact ⟨0, Nat.zero_le _, rfl, rfl, St.init w⟩
    case round =>
      obtain ⟨k, hk, rfl, ht, st⟩ := hrel
      have HT := hid ht; clear ht
      have ST := hid st
      by_cases hlt : k < x.length
      · obtain ⟨a, ha⟩ := get_of_lt hlt
        obtain ⟨c, hc⟩ := get_of_lt (show k < y.length by omega)
        obtain ⟨cc, hcl, hcr, hcc⟩ := HC.out k a ha
        obtain ⟨cc', hcl', hcr', hcc'⟩ := HC'.out k c hc
        obtain ⟨rfl, hb⟩ := HA.out (by omega)
        obtain ⟨rfl, hb'⟩ := HA'.out (by omega)
        obtain ⟨hceq, oo0⟩ := hcr
        subst hceq
        have q0 := (st.below.cell (p := ⟨b, off + k, none⟩) hb).trans (by have := hcc 0 _ rfl; simpa [rInt, rSlice, rProd, rFlat] using this)
        obtain ⟨hceq2, pp0⟩ := hcr'
        subst hceq2
        have p0 := (st.below.cell (p := ⟨b', off' + k, none⟩) hb').trans (by have := hcc' 0 _ rfl; simpa [rInt, rSlice, rProd, rFlat] using this)
        have HX := hid ha; have HY := hid hc
        clear ha hc hcc hcc' st
        by_cases hxy : a = c
        · subst hxy
          go_wp2
          go_quiet (fail)
          go_wp2
          go_roundw
          case rel => exact ⟨k + 1, by omega, by go_num, take_snoc_eq HT.out HX.out HY.out, St.drewN (by exact ST.out)⟩
          case measure => simp [intOf]; omega
        · have hne : (a != c) = true := by simpa using hxy
          have hne2 : (a == c) = false := by simpa using hxy
          have E := hid (decide_eq_false (ne_of_get HX.out HY.out hxy)); clear hxy
          go_wp2
          go_quiet (fail)
          go_wp2
          go_ret
          exact ⟨by rw [E.out]; rfl, St.drewN (by exact ST.out)⟩
      · have e : x = y := eq_of_take HT.out (by omega) (by omega)
        have E := hid (decide_eq_true e); clear e st
        go_wp2
        go_ret
        exact ⟨by rw [E.out]; rfl, ST.out⟩
  · have hn2 : (((x.length : Nat) : Int) != ((y.length : Nat) : Int)) = true := by simp; omega
    have E := hid (decide_eq_false (show ¬ x = y from fun e => hne (by rw [e])))
    clear hc hc' hao hao' hne
    go_enter Try.func37, Try.ntmps37
    go_wp2
    go_ret
    exact ⟨by rw [E.out]; rfl, St.init w⟩

def cnIntS (x : DIntS) : Nat := sumL ceInt x
def mkIntS (k : Int) (x : DIntS) : DIntS := mkL meInt ceInt k x
def ceIntS (x : DIntS) : Nat := cnIntS x
def meIntS (k : Int) (x : DIntS) : DIntS := mkIntS k x

set_option maxHeartbeats 1600000 in
theorem markIntS_any (v : Value) (x : DIntS) (k0 : Int) (w0 w : World) (r : List Ch) (st : St w0 w (Ch.own rIntS [v] x :: r)) (b0 : 0 ≤ k0) (b1 : k0 + (cnIntS x : Nat) ≤ 1099511627776) :
    Calls Try.prog 38 #[v, .int .i64 k0] w fun e w' => e = .returned (.int .i64 (k0 + (cnIntS x : Nat))) ∧ St w0 w' (Ch.own rIntS [v] (mkIntS k0 x) :: r) := by
  have hlim : x.length ≤ 9223372036854775807 := by
    obtain ⟨ao, cap, _, hl, _⟩ := st.rd 0 rfl
    exact hl
  have H0 := hid st
  rcases st.hdr2 with ⟨rfl, rfl⟩ | ⟨g, cap, rfl⟩
  · clear st
    go_enter Try.func38, Try.ntmps38
    go_wp2
    refine wp_loop_rounds 1 ?_
    rw [rounds_succ]
    go_wp2
    go_ret
    exact ⟨by simp [cnIntS, sumL], H0.out⟩
  · clear st
    go_enter Try.func38, Try.ntmps38
    go_wp2
    go_loopw [1, 5] (fun kk i wr => ∃ k : Nat, k ≤ x.length ∧ i = .int .i64 k ∧ kk = .int .i64 (k0 + (sumL ceInt (x.take k) : Nat)) ∧ St w0 wr (Ch.own (rSlice 3 rInt) [.slice (some ⟨g, 0, none⟩) x.length cap] (mkTo meInt ceInt k0 x k) :: r)) (fun _ i _ => x.length - (intOf i).toNat)
    case atStart => exact ⟨0, Nat.zero_le _, rfl, by simp [sumL], by rw [mkTo_zero]; exact H0.out⟩
    case round =>
      obtain ⟨k, hk, rfl, rfl, st⟩ := hrel
      have ST := hid st
      by_cases hlt : k < x.length
      · obtain ⟨y, hy⟩ := get_of_lt hlt
        have hsum := sumL_take_succ (f := ceInt) hy
        have htot := sumL_take_le (f := ceInt) (xs := x) (k + 1)
        have hb2 : k0 + (sumL ceInt (x.take k) : Nat) + (ceInt y : Nat) ≤ 1099511627776 := by have : cnIntS x = sumL ceInt x := rfl; omega
        have hb3 : 0 ≤ k0 + (sumL ceInt (x.take k) : Nat) := by omega
        have HS := hid hsum
        have HMS := hid (mkTo_set (mk := meInt) (c := ceInt) (k := k0) hy)
        obtain ⟨c, s1⟩ := st.take (mkTo_get hy)
        clear hy hsum htot st
        generalize hK : k0 + ((sumL ceInt (x.take k) : Nat) : Int) = K at HMS hb2 hb3
        have HK := hid hK; clear hK
        obtain ⟨rfl, ok0, s1⟩ := St.flat_split (h1 := fun _ => rfl) (x := y) [] s1
        have hce : ceInt y = 1 := rfl
        have HCE := hid hce; rw [hce] at hb2; clear hce
        obtain ⟨hh, hf⟩ := St.hole_cell' [] s1
        have x0 := hh 0 _ (k) (by show k * 1 + 0 = _; omega) rfl; have y0 := hf (k)
        clear hh hf
        have HS1 := hid s1; clear s1
        go_wp2
        go_roundw
        case rel =>
          have z1 := (St.hole_set' [] 0 (k) (.int .i64 K) (by show 0 < 1; omega) (by show k * 1 + 0 = _; omega) HS1.out)
          have E1 : K + (ceInt y : Nat) = k0 + (sumL ceInt (x.take (k + 1)) : Nat) := by have := HK.out; have := HS.out; omega
          have z2 := St.give (St.flat_join (enc := Value.int .i64) (ok := I64) (h1 := fun _ => rfl) (x := meInt K y) [] (show I64 K by unfold I64; omega) z1)
          refine ⟨k + 1, by omega, by go_num, ?_, ?_⟩
          · rw [← E1]; have := HCE.out; exact val_int (by omega)
          · rw [← HMS.out]; exact z2
        case measure => simp [intOf]; omega
      · clear st
        go_wp2
        go_ret
        have e1 : x.take k = x := List.take_of_length_le (by omega)
        have := ST.out
        rw [mkTo_all (by omega)] at this
        exact ⟨by rw [e1]; rfl, this⟩

set_option maxHeartbeats 1600000 in
theorem heldIntS_any (v : Value) (x : DIntS) (k0 : Int) (w : World) (h : rIntS.rd w.heap.size w [v] (mkIntS k0 x)) (b0 : 0 ≤ k0) (b1 : k0 + (cnIntS x : Nat) ≤ 1099511627776) :
    Calls Try.prog 58 #[v, .int .i64 k0] w fun e w' => e = .returned (.int .i64 (k0 + (cnIntS x : Nat))) ∧ St w w' [] := by
  obtain ⟨ao, cap, b, off, hv, hl, hao, hc⟩ := sl_open h
  obtain rfl : v = _ := by simpa using hv
  clear hv h
  have hlen : (mkIntS k0 x).length = x.length := mkL_length
  rw [hlen] at hl hao ⊢
  unfold lim at hl
  have HC := hid hc; have HA := hid hao
  clear hc hao hlen
  go_enter Try.func58, Try.ntmps58
  go_wp2
  go_loopw [1, 5] (fun kk i wr => ∃ k : Nat, k ≤ x.length ∧ i = .int .i64 k ∧ kk = .int .i64 (k0 + (sumL ceInt (x.take k) : Nat)) ∧ St w wr []) (fun _ i _ => x.length - (intOf i).toNat)
  case atStart => exact ⟨0, Nat.zero_le _, rfl, by simp [sumL], St.init w⟩
  case round =>
    obtain ⟨k, hk, rfl, rfl, st⟩ := hrel
    have ST := hid st
    by_cases hlt : k < x.length
    · obtain ⟨t, ht⟩ := get_of_lt hlt
      have hsum := sumL_take_succ (f := ceInt) ht
      have htot := sumL_take_le (f := ceInt) (xs := x) (k + 1)
      have hb2 : k0 + (sumL ceInt (x.take k) : Nat) + (ceInt t : Nat) ≤ 1099511627776 := by have : cnIntS x = sumL ceInt x := rfl; omega
      have hb3 : 0 ≤ k0 + (sumL ceInt (x.take k) : Nat) := by omega
      have HS := hid hsum
      obtain ⟨c, hcl, hcr, hcc⟩ := HC.out k _ (mkL_get ht)
      obtain ⟨rfl, hb⟩ := HA.out (by omega)
      clear ht hsum htot
      generalize hK : k0 + ((sumL ceInt (x.take k) : Nat) : Int) = K at hb2 hb3 hcr
      have HK := hid hK; clear hK
      obtain ⟨hceq, oo0⟩ := hcr
      subst hceq
      have q0 := (st.below.cell (p := ⟨b, off + k, none⟩) hb).trans (by have := hcc 0 _ rfl; simpa [rInt, rSlice, rProd, rFlat] using this)
      clear hcc st
      have hce : ceInt t = 1 := rfl
      have HCE := hid hce; rw [hce] at hb2; clear hce
      have x0 : wr.cell? ⟨b, off + k, none⟩ = some (.int .i64 K) := q0
      clear q0
      have X0 := hid x0
      go_wp2
      go_roundw
      case rel =>
        have E1 : K + (ceInt t : Nat) = k0 + (sumL ceInt (x.take (k + 1)) : Nat) := by have := HK.out; have := HS.out; omega
        refine ⟨k + 1, by omega, by go_num, ?_, ST.out⟩
        rw [← E1]; have := HCE.out; exact val_int (by omega)
      case measure => simp [intOf]; omega
    · clear st
      go_wp2
      go_ret
      have e1 : x.take k = x := List.take_of_length_le (by omega)
      exact ⟨by rw [e1]; rfl, ST.out⟩

theorem cnle_IntS (x : DIntS) : cnIntS x ≤ 8 * szIntS x := by
  have := sumL_le (f := ceInt) (g := fun _ => 0) (by intro a; have : ceInt a = 1 := rfl; omega) x
  have h2 : sumL (fun _ : Int => 0) x = 0 := sumL_zero x
  have h3 : cnIntS x = sumL ceInt x := rfl
  have h4 : szIntS x = x.length := rfl
  unfold szL at this
  omega

def szPositions (x : DPositions) : Nat := szIntS x.1 + szIntS x.2.2.2.1
set_option maxHeartbeats 400000 in
theorem szPositions_any (v0 v1 : Value) (x : DPositions) (n : Int) (w : World) (h0 : rIntS.rd w.heap.size w [v0] x.1) (h1 : rIntS.rd w.heap.size w [v1] x.2.2.2.1) (n0 : 0 ≤ n) (n1 : n ≤ 1048576) :
    Calls Try.prog 13 #[.agg #[v0, .int .i64 x.2.1, .int .i64 x.2.2.1, v1, .bool x.2.2.2.2], .int .i64 n] w fun e w' => e = .returned (.int .i64 (lft n (szPositions x))) ∧ St w w' [] := by
  have HB := hid (show St w (w.alloc (.cells #[v0, .int .i64 x.2.1, .int .i64 x.2.2.1, v1, .bool x.2.2.2.2] 40)) [Ch.blk w.heap.size [v0, .int .i64 x.2.1, .int .i64 x.2.2.1, v1, .bool x.2.2.2.2] 40] from (St.init w).alloc [v0, .int .i64 x.2.1, .int .i64 x.2.2.1, v1, .bool x.2.2.2.2] 40)
  have L0 := hid n0; have M0 := hid n1
  go_enter Try.func13, Try.ntmps13
  go_wp2_with fail
  refine (szIntS_any v0 _ _ _ (HB.out.arg h0) L0.out M0.out).mono ?_
  rintro e w1 ⟨rfl, hs⟩
  have ST1 := hid (HB.out.call hs); clear hs
  have c1 := ST1.out.cell 0 rfl
  by_cases hneg : lft n (szIntS x.1) < 0
  · have E2 := hid (show lft n (szPositions x) = -1 from by
      have := lft_over (n := n) (a := szIntS x.1) (szIntS x.2.2.2.1) hneg; rw [← this]; congr 1)
    go_wp2
    go_ret
    exact ⟨by rw [E2.out]; rfl, ST1.out.drop⟩
  have L1 := hid (show 0 ≤ lft n (szIntS x.1) by omega); have M1 := hid (lft_le (a := szIntS x.1) n1)
  have hge : 0 ≤ lft n (szIntS x.1) := by omega
  clear hneg
  go_wp2_with fail
  refine (szIntS_any v1 _ _ _ (ST1.out.arg h1) L1.out M1.out).mono ?_
  rintro e w2 ⟨rfl, hs⟩
  have ST2 := hid (ST1.out.call hs); clear hs
  have c2 := ST2.out.cell 0 rfl
  have EE := hid (lft_add (b := szIntS x.2.2.2.1) L1.out); rw [EE.out]; clear EE
  clear c1
  by_cases hneg : lft n (szIntS x.1 + szIntS x.2.2.2.1) < 0
  · have E2 := hid (show lft n (szPositions x) = -1 from by
      have h := hneg; unfold lft at h; split at h <;> first | (exact lft_neg (by assumption)) | omega)
    go_wp2
    go_ret
    exact ⟨by rw [E2.out]; rfl, ST2.out.drop⟩
  have L2 := hid (show 0 ≤ lft n (szIntS x.1 + szIntS x.2.2.2.1) by omega); have M2 := hid (lft_le (a := szIntS x.1 + szIntS x.2.2.2.1) n1)
  have hge : 0 ≤ lft n (szIntS x.1 + szIntS x.2.2.2.1) := by omega
  clear hneg
  go_wp2
  go_ret
  exact ⟨rfl, ST2.out.drop⟩

theorem hsz48 : (Try.prog.info? 48).map (·.size) = some 5 := by kernel_rfl
set_option maxHeartbeats 800000 in
theorem toPositions_any (v0 v1 : Value) (x : DPositions) (w : World) (o0 : I64 (x.2.1)) (o1 : I64 (x.2.2.1)) (h0 : rIntS.rd w.heap.size w [v0] x.1) (h1 : rIntS.rd w.heap.size w [v1] x.2.2.2.1) (hn : szPositions x ≤ 1048576) :
    Calls Try.prog 15 #[.agg #[v0, .int .i64 x.2.1, .int .i64 x.2.2.1, v1, .bool x.2.2.2.2]] w fun e w' => ∃ u0 u1 : Value, e = .returned (.agg #[u0, .int .i64 x.2.1, .int .i64 x.2.2.1, u1, .bool x.2.2.2.2]) ∧ St w w' [Ch.own rIntS [u0] x.1, Ch.own rIntS [u1] x.2.2.2.1] := by
  have HN := hid hn; clear hn; unfold szPositions at HN
  go_enter Try.func15, Try.ntmps15
  have ST := hid (show St w (((w.alloc (.cells #[v0, .int .i64 x.2.1, .int .i64 x.2.2.1, v1, .bool x.2.2.2.2] 40)).alloc (.cells #[.slice none 0 0, .int .i64 0, .int .i64 0, .slice none 0 0, .bool false] 48)).alloc (.cells #[.slice none 0 0, .int .i64 0, .int .i64 0, .slice none 0 0, .bool false] 48)) [Ch.blk (w.heap.size + 2) [.slice none 0 0, .int .i64 0, .int .i64 0, .slice none 0 0, .bool false] 48, Ch.blk (w.heap.size + 1) [.slice none 0 0, .int .i64 0, .int .i64 0, .slice none 0 0, .bool false] 48, Ch.blk w.heap.size [v0, .int .i64 x.2.1, .int .i64 x.2.2.1, v1, .bool x.2.2.2.2] 40] from (St.init w).alloc3 _ _ _ _ _ _)
  go_wp2_with fail
  refine (toIntS_any v0 x.1 _  (ST.out.arg h0) (by have := HN.out; omega)).mono ?_
  rintro e w1 ⟨u0, rfl, hs⟩
  have SC0 := hid (show St w w1 [Ch.own rIntS [u0] x.1, Ch.blk (w.heap.size + 2) [.slice none 0 0, .int .i64 0, .int .i64 0, .slice none 0 0, .bool false] 48, Ch.blk (w.heap.size + 1) [.slice none 0 0, .int .i64 0, .int .i64 0, .slice none 0 0, .bool false] 48, Ch.blk w.heap.size [v0, .int .i64 x.2.1, .int .i64 x.2.2.1, v1, .bool x.2.2.2.2] 40] from ST.out.call hs); clear hs
  obtain ⟨ha0, hp0, rfl⟩ := SC0.out.hdr (R := rInt) 0 rfl
  have ca0 := SC0.out.cell 1 rfl
  have fa0 := SC0.out.free 1 rfl
  have cb0 := SC0.out.cell 2 rfl
  have fb0 := SC0.out.free 2 rfl
  have cd0 := SC0.out.cell 3 rfl
  go_wp2_with fail
  have SS1 := hid (show St w ((((w1).setCell ⟨w.heap.size + 2, 0, none⟩ ((.slice ha0 x.1.length hp0))).setCell ⟨w.heap.size + 2, 1, none⟩ (.int .i64 x.2.1)).setCell ⟨w.heap.size + 2, 2, none⟩ (.int .i64 x.2.2.1)) [Ch.blk (w.heap.size + 2) [(.slice ha0 x.1.length hp0), .int .i64 x.2.1, .int .i64 x.2.2.1, .slice none 0 0, .bool false] 48, Ch.own rIntS [(.slice ha0 x.1.length hp0)] x.1, Ch.blk (w.heap.size + 1) [.slice none 0 0, .int .i64 0, .int .i64 0, .slice none 0 0, .bool false] 48, Ch.blk w.heap.size [v0, .int .i64 x.2.1, .int .i64 x.2.2.1, v1, .bool x.2.2.2.2] 40] from ((((SC0.out.sel 4 [1, 0, 2, 3] rfl (by decide) : St w _ [Ch.blk (w.heap.size + 2) [.slice none 0 0, .int .i64 0, .int .i64 0, .slice none 0 0, .bool false] 48, Ch.own rIntS [(.slice ha0 x.1.length hp0)] x.1, Ch.blk (w.heap.size + 1) [.slice none 0 0, .int .i64 0, .int .i64 0, .slice none 0 0, .bool false] 48, Ch.blk w.heap.size [v0, .int .i64 x.2.1, .int .i64 x.2.2.1, v1, .bool x.2.2.2.2] 40])).set0 0 ((.slice ha0 x.1.length hp0))).set0 1 (.int .i64 x.2.1)).set0 2 (.int .i64 x.2.2.1))
  refine (toIntS_any v1 x.2.2.2.1 _  (SS1.out.arg h1) (by have := HN.out; omega)).mono ?_
  rintro e w4 ⟨u1, rfl, hs⟩
  have SC3 := hid (show St w w4 [Ch.own rIntS [u1] x.2.2.2.1, Ch.blk (w.heap.size + 2) [(.slice ha0 x.1.length hp0), .int .i64 x.2.1, .int .i64 x.2.2.1, .slice none 0 0, .bool false] 48, Ch.own rIntS [(.slice ha0 x.1.length hp0)] x.1, Ch.blk (w.heap.size + 1) [.slice none 0 0, .int .i64 0, .int .i64 0, .slice none 0 0, .bool false] 48, Ch.blk w.heap.size [v0, .int .i64 x.2.1, .int .i64 x.2.2.1, v1, .bool x.2.2.2.2] 40] from SS1.out.call hs); clear hs
  obtain ⟨ha1, hp1, rfl⟩ := SC3.out.hdr (R := rInt) 0 rfl
  have ca3 := SC3.out.cell 1 rfl
  have fa3 := SC3.out.free 1 rfl
  have cb3 := SC3.out.cell 3 rfl
  have fb3 := SC3.out.free 3 rfl
  have cd3 := SC3.out.cell 4 rfl
  go_wp2
  have fin : ∀ W, St w W [Ch.own rIntS [(.slice ha0 x.1.length hp0)] x.1, Ch.own rIntS [(.slice ha1 x.2.2.2.1.length hp1)] x.2.2.2.1] → ∃ y0 y1 : Value, Ending.returned (.agg #[(.slice ha0 x.1.length hp0), .int .i64 x.2.1, .int .i64 x.2.2.1, (.slice ha1 x.2.2.2.1.length hp1), .bool x.2.2.2.2]) = .returned (.agg #[y0, .int .i64 x.2.1, .int .i64 x.2.2.1, y1, .bool x.2.2.2.2]) ∧ St w W [Ch.own rIntS [y0] x.1, Ch.own rIntS [y1] x.2.2.2.1] := fun W h => ⟨(.slice ha0 x.1.length hp0), (.slice ha1 x.2.2.2.1.length hp1), rfl, h⟩
  have SS2 := hid (show St w (((w4).setCell ⟨w.heap.size + 2, 3, none⟩ ((.slice ha1 x.2.2.2.1.length hp1))).setCell ⟨w.heap.size + 2, 4, none⟩ (.bool x.2.2.2.2)) [Ch.blk (w.heap.size + 2) [(.slice ha0 x.1.length hp0), .int .i64 x.2.1, .int .i64 x.2.2.1, (.slice ha1 x.2.2.2.1.length hp1), .bool x.2.2.2.2] 48, Ch.own rIntS [(.slice ha1 x.2.2.2.1.length hp1)] x.2.2.2.1, Ch.own rIntS [(.slice ha0 x.1.length hp0)] x.1, Ch.blk (w.heap.size + 1) [.slice none 0 0, .int .i64 0, .int .i64 0, .slice none 0 0, .bool false] 48, Ch.blk w.heap.size [v0, .int .i64 x.2.1, .int .i64 x.2.2.1, v1, .bool x.2.2.2.2] 40] from (((SC3.out.sel 5 [1, 0, 2, 3, 4] rfl (by decide) : St w _ [Ch.blk (w.heap.size + 2) [(.slice ha0 x.1.length hp0), .int .i64 x.2.1, .int .i64 x.2.2.1, .slice none 0 0, .bool false] 48, Ch.own rIntS [(.slice ha1 x.2.2.2.1.length hp1)] x.2.2.2.1, Ch.own rIntS [(.slice ha0 x.1.length hp0)] x.1, Ch.blk (w.heap.size + 1) [.slice none 0 0, .int .i64 0, .int .i64 0, .slice none 0 0, .bool false] 48, Ch.blk w.heap.size [v0, .int .i64 x.2.1, .int .i64 x.2.2.1, v1, .bool x.2.2.2.2] 40])).set0 3 ((.slice ha1 x.2.2.2.1.length hp1))).set0 4 (.bool x.2.2.2.2))
  have SS3 := hid (show St w ((((((((w4).setCell ⟨w.heap.size + 2, 3, none⟩ ((.slice ha1 x.2.2.2.1.length hp1))).setCell ⟨w.heap.size + 2, 4, none⟩ (.bool x.2.2.2.2)).setCell ⟨w.heap.size + 1, 0, none⟩ ((.slice ha0 x.1.length hp0))).setCell ⟨w.heap.size + 1, 1, none⟩ (.int .i64 x.2.1)).setCell ⟨w.heap.size + 1, 2, none⟩ (.int .i64 x.2.2.1)).setCell ⟨w.heap.size + 1, 3, none⟩ ((.slice ha1 x.2.2.2.1.length hp1))).setCell ⟨w.heap.size + 1, 4, none⟩ (.bool x.2.2.2.2)) [Ch.blk (w.heap.size + 1) [(.slice ha0 x.1.length hp0), .int .i64 x.2.1, .int .i64 x.2.2.1, (.slice ha1 x.2.2.2.1.length hp1), .bool x.2.2.2.2] 48, Ch.blk (w.heap.size + 2) [(.slice ha0 x.1.length hp0), .int .i64 x.2.1, .int .i64 x.2.2.1, (.slice ha1 x.2.2.2.1.length hp1), .bool x.2.2.2.2] 48, Ch.own rIntS [(.slice ha1 x.2.2.2.1.length hp1)] x.2.2.2.1, Ch.own rIntS [(.slice ha0 x.1.length hp0)] x.1, Ch.blk w.heap.size [v0, .int .i64 x.2.1, .int .i64 x.2.2.1, v1, .bool x.2.2.2.2] 40] from ((((((SS2.out.sel 5 [3, 0, 1, 2, 4] rfl (by decide) : St w _ [Ch.blk (w.heap.size + 1) [.slice none 0 0, .int .i64 0, .int .i64 0, .slice none 0 0, .bool false] 48, Ch.blk (w.heap.size + 2) [(.slice ha0 x.1.length hp0), .int .i64 x.2.1, .int .i64 x.2.2.1, (.slice ha1 x.2.2.2.1.length hp1), .bool x.2.2.2.2] 48, Ch.own rIntS [(.slice ha1 x.2.2.2.1.length hp1)] x.2.2.2.1, Ch.own rIntS [(.slice ha0 x.1.length hp0)] x.1, Ch.blk w.heap.size [v0, .int .i64 x.2.1, .int .i64 x.2.2.1, v1, .bool x.2.2.2.2] 40])).set0 0 ((.slice ha0 x.1.length hp0))).set0 1 (.int .i64 x.2.1)).set0 2 (.int .i64 x.2.2.1)).set0 3 ((.slice ha1 x.2.2.2.1.length hp1))).set0 4 (.bool x.2.2.2.2))
  exact bodyPost_ret (v := .agg #[(.slice ha0 x.1.length hp0), .int .i64 x.2.1, .int .i64 x.2.2.1, (.slice ha1 x.2.2.2.1.length hp1), .bool x.2.2.2.2]) (res_cell (cs := [(.slice ha0 x.1.length hp0), .int .i64 x.2.1, .int .i64 x.2.2.1, (.slice ha1 x.2.2.2.1.length hp1), .bool x.2.2.2.2]) Try.results15 rfl (SS3.out.heap 0 rfl).1 rfl Try.underlying48 hsz48) rfl (fin _ (SS3.out.sel 5 [3, 2] rfl (by decide)))

set_option maxHeartbeats 800000 in
theorem eqPositions_any (v0 v1 : Value) (u0 u1 : Value) (x y : DPositions) (w : World) (h0 : rIntS.rd w.heap.size w [v0] x.1) (h1 : rIntS.rd w.heap.size w [v1] x.2.2.2.1) (g0 : rIntS.rd w.heap.size w [u0] y.1) (g1 : rIntS.rd w.heap.size w [u1] y.2.2.2.1) :
    Calls Try.prog 18 #[.agg #[v0, .int .i64 x.2.1, .int .i64 x.2.2.1, v1, .bool x.2.2.2.2], .agg #[u0, .int .i64 y.2.1, .int .i64 y.2.2.1, u1, .bool y.2.2.2.2]] w fun e w' => e = .returned (.bool (decide (x = y))) ∧ St w w' [] := by
  have ST := hid (show St w ((w.alloc (.cells #[v0, .int .i64 x.2.1, .int .i64 x.2.2.1, v1, .bool x.2.2.2.2] 48)).alloc (.cells #[u0, .int .i64 y.2.1, .int .i64 y.2.2.1, u1, .bool y.2.2.2.2] 48)) [Ch.blk (w.heap.size + 1) [u0, .int .i64 y.2.1, .int .i64 y.2.2.1, u1, .bool y.2.2.2.2] 48, Ch.blk w.heap.size [v0, .int .i64 x.2.1, .int .i64 x.2.2.1, v1, .bool x.2.2.2.2] 48] from (St.init w).alloc2 _ _ _ _)
  go_enter Try.func18, Try.ntmps18
  by_cases e0 : x.1 = y.1
  rotate_left
  · have E := hid (decide_eq_false (show ¬ x = y from fun h => e0 (by rw [h])))
    have D := hid (decide_eq_false e0); clear e0
    go_wp2_with fail
    refine (eqIntS_any v0 u0 x.1 y.1 _ (ST.out.arg h0) (ST.out.arg g0)).mono ?_
    rintro e w1 ⟨rfl, hs⟩
    rw [D.out]
    have S2 := hid (ST.out.call hs)
    go_wp2
    go_ret
    exact ⟨by rw [E.out]; rfl, S2.out.drop⟩
  have D0 := hid (decide_eq_true e0); have E0 := hid e0; clear e0
  go_wp2_with fail
  refine (eqIntS_any v0 u0 x.1 y.1 _ (ST.out.arg h0) (ST.out.arg g0)).mono ?_
  rintro e w2 ⟨rfl, hs⟩
  rw [D0.out]
  have SC1 := hid (show St w w2 [Ch.blk (w.heap.size + 1) [u0, .int .i64 y.2.1, .int .i64 y.2.2.1, u1, .bool y.2.2.2.2] 48, Ch.blk w.heap.size [v0, .int .i64 x.2.1, .int .i64 x.2.2.1, v1, .bool x.2.2.2.2] 48] from ST.out.call hs); clear hs
  have ca1 := SC1.out.cell 0 rfl; have cb1 := SC1.out.cell 1 rfl
  by_cases e1 : x.2.1 = y.2.1
  rotate_left
  · have E := hid (decide_eq_false (show ¬ x = y from fun h => e1 (by rw [h])))
    have n1 : (x.2.1 != y.2.1) = true := by simpa using e1
    have n2 : (x.2.1 == y.2.1) = false := by simpa using e1
    clear e1
    go_wp2
    go_ret
    exact ⟨by rw [E.out]; rfl, SC1.out.drop⟩
  have p1 : (x.2.1 != y.2.1) = false := by simpa using e1
  have q1 : (x.2.1 == y.2.1) = true := by simpa using e1
  have E1 := hid e1; clear e1
  by_cases e2 : x.2.2.1 = y.2.2.1
  rotate_left
  · have E := hid (decide_eq_false (show ¬ x = y from fun h => e2 (by rw [h])))
    have n1 : (x.2.2.1 != y.2.2.1) = true := by simpa using e2
    have n2 : (x.2.2.1 == y.2.2.1) = false := by simpa using e2
    clear e2
    go_wp2
    go_ret
    exact ⟨by rw [E.out]; rfl, SC1.out.drop⟩
  have p2 : (x.2.2.1 != y.2.2.1) = false := by simpa using e2
  have q2 : (x.2.2.1 == y.2.2.1) = true := by simpa using e2
  have E2 := hid e2; clear e2
  by_cases e3 : x.2.2.2.1 = y.2.2.2.1
  rotate_left
  · have E := hid (decide_eq_false (show ¬ x = y from fun h => e3 (by rw [h])))
    have D := hid (decide_eq_false e3); clear e3
    go_wp2_with fail
    refine (eqIntS_any v1 u1 x.2.2.2.1 y.2.2.2.1 _ (SC1.out.arg h1) (SC1.out.arg g1)).mono ?_
    rintro e w1 ⟨rfl, hs⟩
    rw [D.out]
    have S2 := hid (SC1.out.call hs)
    go_wp2
    go_ret
    exact ⟨by rw [E.out]; rfl, S2.out.drop⟩
  have D3 := hid (decide_eq_true e3); have E3 := hid e3; clear e3
  go_wp2_with fail
  refine (eqIntS_any v1 u1 x.2.2.2.1 y.2.2.2.1 _ (SC1.out.arg h1) (SC1.out.arg g1)).mono ?_
  rintro e w3 ⟨rfl, hs⟩
  rw [D3.out]
  have SC2 := hid (show St w w3 [Ch.blk (w.heap.size + 1) [u0, .int .i64 y.2.1, .int .i64 y.2.2.1, u1, .bool y.2.2.2.2] 48, Ch.blk w.heap.size [v0, .int .i64 x.2.1, .int .i64 x.2.2.1, v1, .bool x.2.2.2.2] 48] from SC1.out.call hs); clear hs
  have ca2 := SC2.out.cell 0 rfl; have cb2 := SC2.out.cell 1 rfl
  by_cases e4 : x.2.2.2.2 = y.2.2.2.2
  rotate_left
  · have E := hid (decide_eq_false (show ¬ x = y from fun h => e4 (by rw [h])))
    have n1 : (x.2.2.2.2 != y.2.2.2.2) = true := by simpa using e4
    have n2 : (x.2.2.2.2 == y.2.2.2.2) = false := by simpa using e4
    clear e4
    go_wp2
    go_ret
    exact ⟨by rw [E.out]; rfl, SC2.out.drop⟩
  have p4 : (x.2.2.2.2 != y.2.2.2.2) = false := by simpa using e4
  have q4 : (x.2.2.2.2 == y.2.2.2.2) = true := by simpa using e4
  have E4 := hid e4; clear e4
  have E := hid (decide_eq_true (show x = y from Prod.ext E0.out (Prod.ext E1.out (Prod.ext E2.out (Prod.ext E3.out (E4.out))))))
  go_wp2
  go_ret
  exact ⟨by rw [E.out]; rfl, SC2.out.drop⟩

def cnPositions (x : DPositions) : Nat := cnIntS x.1 + cnIntS x.2.2.2.1
def mkPositions (k : Int) (x : DPositions) : DPositions := (mkIntS (k) x.1, x.2.1, x.2.2.1, mkIntS (k + ((cnIntS x.1 : Nat) : Int)) x.2.2.2.1, x.2.2.2.2)
def cePositions (x : DPositions) : Nat := cnIntS x.1 + ceInt x.2.1 + ceInt x.2.2.1 + cnIntS x.2.2.2.1 + ceBool x.2.2.2.2
def mePositions (k : Int) (x : DPositions) : DPositions := (mkIntS (k) x.1, meInt (k + ((cnIntS x.1 : Nat) : Int)) x.2.1, meInt (k + ((cnIntS x.1 : Nat) : Int) + ((ceInt x.2.1 : Nat) : Int)) x.2.2.1, mkIntS (k + ((cnIntS x.1 : Nat) : Int) + ((ceInt x.2.1 : Nat) : Int) + ((ceInt x.2.2.1 : Nat) : Int)) x.2.2.2.1, meBool (k + ((cnIntS x.1 : Nat) : Int) + ((ceInt x.2.1 : Nat) : Int) + ((ceInt x.2.2.1 : Nat) : Int) + ((cnIntS x.2.2.2.1 : Nat) : Int)) x.2.2.2.2)

set_option maxHeartbeats 800000 in
theorem markPositions_any (v0 v1 : Value) (x : DPositions) (k0 : Int) (w0 w : World) (r : List Ch) (st : St w0 w (Ch.own rIntS [v0] x.1 :: Ch.own rIntS [v1] x.2.2.2.1 :: r)) (b0 : 0 ≤ k0) (b1 : k0 + (cnPositions x : Nat) ≤ 1099511627776) :
    Calls Try.prog 19 #[.agg #[v0, .int .i64 x.2.1, .int .i64 x.2.2.1, v1, .bool x.2.2.2.2], .int .i64 k0] w fun e w' => e = .returned (.int .i64 (k0 + (cnPositions x : Nat))) ∧ St w0 w' (Ch.own rIntS [v0] ((mkPositions k0 x).1) :: Ch.own rIntS [v1] ((mkPositions k0 x).2.2.2.1) :: r) := by
  have HB := hid (show St w0 (w.alloc (.cells #[v0, .int .i64 x.2.1, .int .i64 x.2.2.1, v1, .bool x.2.2.2.2] 48)) (Ch.blk w.heap.size [v0, .int .i64 x.2.1, .int .i64 x.2.2.1, v1, .bool x.2.2.2.2] 48 :: Ch.own rIntS [v0] x.1 :: Ch.own rIntS [v1] x.2.2.2.1 :: r) from st.alloc _ _)
  clear st
  unfold cnPositions at b1 ⊢
  go_enter Try.func19, Try.ntmps19
  go_wp2_with fail
  refine (markIntS_any v0 x.1 _ _ _ _ (St.mid [Ch.blk w.heap.size [v0, .int .i64 x.2.1, .int .i64 x.2.2.1, v1, .bool x.2.2.2.2] 48] HB.out) (by omega) (by omega)).mono ?_
  rintro e w1 ⟨rfl, t1⟩
  have t1 := St.back [Ch.blk w.heap.size [v0, .int .i64 x.2.1, .int .i64 x.2.2.1, v1, .bool x.2.2.2.2] 48] t1
  have T1 := hid t1; have c1 := t1.cell 0 rfl; clear t1
  go_wp2_with fail
  refine (markIntS_any v1 x.2.2.2.1 _ _ _ _ (St.mid [Ch.blk w.heap.size [v0, .int .i64 x.2.1, .int .i64 x.2.2.1, v1, .bool x.2.2.2.2] 48, Ch.own rIntS [v0] (mkIntS k0 x.1)] T1.out) (by omega) (by omega)).mono ?_
  rintro e w2 ⟨rfl, t2⟩
  have t2 := St.back [Ch.blk w.heap.size [v0, .int .i64 x.2.1, .int .i64 x.2.2.1, v1, .bool x.2.2.2.2] 48, Ch.own rIntS [v0] (mkIntS k0 x.1)] t2
  have T2 := hid t2; have c2 := t2.cell 0 rfl; clear t2
  clear c1
  go_wp2
  go_ret
  exact ⟨ret_int (a := ((k0 + (cnIntS x.1 : Nat)) + (cnIntS x.2.2.2.1 : Nat))) (by omega), St.tail T2.out⟩

theorem cnle_Positions (x : DPositions) : cnPositions x ≤ 8 * szPositions x := by
  have h0 := cnle_IntS x.1
  have h3 := cnle_IntS x.2.2.2.1
  unfold cnPositions szPositions; omega
theorem cele_Positions (x : DPositions) : cePositions x ≤ 8 + 8 * szPositions x := by
  have h_0 := cnle_IntS x.1
  have h_3 := cnle_IntS x.2.2.2.1
  have hh : cePositions x = cnIntS x.1 + 1 + 1 + cnIntS x.2.2.2.1 + 1 := rfl
  unfold szPositions; omega

def szBoolS (x : DBoolS) : Nat := x.length
set_option maxHeartbeats 800000 in
theorem eqBoolS_any (v u : Value) (x y : DBoolS) (w : World) (h : rBoolS.rd w.heap.size w [v] x) (g : rBoolS.rd w.heap.size w [u] y) :
    Calls Try.prog 35 #[v, u] w fun e w' => e = .returned (.bool (decide (x = y))) ∧ St w w' [] := by
  obtain ⟨ao, cap, b, off, hv, hl, hao, hc⟩ := sl_open h
  obtain rfl : v = _ := by simpa using hv
  obtain ⟨ao', cap', b', off', hv', hl', hao', hc'⟩ := sl_open g
  obtain rfl : u = _ := by simpa using hv'
  clear hv h hv' g
  unfold lim at hl hl'
  by_cases hne : x.length = y.length
  · have HN := hid hne
    have hn2 : (((x.length : Nat) : Int) != ((y.length : Nat) : Int)) = false := by simp [hne]
    have HC := hid hc; have HC' := hid hc'
    have HA := hid hao; have HA' := hid hao'
    have h7 : y.length ≤ x.length := by omega
    have h8 : x.length ≤ y.length := by omega
    clear hne hc hc' hao hao'
    go_enter Try.func35, Try.ntmps35
    go_wp2
    go_loopw [5] (fun i wr => ∃ k : Nat, k ≤ x.length ∧ i = .int .i64 k ∧ x.take k = y.take k ∧ St w wr []) (fun i _ => x.length - (intOf i).toNat)
    case atStart => exact ⟨0, Nat.zero_le _, rfl, rfl, St.init w⟩
    case round =>
      obtain ⟨k, hk, rfl, ht, st⟩ := hrel
      have HT := hid ht; clear ht
      have ST := hid st
      by_cases hlt : k < x.length
      · obtain ⟨a, ha⟩ := get_of_lt hlt
        obtain ⟨c, hc⟩ := get_of_lt (show k < y.length by omega)
        obtain ⟨cc, hcl, hcr, hcc⟩ := HC.out k a ha
        obtain ⟨cc', hcl', hcr', hcc'⟩ := HC'.out k c hc
        obtain ⟨rfl, hb⟩ := HA.out (by omega)
        obtain ⟨rfl, hb'⟩ := HA'.out (by omega)
        obtain ⟨hceq, oo0⟩ := hcr
        subst hceq
        have q0 := (st.below.cell (p := ⟨b, off + k, none⟩) hb).trans (by have := hcc 0 _ rfl; simpa [rBool, rSlice, rProd, rFlat] using this)
        obtain ⟨hceq2, pp0⟩ := hcr'
        subst hceq2
        have p0 := (st.below.cell (p := ⟨b', off' + k, none⟩) hb').trans (by have := hcc' 0 _ rfl; simpa [rBool, rSlice, rProd, rFlat] using this)
        have HX := hid ha; have HY := hid hc
        clear ha hc hcc hcc' st
        by_cases hxy : a = c
        · subst hxy
          go_wp2
          go_quiet (fail)
          go_wp2
          go_roundw
          case rel => exact ⟨k + 1, by omega, by go_num, take_snoc_eq HT.out HX.out HY.out, St.drewN (by exact ST.out)⟩
          case measure => simp [intOf]; omega
        · have hne : (a != c) = true := by simpa using hxy
          have hne2 : (a == c) = false := by simpa using hxy
          have E := hid (decide_eq_false (ne_of_get HX.out HY.out hxy)); clear hxy
          go_wp2
          go_quiet (fail)
          go_wp2
          go_ret
          exact ⟨by rw [E.out]; rfl, St.drewN (by exact ST.out)⟩
      · have e : x = y := eq_of_take HT.out (by omega) (by omega)
        have E := hid (decide_eq_true e); clear e st
        go_wp2
        go_ret
        exact ⟨by rw [E.out]; rfl, ST.out⟩
  · have hn2 : (((x.length : Nat) : Int) != ((y.length : Nat) : Int)) = true := by simp; omega
    have E := hid (decide_eq_false (show ¬ x = y from fun e => hne (by rw [e])))
    clear hc hc' hao hao' hne
    go_enter Try.func35, Try.ntmps35
    go_wp2
    go_ret
    exact ⟨by rw [E.out]; rfl, St.init w⟩

def cnBoolS (x : DBoolS) : Nat := sumL ceBool x
def mkBoolS (k : Int) (x : DBoolS) : DBoolS := mkL meBool ceBool k x
def ceBoolS (x : DBoolS) : Nat := cnBoolS x
def meBoolS (k : Int) (x : DBoolS) : DBoolS := mkBoolS k x

set_option maxHeartbeats 1600000 in
theorem markBoolS_any (v : Value) (x : DBoolS) (k0 : Int) (w0 w : World) (r : List Ch) (st : St w0 w (Ch.own rBoolS [v] x :: r)) (b0 : 0 ≤ k0) (b1 : k0 + (cnBoolS x : Nat) ≤ 1099511627776) :
    Calls Try.prog 39 #[v, .int .i64 k0] w fun e w' => e = .returned (.int .i64 (k0 + (cnBoolS x : Nat))) ∧ St w0 w' (Ch.own rBoolS [v] (mkBoolS k0 x) :: r) := by
  have hlim : x.length ≤ 9223372036854775807 := by
    obtain ⟨ao, cap, _, hl, _⟩ := st.rd 0 rfl
    exact hl
  have H0 := hid st
  rcases st.hdr2 with ⟨rfl, rfl⟩ | ⟨g, cap, rfl⟩
  · clear st
    go_enter Try.func39, Try.ntmps39
    go_wp2
    refine wp_loop_rounds 1 ?_
    rw [rounds_succ]
    go_wp2
    go_ret
    exact ⟨by simp [cnBoolS, sumL], H0.out⟩
  · clear st
    go_enter Try.func39, Try.ntmps39
    go_wp2
    go_loopw [1, 5] (fun kk i wr => ∃ k : Nat, k ≤ x.length ∧ i = .int .i64 k ∧ kk = .int .i64 (k0 + (sumL ceBool (x.take k) : Nat)) ∧ St w0 wr (Ch.own (rSlice 4 rBool) [.slice (some ⟨g, 0, none⟩) x.length cap] (mkTo meBool ceBool k0 x k) :: r)) (fun _ i _ => x.length - (intOf i).toNat)
    case atStart => exact ⟨0, Nat.zero_le _, rfl, by simp [sumL], by rw [mkTo_zero]; exact H0.out⟩
    case round =>
      obtain ⟨k, hk, rfl, rfl, st⟩ := hrel
      have ST := hid st
      by_cases hlt : k < x.length
      · obtain ⟨y, hy⟩ := get_of_lt hlt
        have hsum := sumL_take_succ (f := ceBool) hy
        have htot := sumL_take_le (f := ceBool) (xs := x) (k + 1)
        have hb2 : k0 + (sumL ceBool (x.take k) : Nat) + (ceBool y : Nat) ≤ 1099511627776 := by have : cnBoolS x = sumL ceBool x := rfl; omega
        have hb3 : 0 ≤ k0 + (sumL ceBool (x.take k) : Nat) := by omega
        have HS := hid hsum
        have HMS := hid (mkTo_set (mk := meBool) (c := ceBool) (k := k0) hy)
        obtain ⟨c, s1⟩ := st.take (mkTo_get hy)
        clear hy hsum htot st
        generalize hK : k0 + ((sumL ceBool (x.take k) : Nat) : Int) = K at HMS hb2 hb3
        have HK := hid hK; clear hK
        obtain ⟨rfl, ok0, s1⟩ := St.flat_split (h1 := fun _ => rfl) (x := y) [] s1
        have hce : ceBool y = 1 := rfl
        have HCE := hid hce; rw [hce] at hb2; clear hce
        obtain ⟨hh, hf⟩ := St.hole_cell' [] s1
        have x0 := hh 0 _ (k) (by show k * 1 + 0 = _; omega) rfl; have y0 := hf (k)
        clear hh hf
        have HS1 := hid s1; clear s1
        go_wp2
        go_roundw
        case rel =>
          have z1 := (St.hole_set' [] 0 (k) (.bool (K % 3 == 0)) (by show 0 < 1; omega) (by show k * 1 + 0 = _; omega) HS1.out)
          have E1 : K + (ceBool y : Nat) = k0 + (sumL ceBool (x.take (k + 1)) : Nat) := by have := HK.out; have := HS.out; omega
          have z2 := St.give (St.flat_join (enc := Value.bool) (ok := fun _ => True) (h1 := fun _ => rfl) (x := meBool K y) [] trivial z1)
          refine ⟨k + 1, by omega, by go_num, ?_, ?_⟩
          · rw [← E1]; have := HCE.out; exact val_int (by omega)
          · rw [← HMS.out]; exact z2
        case measure => simp [intOf]; omega
      · clear st
        go_wp2
        go_ret
        have e1 : x.take k = x := List.take_of_length_le (by omega)
        have := ST.out
        rw [mkTo_all (by omega)] at this
        exact ⟨by rw [e1]; rfl, this⟩

set_option maxHeartbeats 1600000 in
theorem heldBoolS_any (v : Value) (x : DBoolS) (k0 : Int) (w : World) (h : rBoolS.rd w.heap.size w [v] (mkBoolS k0 x)) (b0 : 0 ≤ k0) (b1 : k0 + (cnBoolS x : Nat) ≤ 1099511627776) :
    Calls Try.prog 41 #[v, .int .i64 k0] w fun e w' => e = .returned (.int .i64 (k0 + (cnBoolS x : Nat))) ∧ St w w' [] := by
  obtain ⟨ao, cap, b, off, hv, hl, hao, hc⟩ := sl_open h
  obtain rfl : v = _ := by simpa using hv
  clear hv h
  have hlen : (mkBoolS k0 x).length = x.length := mkL_length
  rw [hlen] at hl hao ⊢
  unfold lim at hl
  have HC := hid hc; have HA := hid hao
  clear hc hao hlen
  go_enter Try.func41, Try.ntmps41
  go_wp2
  go_loopw [1, 5] (fun kk i wr => ∃ k : Nat, k ≤ x.length ∧ i = .int .i64 k ∧ kk = .int .i64 (k0 + (sumL ceBool (x.take k) : Nat)) ∧ St w wr []) (fun _ i _ => x.length - (intOf i).toNat)
  case atStart => exact ⟨0, Nat.zero_le _, rfl, by simp [sumL], St.init w⟩
  case round =>
    obtain ⟨k, hk, rfl, rfl, st⟩ := hrel
    have ST := hid st
    by_cases hlt : k < x.length
    · obtain ⟨t, ht⟩ := get_of_lt hlt
      have hsum := sumL_take_succ (f := ceBool) ht
      have htot := sumL_take_le (f := ceBool) (xs := x) (k + 1)
      have hb2 : k0 + (sumL ceBool (x.take k) : Nat) + (ceBool t : Nat) ≤ 1099511627776 := by have : cnBoolS x = sumL ceBool x := rfl; omega
      have hb3 : 0 ≤ k0 + (sumL ceBool (x.take k) : Nat) := by omega
      have HS := hid hsum
      obtain ⟨c, hcl, hcr, hcc⟩ := HC.out k _ (mkL_get ht)
      obtain ⟨rfl, hb⟩ := HA.out (by omega)
      clear ht hsum htot
      generalize hK : k0 + ((sumL ceBool (x.take k) : Nat) : Int) = K at hb2 hb3 hcr
      have HK := hid hK; clear hK
      obtain ⟨hceq, oo0⟩ := hcr
      subst hceq
      have q0 := (st.below.cell (p := ⟨b, off + k, none⟩) hb).trans (by have := hcc 0 _ rfl; simpa [rBool, rSlice, rProd, rFlat] using this)
      clear hcc st
      have hce : ceBool t = 1 := rfl
      have HCE := hid hce; rw [hce] at hb2; clear hce
      have x0 : wr.cell? ⟨b, off + k, none⟩ = some (.bool (K % 3 == 0)) := q0
      clear q0
      have X0 := hid x0
      go_wp2
      go_roundw
      case rel =>
        have E1 : K + (ceBool t : Nat) = k0 + (sumL ceBool (x.take (k + 1)) : Nat) := by have := HK.out; have := HS.out; omega
        refine ⟨k + 1, by omega, by go_num, ?_, ST.out⟩
        rw [← E1]; have := HCE.out; exact val_int (by omega)
      case measure => simp [intOf]; omega
    · clear st
      go_wp2
      go_ret
      have e1 : x.take k = x := List.take_of_length_le (by omega)
      exact ⟨by rw [e1]; rfl, ST.out⟩

theorem cnle_BoolS (x : DBoolS) : cnBoolS x ≤ 8 * szBoolS x := by
  have := sumL_le (f := ceBool) (g := fun _ => 0) (by intro a; have : ceBool a = 1 := rfl; omega) x
  have h2 : sumL (fun _ : Bool => 0) x = 0 := sumL_zero x
  have h3 : cnBoolS x = sumL ceBool x := rfl
  have h4 : szBoolS x = x.length := rfl
  unfold szL at this
  omega

def szIntSS (x : DIntSS) : Nat := szL szIntS x
set_option maxHeartbeats 800000 in
theorem eqIntSS_any (v u : Value) (x y : DIntSS) (w : World) (h : rIntSS.rd w.heap.size w [v] x) (g : rIntSS.rd w.heap.size w [u] y) :
    Calls Try.prog 36 #[v, u] w fun e w' => e = .returned (.bool (decide (x = y))) ∧ St w w' [] := by
  obtain ⟨ao, cap, b, off, hv, hl, hao, hc⟩ := sl_open h
  obtain rfl : v = _ := by simpa using hv
  obtain ⟨ao', cap', b', off', hv', hl', hao', hc'⟩ := sl_open g
  obtain rfl : u = _ := by simpa using hv'
  clear hv h hv' g
  unfold lim at hl hl'
  by_cases hne : x.length = y.length
  · have HN := hid hne
    have hn2 : (((x.length : Nat) : Int) != ((y.length : Nat) : Int)) = false := by simp [hne]
    have HC := hid hc; have HC' := hid hc'
    have HA := hid hao; have HA' := hid hao'
    have h7 : y.length ≤ x.length := by omega
    have h8 : x.length ≤ y.length := by omega
    clear hne hc hc' hao hao'
    go_enter Try.func36, Try.ntmps36
    go_wp2
    go_loopw [5] (fun i wr => ∃ k : Nat, k ≤ x.length ∧ i = .int .i64 k ∧ x.take k = y.take k ∧ St w wr []) (fun i _ => x.length - (intOf i).toNat)
    case atStart => exact ⟨0, Nat.zero_le _, rfl, rfl, St.init w⟩
    case round =>
      obtain ⟨k, hk, rfl, ht, st⟩ := hrel
      have HT := hid ht; clear ht
      have ST := hid st
      by_cases hlt : k < x.length
      · obtain ⟨a, ha⟩ := get_of_lt hlt
        obtain ⟨c, hc⟩ := get_of_lt (show k < y.length by omega)
        obtain ⟨cc, hcl, hcr, hcc⟩ := HC.out k a ha
        obtain ⟨cc', hcl', hcr', hcc'⟩ := HC'.out k c hc
        obtain ⟨rfl, hb⟩ := HA.out (by omega)
        obtain ⟨rfl, hb'⟩ := HA'.out (by omega)
        obtain ⟨z0, rfl⟩ := List.length_eq_one_iff.1 hcl
        have rr0 := hcr
        have q0 := (st.below.cell (p := ⟨b, off + k, none⟩) hb).trans (by have := hcc 0 _ rfl; simpa [rIntS, rSlice, rProd, rFlat] using this)
        obtain ⟨y0, rfl⟩ := List.length_eq_one_iff.1 hcl'
        have ss0 := hcr'
        have p0 := (st.below.cell (p := ⟨b', off' + k, none⟩) hb').trans (by have := hcc' 0 _ rfl; simpa [rIntS, rSlice, rProd, rFlat] using this)
        have HX := hid ha; have HY := hid hc
        clear ha hc hcc hcc' st
        by_cases hxy : a = c
        · have E := hid (decide_eq_true hxy)
          have HY2 := hid (show y[k]? = some a by rw [hxy]; exact HY.out)
          clear hxy
          go_wp2
          go_region_with (go_at_call 37; refine (eqIntS_any z0 y0 a c _ (ST.out.drew.arg rr0) (ST.out.drew.arg ss0)).mono ?_; rintro e w1 ⟨rfl, hs1⟩; rw [E.out])
          all_goals
            go_wp2
            go_roundw
            case rel => exact ⟨k + 1, by omega, by go_num, take_snoc_eq HT.out HX.out HY2.out, (ST.out.drew.call (by assumption))⟩
            case measure => simp [intOf]; omega
        · have E := hid (decide_eq_false hxy)
          have E2 := hid (decide_eq_false (ne_of_get HX.out HY.out hxy)); clear hxy
          go_wp2
          go_region_with (go_at_call 37; refine (eqIntS_any z0 y0 a c _ (ST.out.drew.arg rr0) (ST.out.drew.arg ss0)).mono ?_; rintro e w1 ⟨rfl, hs1⟩; rw [E.out])
          all_goals
            go_wp2
            go_ret
            exact ⟨by rw [E2.out]; rfl, (ST.out.drew.call (by assumption))⟩
      · have e : x = y := eq_of_take HT.out (by omega) (by omega)
        have E := hid (decide_eq_true e); clear e st
        go_wp2
        go_ret
        exact ⟨by rw [E.out]; rfl, ST.out⟩
  · have hn2 : (((x.length : Nat) : Int) != ((y.length : Nat) : Int)) = true := by simp; omega
    have E := hid (decide_eq_false (show ¬ x = y from fun e => hne (by rw [e])))
    clear hc hc' hao hao' hne
    go_enter Try.func36, Try.ntmps36
    go_wp2
    go_ret
    exact ⟨by rw [E.out]; rfl, St.init w⟩

def cnIntSS (x : DIntSS) : Nat := sumL ceIntS x
def mkIntSS (k : Int) (x : DIntSS) : DIntSS := mkL meIntS ceIntS k x
def ceIntSS (x : DIntSS) : Nat := cnIntSS x
def meIntSS (k : Int) (x : DIntSS) : DIntSS := mkIntSS k x

set_option maxHeartbeats 1600000 in
theorem markIntSS_any (v : Value) (x : DIntSS) (k0 : Int) (w0 w : World) (r : List Ch) (st : St w0 w (Ch.own rIntSS [v] x :: r)) (b0 : 0 ≤ k0) (b1 : k0 + (cnIntSS x : Nat) ≤ 1099511627776) :
    Calls Try.prog 40 #[v, .int .i64 k0] w fun e w' => e = .returned (.int .i64 (k0 + (cnIntSS x : Nat))) ∧ St w0 w' (Ch.own rIntSS [v] (mkIntSS k0 x) :: r) := by
  have hlim : x.length ≤ 9223372036854775807 := by
    obtain ⟨ao, cap, _, hl, _⟩ := st.rd 0 rfl
    exact hl
  have H0 := hid st
  rcases st.hdr2 with ⟨rfl, rfl⟩ | ⟨g, cap, rfl⟩
  · clear st
    go_enter Try.func40, Try.ntmps40
    go_wp2
    refine wp_loop_rounds 1 ?_
    rw [rounds_succ]
    go_wp2
    go_ret
    exact ⟨by simp [cnIntSS, sumL], H0.out⟩
  · clear st
    go_enter Try.func40, Try.ntmps40
    go_wp2
    go_loopw [1, 5] (fun kk i wr => ∃ k : Nat, k ≤ x.length ∧ i = .int .i64 k ∧ kk = .int .i64 (k0 + (sumL ceIntS (x.take k) : Nat)) ∧ St w0 wr (Ch.own (rSlice 38 rIntS) [.slice (some ⟨g, 0, none⟩) x.length cap] (mkTo meIntS ceIntS k0 x k) :: r)) (fun _ i _ => x.length - (intOf i).toNat)
    case atStart => exact ⟨0, Nat.zero_le _, rfl, by simp [sumL], by rw [mkTo_zero]; exact H0.out⟩
    case round =>
      obtain ⟨k, hk, rfl, rfl, st⟩ := hrel
      have ST := hid st
      by_cases hlt : k < x.length
      · obtain ⟨y, hy⟩ := get_of_lt hlt
        have hsum := sumL_take_succ (f := ceIntS) hy
        have htot := sumL_take_le (f := ceIntS) (xs := x) (k + 1)
        have hb2 : k0 + (sumL ceIntS (x.take k) : Nat) + (ceIntS y : Nat) ≤ 1099511627776 := by have : cnIntSS x = sumL ceIntS x := rfl; omega
        have hb3 : 0 ≤ k0 + (sumL ceIntS (x.take k) : Nat) := by omega
        have HS := hid hsum
        have HMS := hid (mkTo_set (mk := meIntS) (c := ceIntS) (k := k0) hy)
        obtain ⟨c, s1⟩ := st.take (mkTo_get hy)
        clear hy hsum htot st
        generalize hK : k0 + ((sumL ceIntS (x.take k) : Nat) : Int) = K at HMS hb2 hb3
        have HK := hid hK; clear hK
        obtain ⟨u0, rfl⟩ := St.one (R := rIntS) (x := y) [] s1 rfl
        have hce : ceIntS y = cnIntS y := rfl
        have HCE := hid hce; rw [hce] at hb2; clear hce
        obtain ⟨hh, hf⟩ := St.hole_cell' [Ch.own rIntS [u0] y] s1
        have x0 := hh 0 _ (k) (by show k * 1 + 0 = _; omega) rfl; have y0 := hf (k)
        clear hh hf
        have HS1 := hid s1; clear s1
        go_wp2_with fail
        have q1 := HS1.out
        refine (markIntS_any u0 y _ _ _ _ (St.mid [] q1) (by omega) (by omega)).mono ?_
        rintro e w1 ⟨rfl, t1⟩
        have t1 := St.back [] t1
        obtain ⟨hh, hf⟩ := St.hole_cell' [Ch.own rIntS [u0] (mkIntS K y)] t1
        have x0 := hh 0 _ (k) (by show k * 1 + 0 = _; omega) rfl; have y0 := hf (k)
        clear hh hf
        have T1 := hid t1; clear t1 q1
        go_wp2
        go_roundw
        case rel =>
          have z1 := T1.out
          have E1 : K + (ceIntS y : Nat) = k0 + (sumL ceIntS (x.take (k + 1)) : Nat) := by have := HK.out; have := HS.out; omega
          have z2 := St.give z1
          refine ⟨k + 1, by omega, by go_num, ?_, ?_⟩
          · rw [← E1]; have := HCE.out; exact val_int (by omega)
          · rw [← HMS.out]; exact z2
        case measure => simp [intOf]; omega
      · clear st
        go_wp2
        go_ret
        have e1 : x.take k = x := List.take_of_length_le (by omega)
        have := ST.out
        rw [mkTo_all (by omega)] at this
        exact ⟨by rw [e1]; rfl, this⟩

set_option maxHeartbeats 1600000 in
theorem heldIntSS_any (v : Value) (x : DIntSS) (k0 : Int) (w : World) (h : rIntSS.rd w.heap.size w [v] (mkIntSS k0 x)) (b0 : 0 ≤ k0) (b1 : k0 + (cnIntSS x : Nat) ≤ 1099511627776) :
    Calls Try.prog 42 #[v, .int .i64 k0] w fun e w' => e = .returned (.int .i64 (k0 + (cnIntSS x : Nat))) ∧ St w w' [] := by
  obtain ⟨ao, cap, b, off, hv, hl, hao, hc⟩ := sl_open h
  obtain rfl : v = _ := by simpa using hv
  clear hv h
  have hlen : (mkIntSS k0 x).length = x.length := mkL_length
  rw [hlen] at hl hao ⊢
  unfold lim at hl
  have HC := hid hc; have HA := hid hao
  clear hc hao hlen
  go_enter Try.func42, Try.ntmps42
  go_wp2
  go_loopw [1, 5] (fun kk i wr => ∃ k : Nat, k ≤ x.length ∧ i = .int .i64 k ∧ kk = .int .i64 (k0 + (sumL ceIntS (x.take k) : Nat)) ∧ St w wr []) (fun _ i _ => x.length - (intOf i).toNat)
  case atStart => exact ⟨0, Nat.zero_le _, rfl, by simp [sumL], St.init w⟩
  case round =>
    obtain ⟨k, hk, rfl, rfl, st⟩ := hrel
    have ST := hid st
    by_cases hlt : k < x.length
    · obtain ⟨t, ht⟩ := get_of_lt hlt
      have hsum := sumL_take_succ (f := ceIntS) ht
      have htot := sumL_take_le (f := ceIntS) (xs := x) (k + 1)
      have hb2 : k0 + (sumL ceIntS (x.take k) : Nat) + (ceIntS t : Nat) ≤ 1099511627776 := by have : cnIntSS x = sumL ceIntS x := rfl; omega
      have hb3 : 0 ≤ k0 + (sumL ceIntS (x.take k) : Nat) := by omega
      have HS := hid hsum
      obtain ⟨c, hcl, hcr, hcc⟩ := HC.out k _ (mkL_get ht)
      obtain ⟨rfl, hb⟩ := HA.out (by omega)
      clear ht hsum htot
      generalize hK : k0 + ((sumL ceIntS (x.take k) : Nat) : Int) = K at hb2 hb3 hcr
      have HK := hid hK; clear hK
      obtain ⟨z0, rfl⟩ := List.length_eq_one_iff.1 hcl
      have rr0 := hcr
      have q0 := (st.below.cell (p := ⟨b, off + k, none⟩) hb).trans (by have := hcc 0 _ rfl; simpa [rIntS, rSlice, rProd, rFlat] using this)
      clear hcc st
      have hce : ceIntS t = cnIntS t := rfl
      have HCE := hid hce; rw [hce] at hb2; clear hce
      have x0 : wr.cell? ⟨b, off + k, none⟩ = some (z0) := q0
      clear q0
      have X0 := hid x0
      go_wp2_with fail
      refine (heldIntS_any z0 t K _ (ST.out.arg rr0) (by omega) (by omega)).mono ?_
      rintro e w1 ⟨rfl, hs⟩
      have S1 := hid (show St w w1 [] from ST.out.call hs); clear hs
      clear x0
      have x0 : w1.cell? ⟨b, off + k, none⟩ = some (z0) := (S1.out.below.cell (p := ⟨b, off + k, none⟩) hb).trans ((ST.out.below.cell (p := ⟨b, off + k, none⟩) hb).symm.trans X0.out)
      go_wp2
      go_roundw
      case rel =>
        have E1 : K + (ceIntS t : Nat) = k0 + (sumL ceIntS (x.take (k + 1)) : Nat) := by have := HK.out; have := HS.out; omega
        refine ⟨k + 1, by omega, by go_num, ?_, S1.out⟩
        rw [← E1]; have := HCE.out; exact val_int (by omega)
      case measure => simp [intOf]; omega
    · clear st
      go_wp2
      go_ret
      have e1 : x.take k = x := List.take_of_length_le (by omega)
      exact ⟨by rw [e1]; rfl, ST.out⟩

theorem cnle_IntSS (x : DIntSS) : cnIntSS x ≤ 8 * szIntSS x := by
  have := sumL_le (f := ceIntS) (g := szIntS) (by intro a; have h1 := cnle_IntS a; have : ceIntS a = cnIntS a := rfl; omega) x
  exact this

def szAutomaton (x : DAutomaton) : Nat := szBoolS x.2.1 + szIntSS x.2.2
set_option maxHeartbeats 800000 in
theorem eqAutomaton_any (v0 v1 : Value) (u0 u1 : Value) (x y : DAutomaton) (w : World) (h0 : rBoolS.rd w.heap.size w [v0] x.2.1) (h1 : rIntSS.rd w.heap.size w [v1] x.2.2) (g0 : rBoolS.rd w.heap.size w [u0] y.2.1) (g1 : rIntSS.rd w.heap.size w [u1] y.2.2) :
    Calls Try.prog 17 #[.agg #[.int .i64 x.1, v0, v1], .agg #[.int .i64 y.1, u0, u1]] w fun e w' => e = .returned (.bool (decide (x = y))) ∧ St w w' [] := by
  have ST := hid (show St w ((w.alloc (.cells #[.int .i64 x.1, v0, v1] 45)).alloc (.cells #[.int .i64 y.1, u0, u1] 45)) [Ch.blk (w.heap.size + 1) [.int .i64 y.1, u0, u1] 45, Ch.blk w.heap.size [.int .i64 x.1, v0, v1] 45] from (St.init w).alloc2 _ _ _ _)
  go_enter Try.func17, Try.ntmps17
  by_cases e0 : x.1 = y.1
  rotate_left
  · have E := hid (decide_eq_false (show ¬ x = y from fun h => e0 (by rw [h])))
    have n1 : (x.1 != y.1) = true := by simpa using e0
    have n2 : (x.1 == y.1) = false := by simpa using e0
    clear e0
    go_wp2
    go_ret
    exact ⟨by rw [E.out]; rfl, ST.out.drop⟩
  have p0 : (x.1 != y.1) = false := by simpa using e0
  have q0 : (x.1 == y.1) = true := by simpa using e0
  have E0 := hid e0; clear e0
  by_cases e1 : x.2.1 = y.2.1
  rotate_left
  · have E := hid (decide_eq_false (show ¬ x = y from fun h => e1 (by rw [h])))
    have D := hid (decide_eq_false e1); clear e1
    go_wp2_with fail
    refine (eqBoolS_any v0 u0 x.2.1 y.2.1 _ (ST.out.arg h0) (ST.out.arg g0)).mono ?_
    rintro e w1 ⟨rfl, hs⟩
    rw [D.out]
    have S2 := hid (ST.out.call hs)
    go_wp2
    go_ret
    exact ⟨by rw [E.out]; rfl, S2.out.drop⟩
  have D1 := hid (decide_eq_true e1); have E1 := hid e1; clear e1
  go_wp2_with fail
  refine (eqBoolS_any v0 u0 x.2.1 y.2.1 _ (ST.out.arg h0) (ST.out.arg g0)).mono ?_
  rintro e w2 ⟨rfl, hs⟩
  rw [D1.out]
  have SC1 := hid (show St w w2 [Ch.blk (w.heap.size + 1) [.int .i64 y.1, u0, u1] 45, Ch.blk w.heap.size [.int .i64 x.1, v0, v1] 45] from ST.out.call hs); clear hs
  have ca1 := SC1.out.cell 0 rfl; have cb1 := SC1.out.cell 1 rfl
  by_cases e2 : x.2.2 = y.2.2
  rotate_left
  · have E := hid (decide_eq_false (show ¬ x = y from fun h => e2 (by rw [h])))
    have D := hid (decide_eq_false e2); clear e2
    go_wp2_with fail
    refine (eqIntSS_any v1 u1 x.2.2 y.2.2 _ (SC1.out.arg h1) (SC1.out.arg g1)).mono ?_
    rintro e w1 ⟨rfl, hs⟩
    rw [D.out]
    have S2 := hid (SC1.out.call hs)
    go_wp2
    go_ret
    exact ⟨by rw [E.out]; rfl, S2.out.drop⟩
  have D2 := hid (decide_eq_true e2); have E2 := hid e2; clear e2
  go_wp2_with fail
  refine (eqIntSS_any v1 u1 x.2.2 y.2.2 _ (SC1.out.arg h1) (SC1.out.arg g1)).mono ?_
  rintro e w3 ⟨rfl, hs⟩
  rw [D2.out]
  have SC2 := hid (show St w w3 [Ch.blk (w.heap.size + 1) [.int .i64 y.1, u0, u1] 45, Ch.blk w.heap.size [.int .i64 x.1, v0, v1] 45] from SC1.out.call hs); clear hs
  have ca2 := SC2.out.cell 0 rfl; have cb2 := SC2.out.cell 1 rfl
  have E := hid (decide_eq_true (show x = y from Prod.ext E0.out (Prod.ext E1.out (E2.out))))
  go_wp2
  go_ret
  exact ⟨by rw [E.out]; rfl, SC2.out.drop⟩

def cnAutomaton (x : DAutomaton) : Nat := cnBoolS x.2.1 + cnIntSS x.2.2
def mkAutomaton (k : Int) (x : DAutomaton) : DAutomaton := (x.1, mkBoolS (k) x.2.1, mkIntSS (k + ((cnBoolS x.2.1 : Nat) : Int)) x.2.2)
def ceAutomaton (x : DAutomaton) : Nat := ceInt x.1 + cnBoolS x.2.1 + cnIntSS x.2.2
def meAutomaton (k : Int) (x : DAutomaton) : DAutomaton := (meInt (k) x.1, mkBoolS (k + ((ceInt x.1 : Nat) : Int)) x.2.1, mkIntSS (k + ((ceInt x.1 : Nat) : Int) + ((cnBoolS x.2.1 : Nat) : Int)) x.2.2)

set_option maxHeartbeats 800000 in
theorem markAutomaton_any (v0 v1 : Value) (x : DAutomaton) (k0 : Int) (w0 w : World) (r : List Ch) (st : St w0 w (Ch.own rBoolS [v0] x.2.1 :: Ch.own rIntSS [v1] x.2.2 :: r)) (b0 : 0 ≤ k0) (b1 : k0 + (cnAutomaton x : Nat) ≤ 1099511627776) :
    Calls Try.prog 20 #[.agg #[.int .i64 x.1, v0, v1], .int .i64 k0] w fun e w' => e = .returned (.int .i64 (k0 + (cnAutomaton x : Nat))) ∧ St w0 w' (Ch.own rBoolS [v0] ((mkAutomaton k0 x).2.1) :: Ch.own rIntSS [v1] ((mkAutomaton k0 x).2.2) :: r) := by
  have HB := hid (show St w0 (w.alloc (.cells #[.int .i64 x.1, v0, v1] 45)) (Ch.blk w.heap.size [.int .i64 x.1, v0, v1] 45 :: Ch.own rBoolS [v0] x.2.1 :: Ch.own rIntSS [v1] x.2.2 :: r) from st.alloc _ _)
  clear st
  unfold cnAutomaton at b1 ⊢
  go_enter Try.func20, Try.ntmps20
  go_wp2_with fail
  refine (markBoolS_any v0 x.2.1 _ _ _ _ (St.mid [Ch.blk w.heap.size [.int .i64 x.1, v0, v1] 45] HB.out) (by omega) (by omega)).mono ?_
  rintro e w1 ⟨rfl, t1⟩
  have t1 := St.back [Ch.blk w.heap.size [.int .i64 x.1, v0, v1] 45] t1
  have T1 := hid t1; have c1 := t1.cell 0 rfl; clear t1
  go_wp2_with fail
  refine (markIntSS_any v1 x.2.2 _ _ _ _ (St.mid [Ch.blk w.heap.size [.int .i64 x.1, v0, v1] 45, Ch.own rBoolS [v0] (mkBoolS k0 x.2.1)] T1.out) (by omega) (by omega)).mono ?_
  rintro e w2 ⟨rfl, t2⟩
  have t2 := St.back [Ch.blk w.heap.size [.int .i64 x.1, v0, v1] 45, Ch.own rBoolS [v0] (mkBoolS k0 x.2.1)] t2
  have T2 := hid t2; have c2 := t2.cell 0 rfl; clear t2
  clear c1
  go_wp2
  go_ret
  exact ⟨ret_int (a := ((k0 + (cnBoolS x.2.1 : Nat)) + (cnIntSS x.2.2 : Nat))) (by omega), St.tail T2.out⟩

set_option maxHeartbeats 800000 in
theorem heldAutomaton_any (v0 v1 : Value) (x : DAutomaton) (k0 : Int) (w : World) (h0 : rBoolS.rd w.heap.size w [v0] ((mkAutomaton k0 x).2.1)) (h1 : rIntSS.rd w.heap.size w [v1] ((mkAutomaton k0 x).2.2)) (b0 : 0 ≤ k0) (b1 : k0 + (cnAutomaton x : Nat) ≤ 1099511627776) :
    Calls Try.prog 21 #[.agg #[.int .i64 x.1, v0, v1], .int .i64 k0] w fun e w' => e = .returned (.int .i64 (k0 + (cnAutomaton x : Nat))) ∧ St w w' [] := by
  have HB := hid (show St w (w.alloc (.cells #[.int .i64 x.1, v0, v1] 45)) [Ch.blk w.heap.size [.int .i64 x.1, v0, v1] 45] from (St.init w).alloc _ _)
  unfold cnAutomaton at b1 ⊢
  go_enter Try.func21, Try.ntmps21
  go_wp2_with fail
  refine (heldBoolS_any v0 x.2.1 k0 _ (HB.out.arg h0) (by omega) (by omega)).mono ?_
  rintro e w1 ⟨rfl, hs⟩
  have S1 := hid (show St w w1 [Ch.blk w.heap.size [.int .i64 x.1, v0, v1] 45] from HB.out.call hs); clear hs
  have c1 := S1.out.cell 0 rfl
  go_wp2_with fail
  refine (heldIntSS_any v1 x.2.2 (k0 + (cnBoolS x.2.1 : Nat)) _ (S1.out.arg h1) (by omega) (by omega)).mono ?_
  rintro e w2 ⟨rfl, hs⟩
  have S2 := hid (show St w w2 [Ch.blk w.heap.size [.int .i64 x.1, v0, v1] 45] from S1.out.call hs); clear hs
  have c2 := S2.out.cell 0 rfl
  clear c1
  go_wp2
  go_ret
  exact ⟨ret_int (a := ((k0 + (cnBoolS x.2.1 : Nat)) + (cnIntSS x.2.2 : Nat))) (by omega), S2.out.drop⟩

theorem cnle_Automaton (x : DAutomaton) : cnAutomaton x ≤ 8 * szAutomaton x := by
  have h1 := cnle_BoolS x.2.1
  have h2 := cnle_IntSS x.2.2
  unfold cnAutomaton szAutomaton; omega
theorem cele_Automaton (x : DAutomaton) : ceAutomaton x ≤ 8 + 8 * szAutomaton x := by
  have h_1 := cnle_BoolS x.2.1
  have h_2 := cnle_IntSS x.2.2
  have hh : ceAutomaton x = 1 + cnBoolS x.2.1 + cnIntSS x.2.2 := rfl
  unfold szAutomaton; omega

end Go.Proofs.Ytokiommgielfjaa
