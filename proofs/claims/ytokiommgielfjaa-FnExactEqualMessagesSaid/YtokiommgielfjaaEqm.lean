/- EqualMessages and what it calls, in both packages: equality of the data (written by a program of ours, geneqm.py). -/
import Derived.Test.YtokiommgielfjaaK
set_option linter.unusedVariables false
set_option linter.unusedSimpArgs false
namespace Go.Proofs.Ytokiommgielfjaa
open Go.RowKit

def dEqualMessages (x y : DMessage) : Bool := decide (x = y)
set_option maxHeartbeats 1600000 in
theorem sEqualPairs_any (v u : Value) (x y : DPairS) (w : World) (h : rPairS.rd w.heap.size w [v] x) (g : rPairS.rd w.heap.size w [u] y) :
    Calls Try.prog 44 #[v, u] w fun e w' => e = .returned (.bool (decide (x = y))) ∧ St w w' [] := by
  obtain ⟨ao, cap, b, off, hv, hl, hao, hc⟩ := sl_open h
  obtain rfl : v = _ := by simpa using hv
  obtain ⟨ao', cap', b', off', hv', hl', hao', hc'⟩ := sl_open g
  obtain rfl : u = _ := by simpa using hv'
  clear hv h hv' g
  unfold lim at hl hl'
  by_cases hne : x.length = y.length
  · have HN := hid hne
    have hn2 : (((x.length : Nat) : Int) != ((y.length : Nat) : Int)) = false := by simp [hne]
    have HC := hid hc; have HC' := hid hc'
    have HA := hid hao; have HA' := hid hao'
    have h7 : y.length ≤ x.length := by omega
    have h8 : x.length ≤ y.length := by omega
    clear hne hc hc' hao hao'
    go_enter Try.func44, Try.ntmps44
    go_wp2
    go_loopw [5] (fun i wr => ∃ k : Nat, k ≤ x.length ∧ i = .int .i64 k ∧ x.take k = y.take k ∧ St w wr []) (fun i _ => x.length - (intOf i).toNat)
    case atStart => exact ⟨0, Nat.zero_le _, rfl, rfl, St.init w⟩
    case round =>
      obtain ⟨k, hk, rfl, ht, st⟩ := hrel
      have HT := hid ht; clear ht
      have ST := hid st
      by_cases hlt : k < x.length
      · obtain ⟨⟨a0, a1⟩, ha⟩ := get_of_lt hlt
        obtain ⟨⟨d0, d1⟩, hc⟩ := get_of_lt (show k < y.length by omega)
        obtain ⟨cc, hcl, hcr, hcc⟩ := HC.out k _ ha
        obtain ⟨cc', hcl', hcr', hcc'⟩ := HC'.out k _ hc
        obtain ⟨rfl, hb⟩ := HA.out (by omega)
        obtain ⟨rfl, hb'⟩ := HA'.out (by omega)
        obtain ⟨hceq, oo0, oo1⟩ := open_Pair hcr
        subst hceq
        have q0 := (st.below.cell (p := ⟨b, off + k * 2, none⟩) hb).trans (by have := hcc 0 _ rfl; simpa [rInt, rPair, rSlice, rProd, rFlat] using this)
        have q1 := (st.below.cell (p := ⟨b, off + k * 2 + 1, none⟩) hb).trans (by have := hcc 1 _ rfl; simpa [rInt, rPair, rSlice, rProd, rFlat] using this)
        obtain ⟨hceq2, pp0, pp1⟩ := open_Pair hcr'
        subst hceq2
        have p0 := (st.below.cell (p := ⟨b', off' + k * 2, none⟩) hb').trans (by have := hcc' 0 _ rfl; simpa [rInt, rPair, rSlice, rProd, rFlat] using this)
        have p1 := (st.below.cell (p := ⟨b', off' + k * 2 + 1, none⟩) hb').trans (by have := hcc' 1 _ rfl; simpa [rInt, rPair, rSlice, rProd, rFlat] using this)
        have HX := hid ha; have HY := hid hc
        clear ha hc hcc hcc' st hcr hcr' hcl hcl'
        try simp only at q0 q1 p0 p1
        by_cases hxy : a0 = d0 ∧ a1 = d1
        · obtain ⟨rfl, rfl⟩ := hxy
          go_wp2
          go_quiet (fail)
          all_goals
            go_wp2
            go_roundw
            case rel => exact ⟨k + 1, by omega, by go_num, take_snoc_eq HT.out HX.out HY.out, ST.out.drewN⟩
            case measure => simp [intOf]; omega
        · have E := hid (decide_eq_false (ne_of_get HX.out HY.out (fun e => hxy (by simpa using e))))
          by_cases hq : a0 = d0
          · subst hq
            have hr : (a1 == d1) = false := by simp; intro e; exact hxy ⟨rfl, e⟩
            have hr2 : (a1 != d1) = true := by simp; intro e; exact hxy ⟨rfl, e⟩
            clear hxy
            go_wp2
            go_quiet (fail)
            all_goals
              go_wp2
              go_ret
              exact ⟨by rw [E.out]; rfl, ST.out.drewN⟩
          · have hr : (a0 == d0) = false := by simp [hq]
            have hr2 : (a0 != d0) = true := by simp [hq]
            clear hxy
            go_wp2
            go_quiet (fail)
            all_goals
              go_wp2
              go_ret
              exact ⟨by rw [E.out]; rfl, ST.out.drewN⟩
      · obtain rfl : k = x.length := by omega
        have E := hid (decide_eq_true (eq_of_take HT.out (by omega) (by omega)))
        go_wp2
        go_ret
        exact ⟨by rw [E.out]; rfl, ST.out⟩
  · have E := hid (decide_eq_false (show ¬ x = y from fun h => hne (by rw [h])))
    have hn2 : (((x.length : Nat) : Int) != ((y.length : Nat) : Int)) = true := by simp; omega
    go_enter Try.func44, Try.ntmps44
    go_wp2
    go_ret
    exact ⟨by rw [E.out]; rfl, St.init w⟩

set_option maxHeartbeats 1600000 in
theorem stdEqualPairs_any (v u : Value) (x y : DPairS) (w : World) (h : rPairS.rd w.heap.size w [v] x) (g : rPairS.rd w.heap.size w [u] y) :
    Calls Try.prog 60 #[v, u] w fun e w' => e = .returned (.bool (decide (x = y))) ∧ St w w' [] := by
  obtain ⟨ao, cap, b, off, hv, hl, hao, hc⟩ := sl_open h
  obtain rfl : v = _ := by simpa using hv
  obtain ⟨ao', cap', b', off', hv', hl', hao', hc'⟩ := sl_open g
  obtain rfl : u = _ := by simpa using hv'
  clear hv h hv' g
  unfold lim at hl hl'
  by_cases hne : x.length = y.length
  · have HN := hid hne
    have hn2 : (((x.length : Nat) : Int) != ((y.length : Nat) : Int)) = false := by simp [hne]
    have HC := hid hc; have HC' := hid hc'
    have HA := hid hao; have HA' := hid hao'
    have h7 : y.length ≤ x.length := by omega
    have h8 : x.length ≤ y.length := by omega
    clear hne hc hc' hao hao'
    go_enter Try.func60, Try.ntmps60
    go_wp2
    go_loopw [13] (fun i wr => ∃ k : Nat, k ≤ x.length ∧ i = .int .i64 k ∧ x.take k = y.take k ∧ St w wr []) (fun i _ => x.length - (intOf i).toNat)
    case atStart => exact ⟨0, Nat.zero_le _, rfl, rfl, St.init w⟩
    case round =>
      obtain ⟨k, hk, rfl, ht, st⟩ := hrel
      have HT := hid ht; clear ht
      have ST := hid st
      by_cases hlt : k < x.length
      · obtain ⟨⟨a0, a1⟩, ha⟩ := get_of_lt hlt
        obtain ⟨⟨d0, d1⟩, hc⟩ := get_of_lt (show k < y.length by omega)
        obtain ⟨cc, hcl, hcr, hcc⟩ := HC.out k _ ha
        obtain ⟨cc', hcl', hcr', hcc'⟩ := HC'.out k _ hc
        obtain ⟨rfl, hb⟩ := HA.out (by omega)
        obtain ⟨rfl, hb'⟩ := HA'.out (by omega)
        obtain ⟨hceq, oo0, oo1⟩ := open_Pair hcr
        subst hceq
        have q0 := (st.below.cell (p := ⟨b, off + k * 2, none⟩) hb).trans (by have := hcc 0 _ rfl; simpa [rInt, rPair, rSlice, rProd, rFlat] using this)
        have q1 := (st.below.cell (p := ⟨b, off + k * 2 + 1, none⟩) hb).trans (by have := hcc 1 _ rfl; simpa [rInt, rPair, rSlice, rProd, rFlat] using this)
        obtain ⟨hceq2, pp0, pp1⟩ := open_Pair hcr'
        subst hceq2
        have p0 := (st.below.cell (p := ⟨b', off' + k * 2, none⟩) hb').trans (by have := hcc' 0 _ rfl; simpa [rInt, rPair, rSlice, rProd, rFlat] using this)
        have p1 := (st.below.cell (p := ⟨b', off' + k * 2 + 1, none⟩) hb').trans (by have := hcc' 1 _ rfl; simpa [rInt, rPair, rSlice, rProd, rFlat] using this)
        have HX := hid ha; have HY := hid hc
        clear ha hc hcc hcc' st hcr hcr' hcl hcl'
        try simp only at q0 q1 p0 p1
        by_cases hxy : a0 = d0 ∧ a1 = d1
        · obtain ⟨rfl, rfl⟩ := hxy
          go_wp2
          go_quiet (fail)
          all_goals
            go_wp2
            go_roundw
            case rel => exact ⟨k + 1, by omega, by go_num, take_snoc_eq HT.out HX.out HY.out, ST.out.drewN⟩
            case measure => simp [intOf]; omega
        · have E := hid (decide_eq_false (ne_of_get HX.out HY.out (fun e => hxy (by simpa using e))))
          by_cases hq : a0 = d0
          · subst hq
            have hr : (a1 == d1) = false := by simp; intro e; exact hxy ⟨rfl, e⟩
            have hr2 : (a1 != d1) = true := by simp; intro e; exact hxy ⟨rfl, e⟩
            clear hxy
            go_wp2
            go_quiet (fail)
            all_goals
              go_wp2
              go_ret
              exact ⟨by rw [E.out]; rfl, ST.out.drewN⟩
          · have hr : (a0 == d0) = false := by simp [hq]
            have hr2 : (a0 != d0) = true := by simp [hq]
            clear hxy
            go_wp2
            go_quiet (fail)
            all_goals
              go_wp2
              go_ret
              exact ⟨by rw [E.out]; rfl, ST.out.drewN⟩
      · obtain rfl : k = x.length := by omega
        have E := hid (decide_eq_true (eq_of_take HT.out (by omega) (by omega)))
        go_wp2
        go_ret
        exact ⟨by rw [E.out]; rfl, ST.out⟩
  · have E := hid (decide_eq_false (show ¬ x = y from fun h => hne (by rw [h])))
    have hn2 : (((x.length : Nat) : Int) != ((y.length : Nat) : Int)) = true := by simp; omega
    go_enter Try.func60, Try.ntmps60
    go_wp2
    go_ret
    exact ⟨by rw [E.out]; rfl, St.init w⟩

theorem iEqualPairs_any (v u : Value) (x y : DPairS) (w : World) (h : rPairS.rd w.heap.size w [v] x) (g : rPairS.rd w.heap.size w [u] y) :
    Calls Try.prog 46 #[v, u] w fun e w' => e = .returned (.bool (decide (x = y))) ∧ St w w' [] := by
  go_enter Try.func46, Try.ntmps46
  go_wp2_with fail
  refine (stdEqualPairs_any v u x y _ h g).mono ?_
  rintro e w1 ⟨rfl, hs⟩
  have S1 := hid hs; clear hs
  go_wp2
  go_ret
  exact ⟨rfl, S1.out⟩

set_option maxHeartbeats 800000 in
theorem sEqualDeltas_any (v0 v1 u0 u1 : Value) (x y : DDelta) (w : World) (h0 : rPairS.rd w.heap.size w [v0] x.1) (h1 : rPairS.rd w.heap.size w [v1] x.2) (g0 : rPairS.rd w.heap.size w [u0] y.1) (g1 : rPairS.rd w.heap.size w [u1] y.2) :
    Calls Try.prog 25 #[.agg #[v0, v1], .agg #[u0, u1]] w fun e w' => e = .returned (.bool (decide (x = y))) ∧ St w w' [] := by
  have ST := hid (show St w ((w.alloc (.cells #[v0, v1] 33)).alloc (.cells #[u0, u1] 33)) [Ch.blk (w.heap.size + 1) [u0, u1] 33, Ch.blk w.heap.size [v0, v1] 33] from (St.init w).alloc2 _ _ _ _)
  by_cases e0 : x.1 = y.1
  rotate_left
  · have E := hid (decide_eq_false (show ¬ x = y from fun h => e0 (by rw [h])))
    have D := hid (decide_eq_false e0); clear e0
    go_enter Try.func25, Try.ntmps25
    go_wp2_with fail
    refine (sEqualPairs_any v0 u0 x.1 y.1 _ (ST.out.arg h0) (ST.out.arg g0)).mono ?_
    rintro e w1 ⟨rfl, hs⟩
    rw [D.out]
    have S2 := hid (ST.out.call hs)
    go_wp2
    go_ret
    exact ⟨by rw [E.out]; rfl, S2.out.drop⟩
  have D0 := hid (decide_eq_true e0); have E0 := hid e0; clear e0
  go_enter Try.func25, Try.ntmps25
  go_wp2_with fail
  refine (sEqualPairs_any v0 u0 x.1 y.1 _ (ST.out.arg h0) (ST.out.arg g0)).mono ?_
  rintro e w2 ⟨rfl, hs⟩
  rw [D0.out]
  have SC1 := hid (show St w w2 [Ch.blk (w.heap.size + 1) [u0, u1] 33, Ch.blk w.heap.size [v0, v1] 33] from ST.out.call hs); clear hs
  have ca1 := SC1.out.cell 0 rfl; have cb1 := SC1.out.cell 1 rfl
  by_cases e1 : x.2 = y.2
  rotate_left
  · have E := hid (decide_eq_false (show ¬ x = y from fun h => e1 (by rw [h])))
    have D := hid (decide_eq_false e1); clear e1
    go_wp2_with fail
    refine (sEqualPairs_any v1 u1 x.2 y.2 _ (SC1.out.arg h1) (SC1.out.arg g1)).mono ?_
    rintro e w1 ⟨rfl, hs⟩
    rw [D.out]
    have S2 := hid (SC1.out.call hs)
    go_wp2
    go_ret
    exact ⟨by rw [E.out]; rfl, S2.out.drop⟩
  have D1 := hid (decide_eq_true e1)
  have E := hid (decide_eq_true (show x = y from Prod.ext E0.out e1)); clear e1
  go_wp2_with fail
  refine (sEqualPairs_any v1 u1 x.2 y.2 _ (SC1.out.arg h1) (SC1.out.arg g1)).mono ?_
  rintro e w3 ⟨rfl, hs⟩
  rw [D1.out]
  have S2 := hid (SC1.out.call hs); clear hs
  go_wp2
  go_ret
  exact ⟨by rw [E.out]; rfl, S2.out.drop⟩

set_option maxHeartbeats 800000 in
theorem iEqualDeltas_any (v0 v1 u0 u1 : Value) (x y : DDelta) (w : World) (h0 : rPairS.rd w.heap.size w [v0] x.1) (h1 : rPairS.rd w.heap.size w [v1] x.2) (g0 : rPairS.rd w.heap.size w [u0] y.1) (g1 : rPairS.rd w.heap.size w [u1] y.2) :
    Calls Try.prog 27 #[.agg #[v0, v1], .agg #[u0, u1]] w fun e w' => e = .returned (.bool (decide (x = y))) ∧ St w w' [] := by
  have ST := hid (show St w ((w.alloc (.cells #[v0, v1] 33)).alloc (.cells #[u0, u1] 33)) [Ch.blk (w.heap.size + 1) [u0, u1] 33, Ch.blk w.heap.size [v0, v1] 33] from (St.init w).alloc2 _ _ _ _)
  by_cases e0 : x.1 = y.1
  rotate_left
  · have E := hid (decide_eq_false (show ¬ x = y from fun h => e0 (by rw [h])))
    have D := hid (decide_eq_false e0); clear e0
    go_enter Try.func27, Try.ntmps27
    go_wp2_with fail
    refine (iEqualPairs_any v0 u0 x.1 y.1 _ (ST.out.arg h0) (ST.out.arg g0)).mono ?_
    rintro e w1 ⟨rfl, hs⟩
    rw [D.out]
    have S2 := hid (ST.out.call hs)
    go_wp2
    go_ret
    exact ⟨by rw [E.out]; rfl, S2.out.drop⟩
  have D0 := hid (decide_eq_true e0); have E0 := hid e0; clear e0
  go_enter Try.func27, Try.ntmps27
  go_wp2_with fail
  refine (iEqualPairs_any v0 u0 x.1 y.1 _ (ST.out.arg h0) (ST.out.arg g0)).mono ?_
  rintro e w2 ⟨rfl, hs⟩
  rw [D0.out]
  have SC1 := hid (show St w w2 [Ch.blk (w.heap.size + 1) [u0, u1] 33, Ch.blk w.heap.size [v0, v1] 33] from ST.out.call hs); clear hs
  have ca1 := SC1.out.cell 0 rfl; have cb1 := SC1.out.cell 1 rfl
  by_cases e1 : x.2 = y.2
  rotate_left
  · have E := hid (decide_eq_false (show ¬ x = y from fun h => e1 (by rw [h])))
    have D := hid (decide_eq_false e1); clear e1
    go_wp2_with fail
    refine (iEqualPairs_any v1 u1 x.2 y.2 _ (SC1.out.arg h1) (SC1.out.arg g1)).mono ?_
    rintro e w1 ⟨rfl, hs⟩
    rw [D.out]
    have S2 := hid (SC1.out.call hs)
    go_wp2
    go_ret
    exact ⟨by rw [E.out]; rfl, S2.out.drop⟩
  have D1 := hid (decide_eq_true e1)
  have E := hid (decide_eq_true (show x = y from Prod.ext E0.out e1)); clear e1
  go_wp2_with fail
  refine (iEqualPairs_any v1 u1 x.2 y.2 _ (SC1.out.arg h1) (SC1.out.arg g1)).mono ?_
  rintro e w3 ⟨rfl, hs⟩
  rw [D1.out]
  have S2 := hid (SC1.out.call hs); clear hs
  go_wp2
  go_ret
  exact ⟨by rw [E.out]; rfl, S2.out.drop⟩

set_option maxHeartbeats 800000 in
theorem sEqualMessages_any (v0 v1 u0 u1 : Value) (x y : DMessage) (w : World) (_ : I64 x.1) (_ : I64 y.1) (h0 : rPairS.rd w.heap.size w [v0] x.2.2.1) (h1 : rPairS.rd w.heap.size w [v1] x.2.2.2) (g0 : rPairS.rd w.heap.size w [u0] y.2.2.1) (g1 : rPairS.rd w.heap.size w [u1] y.2.2.2) (_ : szMessage x ≤ 1048576) (_ : szMessage y ≤ 1048576) :
    Calls Try.prog 9 #[.agg #[.int .i64 x.1, .bool x.2.1, v0, v1], .agg #[.int .i64 y.1, .bool y.2.1, u0, u1]] w fun e w' => e = .returned (.bool (dEqualMessages x y)) ∧ St w w' [] := by
  obtain ⟨n, p, x⟩ := x
  obtain ⟨m, q, y⟩ := y
  show Calls Try.prog 9 #[.agg #[.int .i64 n, .bool p, v0, v1], .agg #[.int .i64 m, .bool q, u0, u1]] w _
  have ST := hid (show St w ((w.alloc (.cells #[.int .i64 n, .bool p, v0, v1] 35)).alloc (.cells #[.int .i64 m, .bool q, u0, u1] 35)) [Ch.blk (w.heap.size + 1) [.int .i64 m, .bool q, u0, u1] 35, Ch.blk w.heap.size [.int .i64 n, .bool p, v0, v1] 35] from (St.init w).alloc2 _ _ _ _)
  by_cases e0 : n = m
  rotate_left
  · have E := hid (show dEqualMessages (n, p, x) (m, q, y) = false from decide_eq_false (fun h => e0 (by simpa using congrArg (·.1) h)))
    have hr : (n == m) = false := by simp [e0]
    clear e0
    go_enter Try.func9, Try.ntmps9
    go_wp2
    go_ret
    exact ⟨by rw [E.out]; rfl, ST.out.drop⟩
  subst e0
  by_cases e1 : p = q
  rotate_left
  · have E := hid (show dEqualMessages (n, p, x) (n, q, y) = false from decide_eq_false (fun h => e1 (by simpa using congrArg (·.2.1) h)))
    have hr : (p == q) = false := by simp [e1]
    clear e1
    go_enter Try.func9, Try.ntmps9
    go_wp2
    go_ret
    exact ⟨by rw [E.out]; rfl, ST.out.drop⟩
  subst e1
  have E := hid (show dEqualMessages (n, p, x) (n, p, y) = decide (x = y) from by unfold dEqualMessages; simp)
  go_enter Try.func9, Try.ntmps9
  go_wp2_with fail
  refine (sEqualDeltas_any v0 v1 u0 u1 x y _ (ST.out.arg h0) (ST.out.arg h1) (ST.out.arg g0) (ST.out.arg g1)).mono ?_
  rintro e w1 ⟨rfl, hs⟩
  have S2 := hid (ST.out.call hs); clear hs
  generalize decide (x = y) = r at E
  go_wp2
  all_goals go_ret
  all_goals exact ⟨by rw [E.out]; rfl, S2.out.drop⟩

set_option maxHeartbeats 800000 in
theorem iEqualMessages_any (v0 v1 u0 u1 : Value) (x y : DMessage) (w : World) (_ : I64 x.1) (_ : I64 y.1) (h0 : rPairS.rd w.heap.size w [v0] x.2.2.1) (h1 : rPairS.rd w.heap.size w [v1] x.2.2.2) (g0 : rPairS.rd w.heap.size w [u0] y.2.2.1) (g1 : rPairS.rd w.heap.size w [u1] y.2.2.2) (_ : szMessage x ≤ 1048576) (_ : szMessage y ≤ 1048576) :
    Calls Try.prog 11 #[.agg #[.int .i64 x.1, .bool x.2.1, v0, v1], .agg #[.int .i64 y.1, .bool y.2.1, u0, u1]] w fun e w' => e = .returned (.bool (dEqualMessages x y)) ∧ St w w' [] := by
  obtain ⟨n, p, x⟩ := x
  obtain ⟨m, q, y⟩ := y
  show Calls Try.prog 11 #[.agg #[.int .i64 n, .bool p, v0, v1], .agg #[.int .i64 m, .bool q, u0, u1]] w _
  have ST := hid (show St w ((w.alloc (.cells #[.int .i64 n, .bool p, v0, v1] 35)).alloc (.cells #[.int .i64 m, .bool q, u0, u1] 35)) [Ch.blk (w.heap.size + 1) [.int .i64 m, .bool q, u0, u1] 35, Ch.blk w.heap.size [.int .i64 n, .bool p, v0, v1] 35] from (St.init w).alloc2 _ _ _ _)
  by_cases e0 : n = m
  rotate_left
  · have E := hid (show dEqualMessages (n, p, x) (m, q, y) = false from decide_eq_false (fun h => e0 (by simpa using congrArg (·.1) h)))
    have hr : (n == m) = false := by simp [e0]
    clear e0
    go_enter Try.func11, Try.ntmps11
    go_wp2
    go_ret
    exact ⟨by rw [E.out]; rfl, ST.out.drop⟩
  subst e0
  by_cases e1 : p = q
  rotate_left
  · have E := hid (show dEqualMessages (n, p, x) (n, q, y) = false from decide_eq_false (fun h => e1 (by simpa using congrArg (·.2.1) h)))
    have hr : (p == q) = false := by simp [e1]
    clear e1
    go_enter Try.func11, Try.ntmps11
    go_wp2
    go_ret
    exact ⟨by rw [E.out]; rfl, ST.out.drop⟩
  subst e1
  have E := hid (show dEqualMessages (n, p, x) (n, p, y) = decide (x = y) from by unfold dEqualMessages; simp)
  go_enter Try.func11, Try.ntmps11
  go_wp2_with fail
  refine (iEqualDeltas_any v0 v1 u0 u1 x y _ (ST.out.arg h0) (ST.out.arg h1) (ST.out.arg g0) (ST.out.arg g1)).mono ?_
  rintro e w1 ⟨rfl, hs⟩
  have S2 := hid (ST.out.call hs); clear hs
  generalize decide (x = y) = r at E
  go_wp2
  all_goals go_ret
  all_goals exact ⟨by rw [E.out]; rfl, S2.out.drop⟩

end Go.Proofs.Ytokiommgielfjaa
