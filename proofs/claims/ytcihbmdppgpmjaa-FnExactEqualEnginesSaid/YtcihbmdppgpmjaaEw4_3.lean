/- Printed by dec.py: models of functions and the walks that show them. -/
import Derived.Test.YtcihbmdppgpmjaaEw3_1
import Derived.Test.YtcihbmdppgpmjaaEw3_3
set_option linter.unusedVariables false
set_option linter.unusedSimpArgs false
set_option linter.unnecessarySimpa false
set_option maxRecDepth 100000
namespace Go.Proofs.Ytcihbmdppgpmjaa.D
open Go.RowKit
set_option maxHeartbeats 8000000 in
theorem c_w_szRegistry (p0a : (List (Int × (List Bool) × (List (List Int)))) × (List (Int × ((List (Int × Int × Int × Int))) × Int))) (p1left : Int) (r : Int) (hm : m_w_szRegistry p0a p1left = some r) {I : Hp} {w0 : World} (va0 : Value) (va1 : Value) (ra0 : (rSlice 25 (rProd rInt (rProd (rSlice 4 rBool) (rSlice 34 (rSlice 3 rInt))))).rd I [va0] p0a.1) (ra1 : (rSlice 195 (rProd rInt (rProd (rSlice 222 (rProd rInt (rProd rInt (rProd rInt rInt)))) rInt))).rd I [va1] p0a.2) : Con Try.prog 79 #[.agg #[va0, va1], .int .i64 p1left] I w0 [] (fun v => v = .int .i64 r) (fun v => []) := by
  refine con_of_wp (n := 18) [(0, .agg #[va0, va1]), (1, .int .i64 p1left)] Try.func79 rfl rfl (Nat.le_of_ble_eq_true rfl) (args_all ⟨rfl, rfl, trivial⟩) (fun F w a ha hs => ?_) (fun v => trivial)
  unfold m_w_szRegistry at hm
  refine wp_seq ?_
  refine wp_region_lit ?_
  refine seq_op ha hs rfl (opT_box (u := .agg #[va0, va1]) (l := [va0, va1]) rfl rfl rfl) (List.Perm.refl _) rfl ?_
  rintro _ aq1 wq1 ⟨g1, rfl⟩ haq1 (hsq1 : St I w0 wq1 [Ch.blk g1 [va0, va1] 63, F])
  clear ha hs a w
  refine seq_op0 haq1 hsq1 (opT_assign (v := .int .i64 0) rfl rfl) rfl rfl ?_
  rintro u aq2 wq2 hf haq2 hsq2
  obtain rfl := Eq.symm hf
  clear haq1 hsq1 aq1 wq1
  refine wpList_nil ?_
  replace haq2 := haq2.pick' (L' := [(1, .int .i64 p1left), (2, .pointer (some ⟨g1, 0, none⟩))]) ⟨rfl, rfl, trivial⟩
  refine nrm ?_
  refine wp_seq ?_
  refine wp_region_lit ?_
  refine seq_op0 haq2 hsq2 (opT_field_addr (g := g1) (b := 0) tf63_0 rfl rfl) rfl rfl ?_
  rintro u aq3 wq3 hf haq3 hsq3
  obtain rfl := Eq.symm hf
  clear haq2 hsq2 aq2 wq2
  refine seq_op haq3 hsq3 rfl (opT_load_blk (g := g1) (off := 0) (E := 63) (l := [va0, va1]) (d := [va0]) (u := va0) ti60 rfl rfl rfl rfl rfl rfl) (perm_front (i := 0) rfl) rfl ?_
  rintro u aq4 wq4 hf haq4 (hsq4 : St I w0 wq4 [Ch.blk g1 [va0, va1] 63, F])
  obtain rfl := Eq.symm hf
  clear haq3 hsq3 aq3 wq3
  refine seq_op0 haq4 hsq4 (opT_move (v := .int .i64 p1left) rfl rfl) rfl rfl ?_
  rintro u aq5 wq5 hf haq5 hsq5
  obtain rfl := Eq.symm hf
  clear haq4 hsq4 aq4 wq4
  obtain ⟨r1, e1, hm⟩ := bind_some hm
  refine seq_op0 haq5 hsq5 (opT_call (args := #[va0, .int .i64 p1left]) (first := #[]) (captured := #[]) en129 rfl rfl rfl (c_w_szAutomatonS p0a.1 p1left _ e1 va0 ra0)) rfl rfl ?_
  rintro u aq6 wq6 hf haq6 hsq6
  obtain rfl := Eq.symm hf
  clear haq5 hsq5 aq5 wq5
  refine seq_op0 haq6 hsq6 (opT_assign (v := .int .i64 r1) rfl rfl) rfl rfl ?_
  rintro u aq7 wq7 hf haq7 hsq7
  obtain rfl := Eq.symm hf
  clear haq6 hsq6 aq6 wq6
  refine wpList_nil ?_
  replace haq7 := haq7.pick' (L' := [(1, .int .i64 r1), (2, .pointer (some ⟨g1, 0, none⟩))]) ⟨rfl, rfl, trivial⟩
  refine nrm ?_
  refine wp_seq ?_
  refine wp_seq ?_
  refine wp_region_lit ?_
  refine seq_op0 haq7 hsq7 (opT_move (v := .int .i64 r1) rfl rfl) rfl rfl ?_
  rintro u aq8 wq8 hf haq8 hsq8
  obtain rfl := Eq.symm hf
  clear haq7 hsq7 aq7 wq7
  refine seq_op0 haq8 hsq8 (opT_cmp (k := .i64) (m := r1) (n := 0) (c := decide (r1 < 0)) rfl rfl rfl rfl rfl) rfl rfl ?_
  rintro u aq9 wq9 hf haq9 hsq9
  obtain rfl := Eq.symm hf
  clear haq8 hsq8 aq8 wq8
  refine wpList_nil ?_
  replace haq9 := haq9.pick' (L' := [(1, .int .i64 r1), (2, .pointer (some ⟨g1, 0, none⟩)), (10, .bool (decide (r1 < 0)))]) ⟨rfl, rfl, rfl, trivial⟩
  refine nrm ?_
  rcases two (decide (r1 < 0)) with hb1 | hb1
  · replace hm := ifFe hb1 hm
    refine cnd_false (b := decide (r1 < 0)) haq9 rfl rfl hb1 ?_
    refine wp_skip ?_
    refine nrm ?_
    refine wp_seq ?_
    refine wp_region_lit ?_
    refine seq_op0 haq9 hsq9 (opT_field_addr (g := g1) (b := 0) tf63_1 rfl rfl) rfl rfl ?_
    rintro u aq10 wq10 hf haq10 hsq10
    obtain rfl := Eq.symm hf
    clear haq9 hsq9 aq9 wq9
    refine seq_op haq10 hsq10 rfl (opT_load_blk (g := g1) (off := 1) (E := 63) (l := [va0, va1]) (d := [va1]) (u := va1) ti61 rfl rfl rfl rfl rfl rfl) (perm_front (i := 0) rfl) rfl ?_
    rintro u aq11 wq11 hf haq11 (hsq11 : St I w0 wq11 [Ch.blk g1 [va0, va1] 63, F])
    obtain rfl := Eq.symm hf
    clear haq10 hsq10 aq10 wq10
    refine seq_op0 haq11 hsq11 (opT_move (v := .int .i64 r1) rfl rfl) rfl rfl ?_
    rintro u aq12 wq12 hf haq12 hsq12
    obtain rfl := Eq.symm hf
    clear haq11 hsq11 aq11 wq11
    obtain ⟨r2, e2, hm⟩ := bind_some hm
    refine seq_op0 haq12 hsq12 (opT_call (args := #[va1, .int .i64 r1]) (first := #[]) (captured := #[]) en130 rfl rfl rfl (c_w_szRegisteredS p0a.2 r1 _ e2 va1 ra1)) rfl rfl ?_
    rintro u aq13 wq13 hf haq13 hsq13
    obtain rfl := Eq.symm hf
    clear haq12 hsq12 aq12 wq12
    refine seq_op0 haq13 hsq13 (opT_assign (v := .int .i64 r2) rfl rfl) rfl rfl ?_
    rintro u aq14 wq14 hf haq14 hsq14
    obtain rfl := Eq.symm hf
    clear haq13 hsq13 aq13 wq13
    refine wpList_nil ?_
    replace haq14 := haq14.pick' (L' := [(1, .int .i64 r2)]) ⟨rfl, trivial⟩
    refine nrm ?_
    refine wp_seq ?_
    refine wp_seq ?_
    refine wp_region_lit ?_
    refine seq_op0 haq14 hsq14 (opT_move (v := .int .i64 r2) rfl rfl) rfl rfl ?_
    rintro u aq15 wq15 hf haq15 hsq15
    obtain rfl := Eq.symm hf
    clear haq14 hsq14 aq14 wq14
    refine seq_op0 haq15 hsq15 (opT_cmp (k := .i64) (m := r2) (n := 0) (c := decide (r2 < 0)) rfl rfl rfl rfl rfl) rfl rfl ?_
    rintro u aq16 wq16 hf haq16 hsq16
    obtain rfl := Eq.symm hf
    clear haq15 hsq15 aq15 wq15
    refine wpList_nil ?_
    replace haq16 := haq16.pick' (L' := [(1, .int .i64 r2), (16, .bool (decide (r2 < 0)))]) ⟨rfl, rfl, trivial⟩
    refine nrm ?_
    rcases two (decide (r2 < 0)) with hb2 | hb2
    · replace hm := ifFe hb2 hm
      refine cnd_false (b := decide (r2 < 0)) haq16 rfl rfl hb2 ?_
      refine wp_skip ?_
      refine nrm ?_
      refine wp_seq ?_
      refine wp_region_lit ?_
      refine seq_op0 haq16 hsq16 (opT_move (v := .int .i64 r2) rfl rfl) rfl rfl ?_
      rintro u aq17 wq17 hf haq17 hsq17
      obtain rfl := Eq.symm hf
      clear haq16 hsq16 aq16 wq16
      refine seq_op0 haq17 hsq17 (opT_assign (v := .int .i64 r2) rfl rfl) rfl rfl ?_
      rintro u aq18 wq18 hf haq18 hsq18
      obtain rfl := Eq.symm hf
      clear haq17 hsq17 aq17 wq17
      refine wpList_nil ?_
      replace haq18 := haq18.pick' (L' := [(4, .int .i64 r2)]) ⟨rfl, trivial⟩
      refine nrm ?_
      refine wp_ret ?_
      obtain rfl := Option.some.inj hm
      exact ret_1 haq18 rfl (res_tmp haq18 rfl) ⟨_, rfl, rfl, _, Hp.le.rfl, St.sel (hsq18) 2 [1] rfl rfl⟩
    · replace hm := ifTe hb2 hm
      refine cnd_true (b := decide (r2 < 0)) haq16 rfl rfl hb2 ?_
      refine wp_seq ?_
      refine wp_region_lit ?_
      refine seq_op0 haq16 hsq16 (opT_assign (v := .int .i64 (-1)) rfl rfl) rfl rfl ?_
      rintro u aq19 wq19 hf haq19 hsq19
      obtain rfl := Eq.symm hf
      clear haq16 hsq16 aq16 wq16
      refine wpList_nil ?_
      replace haq19 := haq19.pick' (L' := [(4, .int .i64 (-1))]) ⟨rfl, trivial⟩
      refine nrm ?_
      refine wp_ret ?_
      refine thenR ?_
      obtain rfl := Option.some.inj hm
      exact ret_1 haq19 rfl (res_tmp haq19 rfl) ⟨_, rfl, rfl, _, Hp.le.rfl, St.sel (hsq19) 2 [1] rfl rfl⟩
  · replace hm := ifTe hb1 hm
    refine cnd_true (b := decide (r1 < 0)) haq9 rfl rfl hb1 ?_
    refine wp_seq ?_
    refine wp_region_lit ?_
    refine seq_op0 haq9 hsq9 (opT_assign (v := .int .i64 (-1)) rfl rfl) rfl rfl ?_
    rintro u aq20 wq20 hf haq20 hsq20
    obtain rfl := Eq.symm hf
    clear haq9 hsq9 aq9 wq9
    refine wpList_nil ?_
    replace haq20 := haq20.pick' (L' := [(4, .int .i64 (-1))]) ⟨rfl, trivial⟩
    refine nrm ?_
    refine wp_ret ?_
    refine thenR ?_
    obtain rfl := Option.some.inj hm
    exact ret_1 haq20 rfl (res_tmp haq20 rfl) ⟨_, rfl, rfl, _, Hp.le.rfl, St.sel (hsq20) 2 [1] rfl rfl⟩
set_option maxHeartbeats 8000000 in
theorem c_w_toHistory (p0a : Int × (List ((List Int) × (List (Int × Int × Int × Int))))) (r : Int × (List ((List Int) × (List (Int × Int × Int × Int))))) (hm : m_w_toHistory p0a = some r) {I : Hp} {w0 : World} (va0 : Value) (ra0 : (rSlice 37 (rProd (rSlice 3 rInt) (rSlice 128 (rProd rInt (rProd rInt (rProd rInt rInt)))))).rd I [va0] p0a.2) : Con Try.prog 83 #[.agg #[.int .i64 p0a.1, va0]] I w0 [] (fun v => ∃ h0 : Value, v = .agg #[.int .i64 r.1, h0]) (fun v => [Ch.own (rSlice 45 (rProd (rSlice 3 rInt) (rSlice 126 (rProd rInt (rProd rInt (rProd rInt rInt)))))) [vg v [1]] r.2]) := by
  refine con_of_wp (n := 12) [(0, .agg #[.int .i64 p0a.1, va0])] Try.func83 rfl rfl (Nat.le_of_ble_eq_true rfl) (args_all ⟨rfl, trivial⟩) (fun F w a ha hs => ?_) (fun v => ⟨dp_own (dp_slice (dp_prod (dp_slice dp_int) (dp_slice (dp_prod dp_int (dp_prod dp_int (dp_prod dp_int dp_int)))))), trivial⟩)
  unfold m_w_toHistory at hm
  refine wp_seq ?_
  refine wp_region_lit ?_
  refine seq_op ha hs rfl (opT_box (u := .agg #[.int .i64 p0a.1, va0]) (l := [.int .i64 p0a.1, va0]) rfl rfl rfl) (List.Perm.refl _) rfl ?_
  rintro _ aq1 wq1 ⟨g1, rfl⟩ haq1 (hsq1 : St I w0 wq1 [Ch.blk g1 [.int .i64 p0a.1, va0] 59, F])
  clear ha hs a w
  refine seq_op haq1 hsq1 rfl (opT_alloc (l := [.int .i64 0, .slice none 0 0]) tz71 rfl rfl) (List.Perm.refl _) rfl ?_
  rintro _ aq2 wq2 ⟨g2, rfl⟩ haq2 (hsq2 : St I w0 wq2 [Ch.blk g2 [.int .i64 0, .slice none 0 0] 71, Ch.blk g1 [.int .i64 p0a.1, va0] 59, F])
  clear haq1 hsq1 aq1 wq1
  refine wpList_nil ?_
  replace haq2 := haq2.pick' (L' := [(1, .pointer (some ⟨g1, 0, none⟩)), (2, .pointer (some ⟨g2, 0, none⟩))]) ⟨rfl, rfl, trivial⟩
  refine nrm ?_
  refine wp_seq ?_
  refine wp_region_lit ?_
  refine seq_op haq2 hsq2 rfl (opT_alloc (l := [.int .i64 0, .slice none 0 0]) tz71 rfl rfl) (List.Perm.refl _) rfl ?_
  rintro _ aq3 wq3 ⟨g3, rfl⟩ haq3 (hsq3 : St I w0 wq3 [Ch.blk g3 [.int .i64 0, .slice none 0 0] 71, Ch.blk g2 [.int .i64 0, .slice none 0 0] 71, Ch.blk g1 [.int .i64 p0a.1, va0] 59, F])
  clear haq2 hsq2 aq2 wq2
  refine wpList_nil ?_
  replace haq3 := haq3.pick' (L' := [(1, .pointer (some ⟨g1, 0, none⟩)), (2, .pointer (some ⟨g2, 0, none⟩)), (3, .pointer (some ⟨g3, 0, none⟩))]) ⟨rfl, rfl, rfl, trivial⟩
  refine nrm ?_
  refine wp_seq ?_
  refine wp_region_lit ?_
  refine seq_op0 haq3 hsq3 (opT_field_addr (g := g1) (b := 0) tf59_0 rfl rfl) rfl rfl ?_
  rintro u aq4 wq4 hf haq4 hsq4
  obtain rfl := Eq.symm hf
  clear haq3 hsq3 aq3 wq3
  refine seq_op haq4 hsq4 rfl (opT_load_blk (g := g1) (off := 0) (E := 59) (l := [.int .i64 p0a.1, va0]) (d := [.int .i64 p0a.1]) (u := .int .i64 p0a.1) ti3 rfl rfl rfl rfl rfl rfl) (perm_front (i := 2) rfl) rfl ?_
  rintro u aq5 wq5 hf haq5 (hsq5 : St I w0 wq5 [Ch.blk g1 [.int .i64 p0a.1, va0] 59, Ch.blk g3 [.int .i64 0, .slice none 0 0] 71, Ch.blk g2 [.int .i64 0, .slice none 0 0] 71, F])
  obtain rfl := Eq.symm hf
  clear haq4 hsq4 aq4 wq4
  refine seq_op0 haq5 hsq5 (opT_field_addr (g := g3) (b := 0) tf71_0 rfl rfl) rfl rfl ?_
  rintro u aq6 wq6 hf haq6 hsq6
  obtain rfl := Eq.symm hf
  clear haq5 hsq5 aq5 wq5
  refine seq_op haq6 hsq6 rfl (opT_store_blk (g := g3) (off := 0) (l := [.int .i64 0, .slice none 0 0]) (d := [.int .i64 p0a.1]) (E := 71) (u := .int .i64 p0a.1) ti3 rfl rfl rfl rfl rfl (allC rfl allN) (Nat.le_of_ble_eq_true rfl)) (perm_front (i := 1) rfl) rfl ?_
  rintro _ aq7 wq7 - haq7 (hsq7 : St I w0 wq7 [Ch.blk g3 [.int .i64 p0a.1, .slice none 0 0] 71, Ch.blk g1 [.int .i64 p0a.1, va0] 59, Ch.blk g2 [.int .i64 0, .slice none 0 0] 71, F])
  clear haq6 hsq6 aq6 wq6
  refine wpList_nil ?_
  replace haq7 := haq7.pick' (L' := [(1, .pointer (some ⟨g1, 0, none⟩)), (2, .pointer (some ⟨g2, 0, none⟩)), (3, .pointer (some ⟨g3, 0, none⟩))]) ⟨rfl, rfl, rfl, trivial⟩
  refine nrm ?_
  refine wp_seq ?_
  refine wp_region_lit ?_
  refine seq_op0 haq7 hsq7 (opT_field_addr (g := g1) (b := 0) tf59_1 rfl rfl) rfl rfl ?_
  rintro u aq8 wq8 hf haq8 hsq8
  obtain rfl := Eq.symm hf
  clear haq7 hsq7 aq7 wq7
  refine seq_op haq8 hsq8 rfl (opT_load_blk (g := g1) (off := 1) (E := 59) (l := [.int .i64 p0a.1, va0]) (d := [va0]) (u := va0) ti57 rfl rfl rfl rfl rfl rfl) (perm_front (i := 1) rfl) rfl ?_
  rintro u aq9 wq9 hf haq9 (hsq9 : St I w0 wq9 [Ch.blk g1 [.int .i64 p0a.1, va0] 59, Ch.blk g3 [.int .i64 p0a.1, .slice none 0 0] 71, Ch.blk g2 [.int .i64 0, .slice none 0 0] 71, F])
  obtain rfl := Eq.symm hf
  clear haq8 hsq8 aq8 wq8
  obtain ⟨r1, e1, hm⟩ := bind_some hm
  refine seq_op haq9 hsq9 rfl (opT_call (args := #[va0]) (first := #[]) (captured := #[]) en133 rfl rfl rfl (c_w_toGraphS p0a.2 _ e1 va0 ra0)) (List.Perm.refl _) rfl ?_
  rintro v1 aq10 wq10 - haq10 (hsq10 : St I w0 wq10 [Ch.own (rSlice 45 (rProd (rSlice 3 rInt) (rSlice 126 (rProd rInt (rProd rInt (rProd rInt rInt)))))) [v1] r1, Ch.blk g1 [.int .i64 p0a.1, va0] 59, Ch.blk g3 [.int .i64 p0a.1, .slice none 0 0] 71, Ch.blk g2 [.int .i64 0, .slice none 0 0] 71, F])
  clear haq9 hsq9 aq9 wq9
  refine seq_op0 haq10 hsq10 (opT_field_addr (g := g3) (b := 0) tf71_1 rfl rfl) rfl rfl ?_
  rintro u aq11 wq11 hf haq11 hsq11
  obtain rfl := Eq.symm hf
  clear haq10 hsq10 aq10 wq10
  refine seq_op haq11 hsq11 rfl (opT_store_blk (g := g3) (off := 1) (l := [.int .i64 p0a.1, .slice none 0 0]) (d := [v1]) (E := 71) (u := v1) ti69 rfl rfl rfl (Hd.cells (St.hd hsq11 0 rfl).1) rfl (allC (Hd.one (St.hd hsq11 0 rfl).1) allN) (Nat.le_of_ble_eq_true rfl)) (perm_front (i := 2) rfl) rfl ?_
  rintro _ aq12 wq12 - haq12 (hsq12 : St I w0 wq12 [Ch.blk g3 [.int .i64 p0a.1, v1] 71, Ch.own (rSlice 45 (rProd (rSlice 3 rInt) (rSlice 126 (rProd rInt (rProd rInt (rProd rInt rInt)))))) [v1] r1, Ch.blk g1 [.int .i64 p0a.1, va0] 59, Ch.blk g2 [.int .i64 0, .slice none 0 0] 71, F])
  clear haq11 hsq11 aq11 wq11
  refine wpList_nil ?_
  replace haq12 := haq12.pick' (L' := [(2, .pointer (some ⟨g2, 0, none⟩)), (3, .pointer (some ⟨g3, 0, none⟩))]) ⟨rfl, rfl, trivial⟩
  refine nrm ?_
  refine wp_seq ?_
  refine wp_region_lit ?_
  refine seq_op haq12 hsq12 rfl (opT_load_blk (g := g3) (off := 0) (E := 71) (l := [.int .i64 p0a.1, v1]) (d := [.int .i64 p0a.1, v1]) (u := .agg #[.int .i64 p0a.1, v1]) ti71 rfl rfl rfl rfl rfl rfl) (perm_front (i := 0) rfl) rfl ?_
  rintro u aq13 wq13 hf haq13 (hsq13 : St I w0 wq13 [Ch.blk g3 [.int .i64 p0a.1, v1] 71, Ch.own (rSlice 45 (rProd (rSlice 3 rInt) (rSlice 126 (rProd rInt (rProd rInt (rProd rInt rInt)))))) [v1] r1, Ch.blk g1 [.int .i64 p0a.1, va0] 59, Ch.blk g2 [.int .i64 0, .slice none 0 0] 71, F])
  obtain rfl := Eq.symm hf
  clear haq12 hsq12 aq12 wq12
  refine seq_op haq13 hsq13 rfl (opT_store_blk (g := g2) (off := 0) (l := [.int .i64 0, .slice none 0 0]) (d := [.int .i64 p0a.1, v1]) (E := 71) (u := .agg #[.int .i64 p0a.1, v1]) ti71 rfl rfl rfl rfl rfl (allC rfl (allC (Hd.one (St.hd hsq13 1 rfl).1) allN)) (Nat.le_of_ble_eq_true rfl)) (perm_front (i := 3) rfl) rfl ?_
  rintro _ aq14 wq14 - haq14 (hsq14 : St I w0 wq14 [Ch.blk g2 [.int .i64 p0a.1, v1] 71, Ch.blk g3 [.int .i64 p0a.1, v1] 71, Ch.own (rSlice 45 (rProd (rSlice 3 rInt) (rSlice 126 (rProd rInt (rProd rInt (rProd rInt rInt)))))) [v1] r1, Ch.blk g1 [.int .i64 p0a.1, va0] 59, F])
  clear haq13 hsq13 aq13 wq13
  refine wpList_nil ?_
  replace haq14 := haq14.pick' (L' := [(2, .pointer (some ⟨g2, 0, none⟩))]) ⟨rfl, trivial⟩
  refine nrm ?_
  refine wp_ret ?_
  obtain rfl := Option.some.inj hm
  exact ret_1 haq14 rfl (res_cell (g := g2) haq14 rfl hsq14 0 rfl ti71 rfl) ⟨_, rfl, ⟨_, rfl⟩, _, Hp.le.rfl, St.sel (hsq14) 5 [2, 4] rfl rfl⟩
end Go.Proofs.Ytcihbmdppgpmjaa.D
