/- Printed by dec.py: models of functions and the walks that show them. -/
import Derived.Test.YtcihbmdppgpmjaaTw2_1
import Derived.Test.YtcihbmdppgpmjaaTw2_2
import Derived.Test.YtcihbmdppgpmjaaTw2_3
import Derived.Test.YtcihbmdppgpmjaaTw3_0
import Derived.Test.YtcihbmdppgpmjaaTw5_0
set_option linter.unusedVariables false
set_option linter.unusedSimpArgs false
set_option linter.unnecessarySimpa false
set_option maxRecDepth 100000
namespace Go.Proofs.Ytcihbmdppgpmjaa.D
open Go.RowKit
set_option maxHeartbeats 8000000 in
theorem c_w_FnExactTrimAutomaton (p0 : Int × (List Bool) × (List (List Int))) (r : Bool) (hm : m_w_FnExactTrimAutomaton p0 = some r) {I : Hp} {w0 : World} (va0 : Value) (va1 : Value) (ra0 : (rSlice 4 rBool).rd I [va0] p0.2.1) (ra1 : (rSlice 34 (rSlice 3 rInt)).rd I [va1] p0.2.2) : Con Try.prog 3 #[.agg #[.int .i64 p0.1, va0, va1]] I w0 [] (fun v => v = .bool r) (fun v => []) := by
  refine con_of_wp (n := 69) [(0, .agg #[.int .i64 p0.1, va0, va1])] Try.func3 rfl rfl (Nat.le_of_ble_eq_true rfl) (args_all ⟨rfl, trivial⟩) (fun F w a ha hs => ?_) (fun v => trivial)
  unfold m_w_FnExactTrimAutomaton at hm
  refine wp_seq ?_
  refine wp_region_lit ?_
  refine seq_op ha hs rfl (opT_box (u := .agg #[.int .i64 p0.1, va0, va1]) (l := [.int .i64 p0.1, va0, va1]) rfl rfl rfl) (List.Perm.refl _) rfl ?_
  rintro _ aq1 wq1 ⟨g1, rfl⟩ haq1 (hsq1 : St I w0 wq1 [Ch.blk g1 [.int .i64 p0.1, va0, va1] 25, F])
  clear ha hs a w
  refine seq_op0 haq1 hsq1 (opT_assign (v := .bool false) rfl rfl) rfl rfl ?_
  rintro u aq2 wq2 hf haq2 hsq2
  obtain rfl := Eq.symm hf
  clear haq1 hsq1 aq1 wq1
  refine wpList_nil ?_
  replace haq2 := haq2.pick' (L' := [(1, .pointer (some ⟨g1, 0, none⟩))]) ⟨rfl, trivial⟩
  refine nrm ?_
  refine wp_seq ?_
  refine wp_region_lit ?_
  refine seq_op0 haq2 hsq2 (opT_assign (v := .int .i64 1048576) rfl rfl) rfl rfl ?_
  rintro u aq3 wq3 hf haq3 hsq3
  obtain rfl := Eq.symm hf
  clear haq2 hsq2 aq2 wq2
  refine wpList_nil ?_
  replace haq3 := haq3.pick' (L' := [(1, .pointer (some ⟨g1, 0, none⟩)), (3, .int .i64 1048576)]) ⟨rfl, rfl, trivial⟩
  refine nrm ?_
  refine wp_seq ?_
  refine wp_region_lit ?_
  refine seq_op haq3 hsq3 rfl (opT_load_blk (g := g1) (off := 0) (E := 25) (l := [.int .i64 p0.1, va0, va1]) (d := [.int .i64 p0.1, va0, va1]) (u := .agg #[.int .i64 p0.1, va0, va1]) ti25 rfl rfl rfl rfl rfl rfl) (perm_front (i := 0) rfl) rfl ?_
  rintro u aq4 wq4 hf haq4 (hsq4 : St I w0 wq4 [Ch.blk g1 [.int .i64 p0.1, va0, va1] 25, F])
  obtain rfl := Eq.symm hf
  clear haq3 hsq3 aq3 wq3
  refine seq_op0 haq4 hsq4 (opT_move (v := .int .i64 1048576) rfl rfl) rfl rfl ?_
  rintro u aq5 wq5 hf haq5 hsq5
  obtain rfl := Eq.symm hf
  clear haq4 hsq4 aq4 wq4
  obtain ⟨r1, e1, hm⟩ := bind_some hm
  refine seq_op0 haq5 hsq5 (opT_call (args := #[.agg #[.int .i64 p0.1, va0, va1], .int .i64 1048576]) (first := #[]) (captured := #[]) en12 rfl rfl rfl (c_w_szAutomaton (p0.1, p0.2.1, p0.2.2) 1048576 _ e1 va0 va1 ra0 ra1)) rfl rfl ?_
  rintro u aq6 wq6 hf haq6 hsq6
  obtain rfl := Eq.symm hf
  clear haq5 hsq5 aq5 wq5
  refine seq_op0 haq6 hsq6 (opT_assign (v := .int .i64 r1) rfl rfl) rfl rfl ?_
  rintro u aq7 wq7 hf haq7 hsq7
  obtain rfl := Eq.symm hf
  clear haq6 hsq6 aq6 wq6
  refine wpList_nil ?_
  replace haq7 := haq7.pick' (L' := [(1, .pointer (some ⟨g1, 0, none⟩)), (3, .int .i64 r1)]) ⟨rfl, rfl, trivial⟩
  refine nrm ?_
  refine wp_seq ?_
  refine wp_seq ?_
  refine wp_region_lit ?_
  refine seq_op0 haq7 hsq7 (opT_move (v := .int .i64 r1) rfl rfl) rfl rfl ?_
  rintro u aq8 wq8 hf haq8 hsq8
  obtain rfl := Eq.symm hf
  clear haq7 hsq7 aq7 wq7
  refine seq_op0 haq8 hsq8 (opT_cmp (k := .i64) (m := r1) (n := 0) (c := decide (r1 < 0)) rfl rfl rfl rfl rfl) rfl rfl ?_
  rintro u aq9 wq9 hf haq9 hsq9
  obtain rfl := Eq.symm hf
  clear haq8 hsq8 aq8 wq8
  refine wpList_nil ?_
  replace haq9 := haq9.pick' (L' := [(1, .pointer (some ⟨g1, 0, none⟩)), (15, .bool (decide (r1 < 0)))]) ⟨rfl, rfl, trivial⟩
  refine nrm ?_
  rcases two (decide (r1 < 0)) with hb1 | hb1
  · replace hm := ifFe hb1 hm
    refine cnd_false (b := decide (r1 < 0)) haq9 rfl rfl hb1 ?_
    refine wp_skip ?_
    refine nrm ?_
    refine wp_seq ?_
    refine wp_region_lit ?_
    refine seq_op haq9 hsq9 rfl (opT_load_blk (g := g1) (off := 0) (E := 25) (l := [.int .i64 p0.1, va0, va1]) (d := [.int .i64 p0.1, va0, va1]) (u := .agg #[.int .i64 p0.1, va0, va1]) ti25 rfl rfl rfl rfl rfl rfl) (perm_front (i := 0) rfl) rfl ?_
    rintro u aq10 wq10 hf haq10 (hsq10 : St I w0 wq10 [Ch.blk g1 [.int .i64 p0.1, va0, va1] 25, F])
    obtain rfl := Eq.symm hf
    clear haq9 hsq9 aq9 wq9
    obtain ⟨r2, e2, hm⟩ := bind_some hm
    refine seq_op haq10 hsq10 rfl (opT_call (args := #[.agg #[.int .i64 p0.1, va0, va1]]) (first := #[]) (captured := #[]) en14 rfl rfl rfl (c_w_toAutomaton (p0.1, p0.2.1, p0.2.2) _ e2 va0 va1 ra0 ra1)) (List.Perm.refl _) rfl ?_
    rintro u aq11 wq11 ⟨v1, v2, rfl⟩ haq11 (hsq11 : St I w0 wq11 [Ch.own (rSlice 4 rBool) [v1] r2.2.1, Ch.own (rSlice 34 (rSlice 3 rInt)) [v2] r2.2.2, Ch.blk g1 [.int .i64 p0.1, va0, va1] 25, F])
    clear haq10 hsq10 aq10 wq10
    obtain ⟨r3, e3, hm⟩ := bind_some hm
    refine seq_op haq11 hsq11 rfl (OpT.lend (ls := [Ch.own (rSlice 4 rBool) [v1] r2.2.1, Ch.own (rSlice 34 (rSlice 3 rInt)) [v2] r2.2.2]) (gv := fun v => [Ch.own (rSlice 4 rBool) [vg v [1]] r3.2.1, Ch.own (rSlice 34 (rSlice 3 rInt)) [vg v [2]] r3.2.2]) (fun _ => ⟨dp_own (dp_slice dp_bool), dp_own (dp_slice (dp_slice dp_int)), trivial⟩) fun J hJ hl hb => opT_call (args := #[.agg #[.int .i64 r2.1, v1, v2]]) (first := #[]) (captured := #[]) en13 rfl rfl rfl (c_s_TrimAutomaton (r2.1, r2.2.1, r2.2.2) _ e3 v1 v2 (hl _ _ _ (List.Mem.head _)) (hl _ _ _ (List.Mem.tail _ (List.Mem.head _))))) (perm_sel [0, 1, 2, 3] (m := 4) rfl rfl) rfl ?_
    rintro u aq12 wq12 ⟨v3, v4, rfl⟩ haq12 (hsq12 : St I w0 wq12 [Ch.own (rSlice 4 rBool) [v3] r3.2.1, Ch.own (rSlice 34 (rSlice 3 rInt)) [v4] r3.2.2, Ch.own (rSlice 4 rBool) [v1] r2.2.1, Ch.own (rSlice 34 (rSlice 3 rInt)) [v2] r2.2.2, Ch.blk g1 [.int .i64 p0.1, va0, va1] 25, F])
    clear haq11 hsq11 aq11 wq11
    refine seq_op haq12 hsq12 rfl (opT_alloc (l := [.int .i64 0, .slice none 0 0, .slice none 0 0]) tz27 rfl rfl) (List.Perm.refl _) rfl ?_
    rintro _ aq13 wq13 ⟨g2, rfl⟩ haq13 (hsq13 : St I w0 wq13 [Ch.blk g2 [.int .i64 0, .slice none 0 0, .slice none 0 0] 27, Ch.own (rSlice 4 rBool) [v3] r3.2.1, Ch.own (rSlice 34 (rSlice 3 rInt)) [v4] r3.2.2, Ch.own (rSlice 4 rBool) [v1] r2.2.1, Ch.own (rSlice 34 (rSlice 3 rInt)) [v2] r2.2.2, Ch.blk g1 [.int .i64 p0.1, va0, va1] 25, F])
    clear haq12 hsq12 aq12 wq12
    refine seq_op haq13 hsq13 rfl (opT_store_blk (g := g2) (off := 0) (l := [.int .i64 0, .slice none 0 0, .slice none 0 0]) (d := [.int .i64 r3.1, v3, v4]) (E := 27) (u := .agg #[.int .i64 r3.1, v3, v4]) ti27 rfl rfl rfl rfl rfl (allC rfl (allC (Hd.one (St.hd hsq13 1 rfl).1) (allC (Hd.one (St.hd hsq13 2 rfl).1) allN))) (Nat.le_of_ble_eq_true rfl)) (perm_front (i := 0) rfl) rfl ?_
    rintro _ aq14 wq14 - haq14 (hsq14 : St I w0 wq14 [Ch.blk g2 [.int .i64 r3.1, v3, v4] 27, Ch.own (rSlice 4 rBool) [v3] r3.2.1, Ch.own (rSlice 34 (rSlice 3 rInt)) [v4] r3.2.2, Ch.own (rSlice 4 rBool) [v1] r2.2.1, Ch.own (rSlice 34 (rSlice 3 rInt)) [v2] r2.2.2, Ch.blk g1 [.int .i64 p0.1, va0, va1] 25, F])
    clear haq13 hsq13 aq13 wq13
    refine wpList_nil ?_
    replace haq14 := haq14.pick' (L' := [(1, .pointer (some ⟨g1, 0, none⟩)), (4, .pointer (some ⟨g2, 0, none⟩))]) ⟨rfl, rfl, trivial⟩
    refine nrm ?_
    refine wp_seq ?_
    refine wp_region_lit ?_
    refine seq_op haq14 hsq14 rfl (opT_load_blk (g := g1) (off := 0) (E := 25) (l := [.int .i64 p0.1, va0, va1]) (d := [.int .i64 p0.1, va0, va1]) (u := .agg #[.int .i64 p0.1, va0, va1]) ti25 rfl rfl rfl rfl rfl rfl) (perm_front (i := 5) rfl) rfl ?_
    rintro u aq15 wq15 hf haq15 (hsq15 : St I w0 wq15 [Ch.blk g1 [.int .i64 p0.1, va0, va1] 25, Ch.blk g2 [.int .i64 r3.1, v3, v4] 27, Ch.own (rSlice 4 rBool) [v3] r3.2.1, Ch.own (rSlice 34 (rSlice 3 rInt)) [v4] r3.2.2, Ch.own (rSlice 4 rBool) [v1] r2.2.1, Ch.own (rSlice 34 (rSlice 3 rInt)) [v2] r2.2.2, F])
    obtain rfl := Eq.symm hf
    clear haq14 hsq14 aq14 wq14
    obtain ⟨r4, e4, hm⟩ := bind_some hm
    refine seq_op haq15 hsq15 rfl (opT_call (args := #[.agg #[.int .i64 p0.1, va0, va1]]) (first := #[]) (captured := #[]) en14 rfl rfl rfl (c_w_toAutomaton (p0.1, p0.2.1, p0.2.2) _ e4 va0 va1 ra0 ra1)) (List.Perm.refl _) rfl ?_
    rintro u aq16 wq16 ⟨v5, v6, rfl⟩ haq16 (hsq16 : St I w0 wq16 [Ch.own (rSlice 4 rBool) [v5] r4.2.1, Ch.own (rSlice 34 (rSlice 3 rInt)) [v6] r4.2.2, Ch.blk g1 [.int .i64 p0.1, va0, va1] 25, Ch.blk g2 [.int .i64 r3.1, v3, v4] 27, Ch.own (rSlice 4 rBool) [v3] r3.2.1, Ch.own (rSlice 34 (rSlice 3 rInt)) [v4] r3.2.2, Ch.own (rSlice 4 rBool) [v1] r2.2.1, Ch.own (rSlice 34 (rSlice 3 rInt)) [v2] r2.2.2, F])
    clear haq15 hsq15 aq15 wq15
    refine seq_op haq16 hsq16 rfl (opT_alloc (l := [.int .i64 0, .slice none 0 0, .slice none 0 0]) tz27 rfl rfl) (List.Perm.refl _) rfl ?_
    rintro _ aq17 wq17 ⟨g3, rfl⟩ haq17 (hsq17 : St I w0 wq17 [Ch.blk g3 [.int .i64 0, .slice none 0 0, .slice none 0 0] 27, Ch.own (rSlice 4 rBool) [v5] r4.2.1, Ch.own (rSlice 34 (rSlice 3 rInt)) [v6] r4.2.2, Ch.blk g1 [.int .i64 p0.1, va0, va1] 25, Ch.blk g2 [.int .i64 r3.1, v3, v4] 27, Ch.own (rSlice 4 rBool) [v3] r3.2.1, Ch.own (rSlice 34 (rSlice 3 rInt)) [v4] r3.2.2, Ch.own (rSlice 4 rBool) [v1] r2.2.1, Ch.own (rSlice 34 (rSlice 3 rInt)) [v2] r2.2.2, F])
    clear haq16 hsq16 aq16 wq16
    refine seq_op haq17 hsq17 rfl (opT_store_blk (g := g3) (off := 0) (l := [.int .i64 0, .slice none 0 0, .slice none 0 0]) (d := [.int .i64 r4.1, v5, v6]) (E := 27) (u := .agg #[.int .i64 r4.1, v5, v6]) ti27 rfl rfl rfl rfl rfl (allC rfl (allC (Hd.one (St.hd hsq17 1 rfl).1) (allC (Hd.one (St.hd hsq17 2 rfl).1) allN))) (Nat.le_of_ble_eq_true rfl)) (perm_front (i := 0) rfl) rfl ?_
    rintro _ aq18 wq18 - haq18 (hsq18 : St I w0 wq18 [Ch.blk g3 [.int .i64 r4.1, v5, v6] 27, Ch.own (rSlice 4 rBool) [v5] r4.2.1, Ch.own (rSlice 34 (rSlice 3 rInt)) [v6] r4.2.2, Ch.blk g1 [.int .i64 p0.1, va0, va1] 25, Ch.blk g2 [.int .i64 r3.1, v3, v4] 27, Ch.own (rSlice 4 rBool) [v3] r3.2.1, Ch.own (rSlice 34 (rSlice 3 rInt)) [v4] r3.2.2, Ch.own (rSlice 4 rBool) [v1] r2.2.1, Ch.own (rSlice 34 (rSlice 3 rInt)) [v2] r2.2.2, F])
    clear haq17 hsq17 aq17 wq17
    refine wpList_nil ?_
    replace haq18 := haq18.pick' (L' := [(1, .pointer (some ⟨g1, 0, none⟩)), (4, .pointer (some ⟨g2, 0, none⟩)), (5, .pointer (some ⟨g3, 0, none⟩))]) ⟨rfl, rfl, rfl, trivial⟩
    refine nrm ?_
    refine wp_seq ?_
    refine wp_region_lit ?_
    refine seq_op haq18 hsq18 rfl (opT_load_blk (g := g3) (off := 0) (E := 27) (l := [.int .i64 r4.1, v5, v6]) (d := [.int .i64 r4.1, v5, v6]) (u := .agg #[.int .i64 r4.1, v5, v6]) ti27 rfl rfl rfl rfl rfl rfl) (perm_front (i := 0) rfl) rfl ?_
    rintro u aq19 wq19 hf haq19 (hsq19 : St I w0 wq19 [Ch.blk g3 [.int .i64 r4.1, v5, v6] 27, Ch.own (rSlice 4 rBool) [v5] r4.2.1, Ch.own (rSlice 34 (rSlice 3 rInt)) [v6] r4.2.2, Ch.blk g1 [.int .i64 p0.1, va0, va1] 25, Ch.blk g2 [.int .i64 r3.1, v3, v4] 27, Ch.own (rSlice 4 rBool) [v3] r3.2.1, Ch.own (rSlice 34 (rSlice 3 rInt)) [v4] r3.2.2, Ch.own (rSlice 4 rBool) [v1] r2.2.1, Ch.own (rSlice 34 (rSlice 3 rInt)) [v2] r2.2.2, F])
    obtain rfl := Eq.symm hf
    clear haq18 hsq18 aq18 wq18
    obtain ⟨r5, e5, hm⟩ := bind_some hm
    refine seq_op haq19 hsq19 rfl (OpT.lend (ls := [Ch.own (rSlice 4 rBool) [v5] r4.2.1, Ch.own (rSlice 34 (rSlice 3 rInt)) [v6] r4.2.2]) (gv := fun v => [Ch.own (rSlice 4 rBool) [vg v [1]] r5.2.1, Ch.own (rSlice 34 (rSlice 3 rInt)) [vg v [2]] r5.2.2]) (fun _ => ⟨dp_own (dp_slice dp_bool), dp_own (dp_slice (dp_slice dp_int)), trivial⟩) fun J hJ hl hb => opT_call (args := #[.agg #[.int .i64 r4.1, v5, v6]]) (first := #[]) (captured := #[]) en15 rfl rfl rfl (c_i_TrimAutomaton (r4.1, r4.2.1, r4.2.2) _ e5 v5 v6 (hl _ _ _ (List.Mem.head _)) (hl _ _ _ (List.Mem.tail _ (List.Mem.head _))))) (perm_sel [1, 2, 0, 3, 4, 5, 6, 7, 8, 9] (m := 10) rfl rfl) rfl ?_
    rintro u aq20 wq20 ⟨v7, v8, rfl⟩ haq20 (hsq20 : St I w0 wq20 [Ch.own (rSlice 4 rBool) [v7] r5.2.1, Ch.own (rSlice 34 (rSlice 3 rInt)) [v8] r5.2.2, Ch.own (rSlice 4 rBool) [v5] r4.2.1, Ch.own (rSlice 34 (rSlice 3 rInt)) [v6] r4.2.2, Ch.blk g3 [.int .i64 r4.1, v5, v6] 27, Ch.blk g1 [.int .i64 p0.1, va0, va1] 25, Ch.blk g2 [.int .i64 r3.1, v3, v4] 27, Ch.own (rSlice 4 rBool) [v3] r3.2.1, Ch.own (rSlice 34 (rSlice 3 rInt)) [v4] r3.2.2, Ch.own (rSlice 4 rBool) [v1] r2.2.1, Ch.own (rSlice 34 (rSlice 3 rInt)) [v2] r2.2.2, F])
    clear haq19 hsq19 aq19 wq19
    refine seq_op haq20 hsq20 rfl (opT_alloc (l := [.int .i64 0, .slice none 0 0, .slice none 0 0]) tz27 rfl rfl) (List.Perm.refl _) rfl ?_
    rintro _ aq21 wq21 ⟨g4, rfl⟩ haq21 (hsq21 : St I w0 wq21 [Ch.blk g4 [.int .i64 0, .slice none 0 0, .slice none 0 0] 27, Ch.own (rSlice 4 rBool) [v7] r5.2.1, Ch.own (rSlice 34 (rSlice 3 rInt)) [v8] r5.2.2, Ch.own (rSlice 4 rBool) [v5] r4.2.1, Ch.own (rSlice 34 (rSlice 3 rInt)) [v6] r4.2.2, Ch.blk g3 [.int .i64 r4.1, v5, v6] 27, Ch.blk g1 [.int .i64 p0.1, va0, va1] 25, Ch.blk g2 [.int .i64 r3.1, v3, v4] 27, Ch.own (rSlice 4 rBool) [v3] r3.2.1, Ch.own (rSlice 34 (rSlice 3 rInt)) [v4] r3.2.2, Ch.own (rSlice 4 rBool) [v1] r2.2.1, Ch.own (rSlice 34 (rSlice 3 rInt)) [v2] r2.2.2, F])
    clear haq20 hsq20 aq20 wq20
    refine seq_op haq21 hsq21 rfl (opT_store_blk (g := g4) (off := 0) (l := [.int .i64 0, .slice none 0 0, .slice none 0 0]) (d := [.int .i64 r5.1, v7, v8]) (E := 27) (u := .agg #[.int .i64 r5.1, v7, v8]) ti27 rfl rfl rfl rfl rfl (allC rfl (allC (Hd.one (St.hd hsq21 1 rfl).1) (allC (Hd.one (St.hd hsq21 2 rfl).1) allN))) (Nat.le_of_ble_eq_true rfl)) (perm_front (i := 0) rfl) rfl ?_
    rintro _ aq22 wq22 - haq22 (hsq22 : St I w0 wq22 [Ch.blk g4 [.int .i64 r5.1, v7, v8] 27, Ch.own (rSlice 4 rBool) [v7] r5.2.1, Ch.own (rSlice 34 (rSlice 3 rInt)) [v8] r5.2.2, Ch.own (rSlice 4 rBool) [v5] r4.2.1, Ch.own (rSlice 34 (rSlice 3 rInt)) [v6] r4.2.2, Ch.blk g3 [.int .i64 r4.1, v5, v6] 27, Ch.blk g1 [.int .i64 p0.1, va0, va1] 25, Ch.blk g2 [.int .i64 r3.1, v3, v4] 27, Ch.own (rSlice 4 rBool) [v3] r3.2.1, Ch.own (rSlice 34 (rSlice 3 rInt)) [v4] r3.2.2, Ch.own (rSlice 4 rBool) [v1] r2.2.1, Ch.own (rSlice 34 (rSlice 3 rInt)) [v2] r2.2.2, F])
    clear haq21 hsq21 aq21 wq21
    refine wpList_nil ?_
    replace haq22 := haq22.pick' (L' := [(1, .pointer (some ⟨g1, 0, none⟩)), (4, .pointer (some ⟨g2, 0, none⟩)), (5, .pointer (some ⟨g3, 0, none⟩)), (6, .pointer (some ⟨g4, 0, none⟩))]) ⟨rfl, rfl, rfl, rfl, trivial⟩
    refine nrm ?_
    refine wp_seq ?_
    refine wp_seq ?_
    refine wp_region_lit ?_
    refine seq_op haq22 hsq22 rfl (opT_load_blk (g := g4) (off := 0) (E := 27) (l := [.int .i64 r5.1, v7, v8]) (d := [.int .i64 r5.1, v7, v8]) (u := .agg #[.int .i64 r5.1, v7, v8]) ti27 rfl rfl rfl rfl rfl rfl) (perm_front (i := 0) rfl) rfl ?_
    rintro u aq23 wq23 hf haq23 (hsq23 : St I w0 wq23 [Ch.blk g4 [.int .i64 r5.1, v7, v8] 27, Ch.own (rSlice 4 rBool) [v7] r5.2.1, Ch.own (rSlice 34 (rSlice 3 rInt)) [v8] r5.2.2, Ch.own (rSlice 4 rBool) [v5] r4.2.1, Ch.own (rSlice 34 (rSlice 3 rInt)) [v6] r4.2.2, Ch.blk g3 [.int .i64 r4.1, v5, v6] 27, Ch.blk g1 [.int .i64 p0.1, va0, va1] 25, Ch.blk g2 [.int .i64 r3.1, v3, v4] 27, Ch.own (rSlice 4 rBool) [v3] r3.2.1, Ch.own (rSlice 34 (rSlice 3 rInt)) [v4] r3.2.2, Ch.own (rSlice 4 rBool) [v1] r2.2.1, Ch.own (rSlice 34 (rSlice 3 rInt)) [v2] r2.2.2, F])
    obtain rfl := Eq.symm hf
    clear haq22 hsq22 aq22 wq22
    refine seq_op haq23 hsq23 rfl (opT_load_blk (g := g2) (off := 0) (E := 27) (l := [.int .i64 r3.1, v3, v4]) (d := [.int .i64 r3.1, v3, v4]) (u := .agg #[.int .i64 r3.1, v3, v4]) ti27 rfl rfl rfl rfl rfl rfl) (perm_front (i := 7) rfl) rfl ?_
    rintro u aq24 wq24 hf haq24 (hsq24 : St I w0 wq24 [Ch.blk g2 [.int .i64 r3.1, v3, v4] 27, Ch.blk g4 [.int .i64 r5.1, v7, v8] 27, Ch.own (rSlice 4 rBool) [v7] r5.2.1, Ch.own (rSlice 34 (rSlice 3 rInt)) [v8] r5.2.2, Ch.own (rSlice 4 rBool) [v5] r4.2.1, Ch.own (rSlice 34 (rSlice 3 rInt)) [v6] r4.2.2, Ch.blk g3 [.int .i64 r4.1, v5, v6] 27, Ch.blk g1 [.int .i64 p0.1, va0, va1] 25, Ch.own (rSlice 4 rBool) [v3] r3.2.1, Ch.own (rSlice 34 (rSlice 3 rInt)) [v4] r3.2.2, Ch.own (rSlice 4 rBool) [v1] r2.2.1, Ch.own (rSlice 34 (rSlice 3 rInt)) [v2] r2.2.2, F])
    obtain rfl := Eq.symm hf
    clear haq23 hsq23 aq23 wq23
    obtain ⟨r6, e6, hm⟩ := bind_some hm
    refine seq_op haq24 hsq24 rfl (OpT.lend (ls := [Ch.own (rSlice 4 rBool) [v7] r5.2.1, Ch.own (rSlice 34 (rSlice 3 rInt)) [v8] r5.2.2, Ch.own (rSlice 4 rBool) [v3] r3.2.1, Ch.own (rSlice 34 (rSlice 3 rInt)) [v4] r3.2.2]) (gv := fun v => []) (fun _ => trivial) fun J hJ hl hb => opT_call (args := #[.agg #[.int .i64 r5.1, v7, v8], .agg #[.int .i64 r3.1, v3, v4]]) (first := #[]) (captured := #[]) en16 rfl rfl rfl (c_w_eqAutomaton (r5.1, r5.2.1, r5.2.2) (r3.1, r3.2.1, r3.2.2) _ e6 v7 v8 v3 v4 (hl _ _ _ (List.Mem.head _)) (hl _ _ _ (List.Mem.tail _ (List.Mem.head _))) (hl _ _ _ (List.Mem.tail _ (List.Mem.tail _ (List.Mem.head _)))) (hl _ _ _ (List.Mem.tail _ (List.Mem.tail _ (List.Mem.tail _ (List.Mem.head _))))))) (perm_sel [2, 3, 8, 9, 0, 1, 4, 5, 6, 7, 10, 11, 12] (m := 13) rfl rfl) rfl ?_
    rintro u aq25 wq25 hf haq25 (hsq25 : St I w0 wq25 [Ch.own (rSlice 4 rBool) [v7] r5.2.1, Ch.own (rSlice 34 (rSlice 3 rInt)) [v8] r5.2.2, Ch.own (rSlice 4 rBool) [v3] r3.2.1, Ch.own (rSlice 34 (rSlice 3 rInt)) [v4] r3.2.2, Ch.blk g2 [.int .i64 r3.1, v3, v4] 27, Ch.blk g4 [.int .i64 r5.1, v7, v8] 27, Ch.own (rSlice 4 rBool) [v5] r4.2.1, Ch.own (rSlice 34 (rSlice 3 rInt)) [v6] r4.2.2, Ch.blk g3 [.int .i64 r4.1, v5, v6] 27, Ch.blk g1 [.int .i64 p0.1, va0, va1] 25, Ch.own (rSlice 4 rBool) [v1] r2.2.1, Ch.own (rSlice 34 (rSlice 3 rInt)) [v2] r2.2.2, F])
    obtain rfl := Eq.symm hf
    clear haq24 hsq24 aq24 wq24
    refine seq_op0 haq25 hsq25 (opT_not (b := r6) rfl rfl) rfl rfl ?_
    rintro u aq26 wq26 hf haq26 hsq26
    obtain rfl := Eq.symm hf
    clear haq25 hsq25 aq25 wq25
    refine wpList_nil ?_
    replace haq26 := haq26.pick' (L' := [(1, .pointer (some ⟨g1, 0, none⟩)), (4, .pointer (some ⟨g2, 0, none⟩)), (5, .pointer (some ⟨g3, 0, none⟩)), (6, .pointer (some ⟨g4, 0, none⟩)), (26, .bool (!r6))]) ⟨rfl, rfl, rfl, rfl, rfl, trivial⟩
    refine nrm ?_
    rcases two (r6) with hb2 | hb2
    · replace hm := ifFe hb2 hm
      refine cnd_true (b := !r6) haq26 rfl rfl (notT hb2) ?_
      refine wp_seq ?_
      refine wp_region_lit ?_
      refine seq_op0 haq26 hsq26 (opT_assign (v := .bool false) rfl rfl) rfl rfl ?_
      rintro u aq27 wq27 hf haq27 hsq27
      obtain rfl := Eq.symm hf
      clear haq26 hsq26 aq26 wq26
      refine wpList_nil ?_
      replace haq27 := haq27.pick' (L' := [(2, .bool false)]) ⟨rfl, trivial⟩
      refine nrm ?_
      refine wp_ret ?_
      refine thenR ?_
      obtain rfl := Option.some.inj hm
      exact ret_1 haq27 rfl (res_tmp haq27 rfl) ⟨_, rfl, rfl, _, Hp.le.rfl, St.sel (hsq27) 13 [12] rfl rfl⟩
    · replace hm := ifTe hb2 hm
      refine cnd_false (b := !r6) haq26 rfl rfl (notF hb2) ?_
      refine wp_skip ?_
      refine nrm ?_
      refine wp_seq ?_
      refine wp_seq ?_
      obtain ⟨r7, e7, hm⟩ := bind_some hm
      obtain ⟨r8, e8, hm⟩ := bind_some hm
      refine wp_draw (L := [(1, .pointer (some ⟨g1, 0, none⟩)), (4, .pointer (some ⟨g2, 0, none⟩)), (5, .pointer (some ⟨g3, 0, none⟩)), (6, .pointer (some ⟨g4, 0, none⟩)), (26, .bool (!r6))]) (C := [Ch.own (rSlice 4 rBool) [v7] r5.2.1, Ch.own (rSlice 34 (rSlice 3 rInt)) [v8] r5.2.2, Ch.own (rSlice 4 rBool) [v3] r3.2.1, Ch.own (rSlice 34 (rSlice 3 rInt)) [v4] r3.2.2, Ch.blk g2 [.int .i64 r3.1, v3, v4] 27, Ch.blk g4 [.int .i64 r5.1, v7, v8] 27, Ch.own (rSlice 4 rBool) [v1] r2.2.1, Ch.own (rSlice 34 (rSlice 3 rInt)) [v2] r2.2.2, F]) { ops := [⟨[0], [], [], [0], fun | [xo0] => xo0 = .agg #[.int .i64 r4.1, v5, v6] | _ => True, [(5, none)]⟩, ⟨[1], [], [], [1], fun | [xo1] => xo1 = .agg #[.int .i64 p0.1, va0, va1] | _ => True, [(1, none)]⟩, ⟨[], [], [4, 5], [2], fun | [xo2] => xo2 = .agg #[.int .i64 r7.1, (vg xo2 [1]), (vg xo2 [2])] ∧ Hd (vg xo2 [1]) (r7.2.1).length ∧ Hd (vg xo2 [2]) (r7.2.2).length | _ => True, [(28, some 1)]⟩, ⟨[2, 3, 4, 5], [], [], [3], fun | [xo3] => xo3 = .bool r8 | _ => True, [(27, some 0), (29, some 2)]⟩, ⟨[], [], [], [4], fun | [xo4] => xo4 = .bool (!r8) | _ => True, [(30, some 3)]⟩], res := [⟨[], fun _ => Ch.blk g3 [.int .i64 r4.1, v5, v6] 27⟩, ⟨[], fun _ => Ch.blk g1 [.int .i64 p0.1, va0, va1] 25⟩, ⟨[], fun _ => Ch.own (rSlice 4 rBool) [v5] r4.2.1⟩, ⟨[], fun _ => Ch.own (rSlice 34 (rSlice 3 rInt)) [v6] r4.2.2⟩, ⟨[2], fun | [xo2] => Ch.own (rSlice 4 rBool) [(vg xo2 [1])] r7.2.1 | _ => Ch.fr (fun _ => none) []⟩, ⟨[2], fun | [xo2] => Ch.own (rSlice 34 (rSlice 3 rInt)) [(vg xo2 [2])] r7.2.2 | _ => Ch.fr (fun _ => none) []⟩], base := [0, 1, 2, 3], pre := [[], [], [1], [0, 1, 2], [0, 1, 2, 3]], fin := [(1, none), (4, none), (5, none), (6, none), (31, some 4)], left := [0, 1, 2, 3, 4, 5] } (by kernel_rfl) haq26 hsq26 (perm_sel [8, 9, 6, 7, 0, 1, 2, 3, 4, 5, 10, 11, 12] (m := 13) rfl rfl) (by kernel_rfl) (by kernel_rfl) ?_ ?_
      · exact ⟨Plan.goal_run fun vs hf => ⟨wants_none rfl, OpT.conv (OpT.evs (ev' := evL [(5, .pointer (some ⟨g3, 0, none⟩))]) (opT_load_blk (g := g3) (off := 0) (E := 27) (l := [.int .i64 r4.1, v5, v6]) (d := [.int .i64 r4.1, v5, v6]) (u := .agg #[.int .i64 r4.1, v5, v6]) ti27 rfl rfl rfl rfl rfl rfl) rfl [.tmp 5] rfl ⟨rfl, trivial⟩) rfl (fun _ h => Eq.trans h rfl) (fun _ => rfl)⟩, Plan.goal_run fun vs hf => ⟨wants_none rfl, OpT.conv (OpT.evs (ev' := evL [(1, .pointer (some ⟨g1, 0, none⟩))]) (opT_load_blk (g := g1) (off := 0) (E := 25) (l := [.int .i64 p0.1, va0, va1]) (d := [.int .i64 p0.1, va0, va1]) (u := .agg #[.int .i64 p0.1, va0, va1]) ti25 rfl rfl rfl rfl rfl rfl) rfl [.tmp 1] rfl ⟨rfl, trivial⟩) rfl (fun _ h => Eq.trans h rfl) (fun _ => rfl)⟩, Plan.goal_run fun vs hf => ⟨wants_none rfl, OpT.conv (OpT.evs (ev' := evL [(28, .agg #[.int .i64 p0.1, va0, va1])]) (OpT.hdk (E := 4) (R := rBool) (xs := r7.2.1) (fun v => vg v [1]) 0 (fun _ => rfl) (OpT.hdk (E := 34) (R := rSlice 3 rInt) (xs := r7.2.2) (fun v => vg v [2]) 1 (fun _ => rfl) (opT_call (args := #[.agg #[.int .i64 p0.1, va0, va1]]) (first := #[]) (captured := #[]) en14 rfl rfl rfl (c_w_toAutomaton (p0.1, p0.2.1, p0.2.2) _ e7 va0 va1 ra0 ra1)))) rfl [.func 14, .tmp 28] rfl ⟨rfl, (hf 1 (mb rfl)), trivial⟩) rfl (fun _ h => by obtain ⟨⟨h, k1⟩, k0⟩ := h; obtain ⟨_, _, rfl⟩ := h; exact ⟨rfl, k0, k1⟩) (fun _ => rfl)⟩, Plan.goal_run fun vs hf => ⟨wants_none rfl, OpT.conv (OpT.evs (ev' := evL [(27, .agg #[.int .i64 r4.1, v5, v6]), (29, .agg #[.int .i64 r7.1, (vg (vs 2) [1]), (vg (vs 2) [2])])]) (OpT.lend (ls := [Ch.own (rSlice 4 rBool) [v5] r4.2.1, Ch.own (rSlice 34 (rSlice 3 rInt)) [v6] r4.2.2, Ch.own (rSlice 4 rBool) [(vg (vs 2) [1])] r7.2.1, Ch.own (rSlice 34 (rSlice 3 rInt)) [(vg (vs 2) [2])] r7.2.2]) (gv := fun v => []) (fun _ => trivial) fun J hJ hl hb => opT_call (args := #[.agg #[.int .i64 r4.1, v5, v6], .agg #[.int .i64 r7.1, (vg (vs 2) [1]), (vg (vs 2) [2])]]) (first := #[]) (captured := #[]) en16 rfl rfl rfl (c_w_eqAutomaton (r4.1, r4.2.1, r4.2.2) (r7.1, r7.2.1, r7.2.2) _ e8 v5 v6 (vg (vs 2) [1]) (vg (vs 2) [2]) (hl _ _ _ (List.Mem.head _)) (hl _ _ _ (List.Mem.tail _ (List.Mem.head _))) (hl _ _ _ (List.Mem.tail _ (List.Mem.tail _ (List.Mem.head _)))) (hl _ _ _ (List.Mem.tail _ (List.Mem.tail _ (List.Mem.tail _ (List.Mem.head _))))))) rfl [.func 16, .tmp 27, .tmp 29] rfl ⟨rfl, (hf 0 (mb rfl)), (hf 2 (mb rfl)).1, trivial⟩) rfl (fun _ h => h) (fun _ => rfl)⟩, Plan.goal_run fun vs hf => ⟨wants_none rfl, OpT.conv (OpT.evs (ev' := evL [(30, .bool r8)]) (opT_not (b := r8) rfl rfl) rfl [.tmp 30] rfl ⟨(hf 3 (mb rfl)), trivial⟩) rfl (fun _ h => Eq.trans h rfl) (fun _ => rfl)⟩, trivial⟩
      intro vs aq28 wq28 hf haq28 hsq28
      clear haq26 hsq26
      replace haq28 := haq28.pick' (L' := [(1, .pointer (some ⟨g1, 0, none⟩)), (4, .pointer (some ⟨g2, 0, none⟩)), (5, .pointer (some ⟨g3, 0, none⟩)), (6, .pointer (some ⟨g4, 0, none⟩)), (31, .bool (!r8))]) ⟨rfl, rfl, rfl, rfl, (congrArg some (show _ = _ from (hf 4 (Nat.le_of_ble_eq_true rfl)))), trivial⟩
      replace hsq28 : St I w0 wq28 [Ch.blk g3 [.int .i64 r4.1, v5, v6] 27, Ch.blk g1 [.int .i64 p0.1, va0, va1] 25, Ch.own (rSlice 4 rBool) [v5] r4.2.1, Ch.own (rSlice 34 (rSlice 3 rInt)) [v6] r4.2.2, Ch.own (rSlice 4 rBool) [(vg (vs 2) [1])] r7.2.1, Ch.own (rSlice 34 (rSlice 3 rInt)) [(vg (vs 2) [2])] r7.2.2, Ch.own (rSlice 4 rBool) [v7] r5.2.1, Ch.own (rSlice 34 (rSlice 3 rInt)) [v8] r5.2.2, Ch.own (rSlice 4 rBool) [v3] r3.2.1, Ch.own (rSlice 34 (rSlice 3 rInt)) [v4] r3.2.2, Ch.blk g2 [.int .i64 r3.1, v3, v4] 27, Ch.blk g4 [.int .i64 r5.1, v7, v8] 27, Ch.own (rSlice 4 rBool) [v1] r2.2.1, Ch.own (rSlice 34 (rSlice 3 rInt)) [v2] r2.2.2, F] := hsq28
      obtain ⟨v9, ea1⟩ : ∃ x, x = (vg (vs 2) [1]) := ⟨_, rfl⟩
      try rw [← ea1] at haq28
      try rw [← ea1] at hsq28
      clear ea1
      obtain ⟨v10, ea2⟩ : ∃ x, x = (vg (vs 2) [2]) := ⟨_, rfl⟩
      try rw [← ea2] at haq28
      try rw [← ea2] at hsq28
      clear ea2
      clear hf vs
      refine nrm ?_
      rcases two (r8) with hb3 | hb3
      · replace hm := ifFe hb3 hm
        refine cnd_true (b := !r8) haq28 rfl rfl (notT hb3) ?_
        refine wp_seq ?_
        refine wp_region_lit ?_
        refine seq_op0 haq28 hsq28 (opT_assign (v := .bool false) rfl rfl) rfl rfl ?_
        rintro u aq29 wq29 hf haq29 hsq29
        obtain rfl := Eq.symm hf
        clear haq28 hsq28 aq28 wq28
        refine wpList_nil ?_
        replace haq29 := haq29.pick' (L' := [(2, .bool false)]) ⟨rfl, trivial⟩
        refine nrm ?_
        refine wp_ret ?_
        refine thenR ?_
        obtain rfl := Option.some.inj hm
        exact ret_1 haq29 rfl (res_tmp haq29 rfl) ⟨_, rfl, rfl, _, Hp.le.rfl, St.sel (hsq29) 15 [14] rfl rfl⟩
      · replace hm := ifTe hb3 hm
        refine cnd_false (b := !r8) haq28 rfl rfl (notF hb3) ?_
        refine wp_skip ?_
        refine nrm ?_
        refine wp_seq ?_
        refine wp_region_lit ?_
        refine seq_op0 haq28 hsq28 (opT_assign (v := .int .i64 1) rfl rfl) rfl rfl ?_
        rintro u aq30 wq30 hf haq30 hsq30
        obtain rfl := Eq.symm hf
        clear haq28 hsq28 aq28 wq28
        refine wpList_nil ?_
        replace haq30 := haq30.pick' (L' := [(1, .pointer (some ⟨g1, 0, none⟩)), (4, .pointer (some ⟨g2, 0, none⟩)), (5, .pointer (some ⟨g3, 0, none⟩)), (6, .pointer (some ⟨g4, 0, none⟩)), (7, .int .i64 1)]) ⟨rfl, rfl, rfl, rfl, rfl, trivial⟩
        refine nrm ?_
        refine wp_seq ?_
        refine wp_region_lit ?_
        refine seq_op haq30 hsq30 rfl (opT_load_blk (g := g3) (off := 0) (E := 27) (l := [.int .i64 r4.1, v5, v6]) (d := [.int .i64 r4.1, v5, v6]) (u := .agg #[.int .i64 r4.1, v5, v6]) ti27 rfl rfl rfl rfl rfl rfl) (perm_front (i := 0) rfl) rfl ?_
        rintro u aq31 wq31 hf haq31 (hsq31 : St I w0 wq31 [Ch.blk g3 [.int .i64 r4.1, v5, v6] 27, Ch.blk g1 [.int .i64 p0.1, va0, va1] 25, Ch.own (rSlice 4 rBool) [v5] r4.2.1, Ch.own (rSlice 34 (rSlice 3 rInt)) [v6] r4.2.2, Ch.own (rSlice 4 rBool) [v9] r7.2.1, Ch.own (rSlice 34 (rSlice 3 rInt)) [v10] r7.2.2, Ch.own (rSlice 4 rBool) [v7] r5.2.1, Ch.own (rSlice 34 (rSlice 3 rInt)) [v8] r5.2.2, Ch.own (rSlice 4 rBool) [v3] r3.2.1, Ch.own (rSlice 34 (rSlice 3 rInt)) [v4] r3.2.2, Ch.blk g2 [.int .i64 r3.1, v3, v4] 27, Ch.blk g4 [.int .i64 r5.1, v7, v8] 27, Ch.own (rSlice 4 rBool) [v1] r2.2.1, Ch.own (rSlice 34 (rSlice 3 rInt)) [v2] r2.2.2, F])
        obtain rfl := Eq.symm hf
        clear haq30 hsq30 aq30 wq30
        refine seq_op0 haq31 hsq31 (opT_move (v := .int .i64 1) rfl rfl) rfl rfl ?_
        rintro u aq32 wq32 hf haq32 hsq32
        obtain rfl := Eq.symm hf
        clear haq31 hsq31 aq31 wq31
        obtain ⟨r9, e9, hm⟩ := bind_some hm
        refine seq_op haq32 hsq32 rfl (opT_call (args := #[.agg #[.int .i64 r4.1, v5, v6], .int .i64 1]) (first := #[]) (captured := #[]) en17 rfl rfl rfl (c_w_markAutomaton (r4.1, r4.2.1, r4.2.2) 1 _ e9 v5 v6)) (perm_sel [2, 3, 0, 1, 4, 5, 6, 7, 8, 9, 10, 11, 12, 13, 14] (m := 15) rfl rfl) rfl ?_
        rintro u aq33 wq33 hf haq33 (hsq33 : St I w0 wq33 [Ch.own (rSlice 4 rBool) [v5] r9.2.1, Ch.own (rSlice 34 (rSlice 3 rInt)) [v6] r9.2.2, Ch.blk g3 [.int .i64 r4.1, v5, v6] 27, Ch.blk g1 [.int .i64 p0.1, va0, va1] 25, Ch.own (rSlice 4 rBool) [v9] r7.2.1, Ch.own (rSlice 34 (rSlice 3 rInt)) [v10] r7.2.2, Ch.own (rSlice 4 rBool) [v7] r5.2.1, Ch.own (rSlice 34 (rSlice 3 rInt)) [v8] r5.2.2, Ch.own (rSlice 4 rBool) [v3] r3.2.1, Ch.own (rSlice 34 (rSlice 3 rInt)) [v4] r3.2.2, Ch.blk g2 [.int .i64 r3.1, v3, v4] 27, Ch.blk g4 [.int .i64 r5.1, v7, v8] 27, Ch.own (rSlice 4 rBool) [v1] r2.2.1, Ch.own (rSlice 34 (rSlice 3 rInt)) [v2] r2.2.2, F])
        obtain rfl := Eq.symm hf
        clear haq32 hsq32 aq32 wq32
        refine seq_op0 haq33 hsq33 (opT_assign (v := .int .i64 r9.1) rfl rfl) rfl rfl ?_
        rintro u aq34 wq34 hf haq34 hsq34
        obtain rfl := Eq.symm hf
        clear haq33 hsq33 aq33 wq33
        refine wpList_nil ?_
        replace haq34 := haq34.pick' (L' := [(1, .pointer (some ⟨g1, 0, none⟩)), (4, .pointer (some ⟨g2, 0, none⟩)), (6, .pointer (some ⟨g4, 0, none⟩)), (7, .int .i64 r9.1)]) ⟨rfl, rfl, rfl, rfl, trivial⟩
        refine nrm ?_
        refine wp_seq ?_
        refine wp_seq ?_
        refine wp_region_lit ?_
        refine seq_op0 haq34 hsq34 (opT_move (v := .int .i64 r9.1) rfl rfl) rfl rfl ?_
        rintro u aq35 wq35 hf haq35 hsq35
        obtain rfl := Eq.symm hf
        clear haq34 hsq34 aq34 wq34
        refine seq_op0 haq35 hsq35 (opT_cmp (k := .i64) (m := r9.1) (n := 0) (c := decide (r9.1 < 0)) rfl rfl rfl rfl rfl) rfl rfl ?_
        rintro u aq36 wq36 hf haq36 hsq36
        obtain rfl := Eq.symm hf
        clear haq35 hsq35 aq35 wq35
        refine seq_op0 haq36 hsq36 (opT_move (v := .bool (decide (r9.1 < 0))) rfl rfl) rfl rfl ?_
        rintro u aq37 wq37 hf haq37 hsq37
        obtain rfl := Eq.symm hf
        clear haq36 hsq36 aq36 wq36
        rcases two (decide (r9.1 < 0)) with hb4 | hb4
        · replace hm := ifFe hb4 hm
          refine seq_op_g (g := 2) (d := 37) (want := false) (b := decide (r9.1 < 0)) haq37 hsq37 rfl rfl rfl hb4 (opT_load_blk (g := g4) (off := 0) (E := 27) (l := [.int .i64 r5.1, v7, v8]) (d := [.int .i64 r5.1, v7, v8]) (u := .agg #[.int .i64 r5.1, v7, v8]) ti27 rfl rfl rfl rfl rfl rfl) (perm_front (i := 11) rfl) rfl ?_
          rintro u aq38 wq38 hf haq38 (hsq38 : St I w0 wq38 [Ch.blk g4 [.int .i64 r5.1, v7, v8] 27, Ch.own (rSlice 4 rBool) [v5] r9.2.1, Ch.own (rSlice 34 (rSlice 3 rInt)) [v6] r9.2.2, Ch.blk g3 [.int .i64 r4.1, v5, v6] 27, Ch.blk g1 [.int .i64 p0.1, va0, va1] 25, Ch.own (rSlice 4 rBool) [v9] r7.2.1, Ch.own (rSlice 34 (rSlice 3 rInt)) [v10] r7.2.2, Ch.own (rSlice 4 rBool) [v7] r5.2.1, Ch.own (rSlice 34 (rSlice 3 rInt)) [v8] r5.2.2, Ch.own (rSlice 4 rBool) [v3] r3.2.1, Ch.own (rSlice 34 (rSlice 3 rInt)) [v4] r3.2.2, Ch.blk g2 [.int .i64 r3.1, v3, v4] 27, Ch.own (rSlice 4 rBool) [v1] r2.2.1, Ch.own (rSlice 34 (rSlice 3 rInt)) [v2] r2.2.2, F])
          obtain rfl := Eq.symm hf
          clear haq37 hsq37 aq37 wq37
          refine seq_op_g (g := 2) (d := 37) (want := false) (b := decide (r9.1 < 0)) haq38 hsq38 rfl rfl rfl hb4 (opT_load_blk (g := g2) (off := 0) (E := 27) (l := [.int .i64 r3.1, v3, v4]) (d := [.int .i64 r3.1, v3, v4]) (u := .agg #[.int .i64 r3.1, v3, v4]) ti27 rfl rfl rfl rfl rfl rfl) (perm_front (i := 11) rfl) rfl ?_
          rintro u aq39 wq39 hf haq39 (hsq39 : St I w0 wq39 [Ch.blk g2 [.int .i64 r3.1, v3, v4] 27, Ch.blk g4 [.int .i64 r5.1, v7, v8] 27, Ch.own (rSlice 4 rBool) [v5] r9.2.1, Ch.own (rSlice 34 (rSlice 3 rInt)) [v6] r9.2.2, Ch.blk g3 [.int .i64 r4.1, v5, v6] 27, Ch.blk g1 [.int .i64 p0.1, va0, va1] 25, Ch.own (rSlice 4 rBool) [v9] r7.2.1, Ch.own (rSlice 34 (rSlice 3 rInt)) [v10] r7.2.2, Ch.own (rSlice 4 rBool) [v7] r5.2.1, Ch.own (rSlice 34 (rSlice 3 rInt)) [v8] r5.2.2, Ch.own (rSlice 4 rBool) [v3] r3.2.1, Ch.own (rSlice 34 (rSlice 3 rInt)) [v4] r3.2.2, Ch.own (rSlice 4 rBool) [v1] r2.2.1, Ch.own (rSlice 34 (rSlice 3 rInt)) [v2] r2.2.2, F])
          obtain rfl := Eq.symm hf
          clear haq38 hsq38 aq38 wq38
          obtain ⟨r10, e10, hm⟩ := bind_some hm
          refine seq_op_g (g := 2) (d := 37) (want := false) (b := decide (r9.1 < 0)) haq39 hsq39 rfl rfl rfl hb4 (OpT.lend (ls := [Ch.own (rSlice 4 rBool) [v7] r5.2.1, Ch.own (rSlice 34 (rSlice 3 rInt)) [v8] r5.2.2, Ch.own (rSlice 4 rBool) [v3] r3.2.1, Ch.own (rSlice 34 (rSlice 3 rInt)) [v4] r3.2.2]) (gv := fun v => []) (fun _ => trivial) fun J hJ hl hb => opT_call (args := #[.agg #[.int .i64 r5.1, v7, v8], .agg #[.int .i64 r3.1, v3, v4]]) (first := #[]) (captured := #[]) en16 rfl rfl rfl (c_w_eqAutomaton (r5.1, r5.2.1, r5.2.2) (r3.1, r3.2.1, r3.2.2) _ e10 v7 v8 v3 v4 (hl _ _ _ (List.Mem.head _)) (hl _ _ _ (List.Mem.tail _ (List.Mem.head _))) (hl _ _ _ (List.Mem.tail _ (List.Mem.tail _ (List.Mem.head _)))) (hl _ _ _ (List.Mem.tail _ (List.Mem.tail _ (List.Mem.tail _ (List.Mem.head _))))))) (perm_sel [8, 9, 10, 11, 0, 1, 2, 3, 4, 5, 6, 7, 12, 13, 14] (m := 15) rfl rfl) rfl ?_
          rintro u aq40 wq40 hf haq40 (hsq40 : St I w0 wq40 [Ch.own (rSlice 4 rBool) [v7] r5.2.1, Ch.own (rSlice 34 (rSlice 3 rInt)) [v8] r5.2.2, Ch.own (rSlice 4 rBool) [v3] r3.2.1, Ch.own (rSlice 34 (rSlice 3 rInt)) [v4] r3.2.2, Ch.blk g2 [.int .i64 r3.1, v3, v4] 27, Ch.blk g4 [.int .i64 r5.1, v7, v8] 27, Ch.own (rSlice 4 rBool) [v5] r9.2.1, Ch.own (rSlice 34 (rSlice 3 rInt)) [v6] r9.2.2, Ch.blk g3 [.int .i64 r4.1, v5, v6] 27, Ch.blk g1 [.int .i64 p0.1, va0, va1] 25, Ch.own (rSlice 4 rBool) [v9] r7.2.1, Ch.own (rSlice 34 (rSlice 3 rInt)) [v10] r7.2.2, Ch.own (rSlice 4 rBool) [v1] r2.2.1, Ch.own (rSlice 34 (rSlice 3 rInt)) [v2] r2.2.2, F])
          obtain rfl := Eq.symm hf
          clear haq39 hsq39 aq39 wq39
          refine seq_op_g0 (g := 2) (d := 37) (want := false) (b := decide (r9.1 < 0)) haq40 hsq40 rfl rfl rfl hb4 (opT_not (b := r10) rfl rfl) rfl ?_
          rintro u aq41 wq41 hf haq41 hsq41
          obtain rfl := Eq.symm hf
          clear haq40 hsq40 aq40 wq40
          refine seq_op0 haq41 hsq41 (opT_pick (b := decide (r9.1 < 0)) (v := .bool (!r10)) rfl rfl (ifF hb4)) rfl rfl ?_
          rintro u aq42 wq42 hf haq42 hsq42
          obtain rfl := Eq.symm hf
          clear haq41 hsq41 aq41 wq41
          refine wpList_nil ?_
          replace haq42 := haq42.pick' (L' := [(1, .pointer (some ⟨g1, 0, none⟩)), (4, .pointer (some ⟨g2, 0, none⟩)), (6, .pointer (some ⟨g4, 0, none⟩)), (42, .bool (!r10))]) ⟨rfl, rfl, rfl, rfl, trivial⟩
          refine nrm ?_
          rcases two (r10) with hb5 | hb5
          · replace hm := ifFe hb5 hm
            refine cnd_true (b := !r10) haq42 rfl rfl (notT hb5) ?_
            refine wp_seq ?_
            refine wp_region_lit ?_
            refine seq_op0 haq42 hsq42 (opT_assign (v := .bool false) rfl rfl) rfl rfl ?_
            rintro u aq43 wq43 hf haq43 hsq43
            obtain rfl := Eq.symm hf
            clear haq42 hsq42 aq42 wq42
            refine wpList_nil ?_
            replace haq43 := haq43.pick' (L' := [(2, .bool false)]) ⟨rfl, trivial⟩
            refine nrm ?_
            refine wp_ret ?_
            refine thenR ?_
            obtain rfl := Option.some.inj hm
            exact ret_1 haq43 rfl (res_tmp haq43 rfl) ⟨_, rfl, rfl, _, Hp.le.rfl, St.sel (hsq43) 15 [14] rfl rfl⟩
          · replace hm := ifTe hb5 hm
            refine cnd_false (b := !r10) haq42 rfl rfl (notF hb5) ?_
            refine wp_skip ?_
            refine nrm ?_
            refine wp_seq ?_
            refine wp_region_lit ?_
            refine seq_op0 haq42 hsq42 (opT_assign (v := .int .i64 1) rfl rfl) rfl rfl ?_
            rintro u aq44 wq44 hf haq44 hsq44
            obtain rfl := Eq.symm hf
            clear haq42 hsq42 aq42 wq42
            refine wpList_nil ?_
            replace haq44 := haq44.pick' (L' := [(1, .pointer (some ⟨g1, 0, none⟩)), (4, .pointer (some ⟨g2, 0, none⟩)), (6, .pointer (some ⟨g4, 0, none⟩)), (8, .int .i64 1)]) ⟨rfl, rfl, rfl, rfl, trivial⟩
            refine nrm ?_
            refine wp_seq ?_
            refine wp_region_lit ?_
            refine seq_op haq44 hsq44 rfl (opT_load_blk (g := g4) (off := 0) (E := 27) (l := [.int .i64 r5.1, v7, v8]) (d := [.int .i64 r5.1, v7, v8]) (u := .agg #[.int .i64 r5.1, v7, v8]) ti27 rfl rfl rfl rfl rfl rfl) (perm_front (i := 5) rfl) rfl ?_
            rintro u aq45 wq45 hf haq45 (hsq45 : St I w0 wq45 [Ch.blk g4 [.int .i64 r5.1, v7, v8] 27, Ch.own (rSlice 4 rBool) [v7] r5.2.1, Ch.own (rSlice 34 (rSlice 3 rInt)) [v8] r5.2.2, Ch.own (rSlice 4 rBool) [v3] r3.2.1, Ch.own (rSlice 34 (rSlice 3 rInt)) [v4] r3.2.2, Ch.blk g2 [.int .i64 r3.1, v3, v4] 27, Ch.own (rSlice 4 rBool) [v5] r9.2.1, Ch.own (rSlice 34 (rSlice 3 rInt)) [v6] r9.2.2, Ch.blk g3 [.int .i64 r4.1, v5, v6] 27, Ch.blk g1 [.int .i64 p0.1, va0, va1] 25, Ch.own (rSlice 4 rBool) [v9] r7.2.1, Ch.own (rSlice 34 (rSlice 3 rInt)) [v10] r7.2.2, Ch.own (rSlice 4 rBool) [v1] r2.2.1, Ch.own (rSlice 34 (rSlice 3 rInt)) [v2] r2.2.2, F])
            obtain rfl := Eq.symm hf
            clear haq44 hsq44 aq44 wq44
            refine seq_op0 haq45 hsq45 (opT_move (v := .int .i64 1) rfl rfl) rfl rfl ?_
            rintro u aq46 wq46 hf haq46 hsq46
            obtain rfl := Eq.symm hf
            clear haq45 hsq45 aq45 wq45
            obtain ⟨r11, e11, hm⟩ := bind_some hm
            refine seq_op haq46 hsq46 rfl (opT_call (args := #[.agg #[.int .i64 r5.1, v7, v8], .int .i64 1]) (first := #[]) (captured := #[]) en17 rfl rfl rfl (c_w_markAutomaton (r5.1, r5.2.1, r5.2.2) 1 _ e11 v7 v8)) (perm_sel [1, 2, 0, 3, 4, 5, 6, 7, 8, 9, 10, 11, 12, 13, 14] (m := 15) rfl rfl) rfl ?_
            rintro u aq47 wq47 hf haq47 (hsq47 : St I w0 wq47 [Ch.own (rSlice 4 rBool) [v7] r11.2.1, Ch.own (rSlice 34 (rSlice 3 rInt)) [v8] r11.2.2, Ch.blk g4 [.int .i64 r5.1, v7, v8] 27, Ch.own (rSlice 4 rBool) [v3] r3.2.1, Ch.own (rSlice 34 (rSlice 3 rInt)) [v4] r3.2.2, Ch.blk g2 [.int .i64 r3.1, v3, v4] 27, Ch.own (rSlice 4 rBool) [v5] r9.2.1, Ch.own (rSlice 34 (rSlice 3 rInt)) [v6] r9.2.2, Ch.blk g3 [.int .i64 r4.1, v5, v6] 27, Ch.blk g1 [.int .i64 p0.1, va0, va1] 25, Ch.own (rSlice 4 rBool) [v9] r7.2.1, Ch.own (rSlice 34 (rSlice 3 rInt)) [v10] r7.2.2, Ch.own (rSlice 4 rBool) [v1] r2.2.1, Ch.own (rSlice 34 (rSlice 3 rInt)) [v2] r2.2.2, F])
            obtain rfl := Eq.symm hf
            clear haq46 hsq46 aq46 wq46
            refine seq_op0 haq47 hsq47 (opT_assign (v := .int .i64 r11.1) rfl rfl) rfl rfl ?_
            rintro u aq48 wq48 hf haq48 hsq48
            obtain rfl := Eq.symm hf
            clear haq47 hsq47 aq47 wq47
            refine wpList_nil ?_
            replace haq48 := haq48.pick' (L' := [(1, .pointer (some ⟨g1, 0, none⟩)), (4, .pointer (some ⟨g2, 0, none⟩)), (6, .pointer (some ⟨g4, 0, none⟩)), (8, .int .i64 r11.1)]) ⟨rfl, rfl, rfl, rfl, trivial⟩
            refine nrm ?_
            refine wp_seq ?_
            refine wp_region_lit ?_
            refine seq_op0 haq48 hsq48 (opT_assign (v := .int .i64 1) rfl rfl) rfl rfl ?_
            rintro u aq49 wq49 hf haq49 hsq49
            obtain rfl := Eq.symm hf
            clear haq48 hsq48 aq48 wq48
            refine wpList_nil ?_
            replace haq49 := haq49.pick' (L' := [(1, .pointer (some ⟨g1, 0, none⟩)), (4, .pointer (some ⟨g2, 0, none⟩)), (6, .pointer (some ⟨g4, 0, none⟩)), (8, .int .i64 r11.1), (9, .int .i64 1)]) ⟨rfl, rfl, rfl, rfl, rfl, trivial⟩
            refine nrm ?_
            refine wp_seq ?_
            refine wp_region_lit ?_
            refine seq_op haq49 hsq49 rfl (opT_load_blk (g := g4) (off := 0) (E := 27) (l := [.int .i64 r5.1, v7, v8]) (d := [.int .i64 r5.1, v7, v8]) (u := .agg #[.int .i64 r5.1, v7, v8]) ti27 rfl rfl rfl rfl rfl rfl) (perm_front (i := 2) rfl) rfl ?_
            rintro u aq50 wq50 hf haq50 (hsq50 : St I w0 wq50 [Ch.blk g4 [.int .i64 r5.1, v7, v8] 27, Ch.own (rSlice 4 rBool) [v7] r11.2.1, Ch.own (rSlice 34 (rSlice 3 rInt)) [v8] r11.2.2, Ch.own (rSlice 4 rBool) [v3] r3.2.1, Ch.own (rSlice 34 (rSlice 3 rInt)) [v4] r3.2.2, Ch.blk g2 [.int .i64 r3.1, v3, v4] 27, Ch.own (rSlice 4 rBool) [v5] r9.2.1, Ch.own (rSlice 34 (rSlice 3 rInt)) [v6] r9.2.2, Ch.blk g3 [.int .i64 r4.1, v5, v6] 27, Ch.blk g1 [.int .i64 p0.1, va0, va1] 25, Ch.own (rSlice 4 rBool) [v9] r7.2.1, Ch.own (rSlice 34 (rSlice 3 rInt)) [v10] r7.2.2, Ch.own (rSlice 4 rBool) [v1] r2.2.1, Ch.own (rSlice 34 (rSlice 3 rInt)) [v2] r2.2.2, F])
            obtain rfl := Eq.symm hf
            clear haq49 hsq49 aq49 wq49
            refine seq_op0 haq50 hsq50 (opT_move (v := .int .i64 1) rfl rfl) rfl rfl ?_
            rintro u aq51 wq51 hf haq51 hsq51
            obtain rfl := Eq.symm hf
            clear haq50 hsq50 aq50 wq50
            obtain ⟨r12, e12, hm⟩ := bind_some hm
            refine seq_op haq51 hsq51 rfl (OpT.lend (ls := [Ch.own (rSlice 4 rBool) [v7] r11.2.1, Ch.own (rSlice 34 (rSlice 3 rInt)) [v8] r11.2.2]) (gv := fun v => []) (fun _ => trivial) fun J hJ hl hb => opT_call (args := #[.agg #[.int .i64 r5.1, v7, v8], .int .i64 1]) (first := #[]) (captured := #[]) en18 rfl rfl rfl (c_w_heldAutomaton (r5.1, r11.2.1, r11.2.2) 1 _ e12 v7 v8 (hl _ _ _ (List.Mem.head _)) (hl _ _ _ (List.Mem.tail _ (List.Mem.head _))))) (perm_sel [1, 2, 0, 3, 4, 5, 6, 7, 8, 9, 10, 11, 12, 13, 14] (m := 15) rfl rfl) rfl ?_
            rintro u aq52 wq52 hf haq52 (hsq52 : St I w0 wq52 [Ch.own (rSlice 4 rBool) [v7] r11.2.1, Ch.own (rSlice 34 (rSlice 3 rInt)) [v8] r11.2.2, Ch.blk g4 [.int .i64 r5.1, v7, v8] 27, Ch.own (rSlice 4 rBool) [v3] r3.2.1, Ch.own (rSlice 34 (rSlice 3 rInt)) [v4] r3.2.2, Ch.blk g2 [.int .i64 r3.1, v3, v4] 27, Ch.own (rSlice 4 rBool) [v5] r9.2.1, Ch.own (rSlice 34 (rSlice 3 rInt)) [v6] r9.2.2, Ch.blk g3 [.int .i64 r4.1, v5, v6] 27, Ch.blk g1 [.int .i64 p0.1, va0, va1] 25, Ch.own (rSlice 4 rBool) [v9] r7.2.1, Ch.own (rSlice 34 (rSlice 3 rInt)) [v10] r7.2.2, Ch.own (rSlice 4 rBool) [v1] r2.2.1, Ch.own (rSlice 34 (rSlice 3 rInt)) [v2] r2.2.2, F])
            obtain rfl := Eq.symm hf
            clear haq51 hsq51 aq51 wq51
            refine seq_op0 haq52 hsq52 (opT_assign (v := .int .i64 r12) rfl rfl) rfl rfl ?_
            rintro u aq53 wq53 hf haq53 hsq53
            obtain rfl := Eq.symm hf
            clear haq52 hsq52 aq52 wq52
            refine wpList_nil ?_
            replace haq53 := haq53.pick' (L' := [(1, .pointer (some ⟨g1, 0, none⟩)), (4, .pointer (some ⟨g2, 0, none⟩)), (6, .pointer (some ⟨g4, 0, none⟩)), (8, .int .i64 r11.1), (9, .int .i64 r12)]) ⟨rfl, rfl, rfl, rfl, rfl, trivial⟩
            refine nrm ?_
            refine wp_seq ?_
            refine wp_seq ?_
            refine wp_region_lit ?_
            refine seq_op0 haq53 hsq53 (opT_move (v := .int .i64 r12) rfl rfl) rfl rfl ?_
            rintro u aq54 wq54 hf haq54 hsq54
            obtain rfl := Eq.symm hf
            clear haq53 hsq53 aq53 wq53
            refine seq_op0 haq54 hsq54 (opT_cmp (k := .i64) (m := r12) (n := 0) (c := decide (r12 < 0)) rfl rfl rfl rfl rfl) rfl rfl ?_
            rintro u aq55 wq55 hf haq55 hsq55
            obtain rfl := Eq.symm hf
            clear haq54 hsq54 aq54 wq54
            refine wpList_nil ?_
            replace haq55 := haq55.pick' (L' := [(1, .pointer (some ⟨g1, 0, none⟩)), (4, .pointer (some ⟨g2, 0, none⟩)), (6, .pointer (some ⟨g4, 0, none⟩)), (8, .int .i64 r11.1), (9, .int .i64 r12), (50, .bool (decide (r12 < 0)))]) ⟨rfl, rfl, rfl, rfl, rfl, rfl, trivial⟩
            refine nrm ?_
            rcases two (decide (r12 < 0)) with hb6 | hb6
            · replace hm := ifFe hb6 hm
              refine cnd_false (b := decide (r12 < 0)) haq55 rfl rfl hb6 ?_
              refine wp_skip ?_
              refine nrm ?_
              refine wp_seq ?_
              refine wp_seq ?_
              refine wp_region_lit ?_
              refine seq_op0 haq55 hsq55 (opT_move (v := .int .i64 r12) rfl rfl) rfl rfl ?_
              rintro u aq56 wq56 hf haq56 hsq56
              obtain rfl := Eq.symm hf
              clear haq55 hsq55 aq55 wq55
              refine seq_op0 haq56 hsq56 (opT_move (v := .int .i64 r11.1) rfl rfl) rfl rfl ?_
              rintro u aq57 wq57 hf haq57 hsq57
              obtain rfl := Eq.symm hf
              clear haq56 hsq56 aq56 wq56
              refine seq_op0 haq57 hsq57 (opT_cmp (k := .i64) (m := r12) (n := r11.1) (c := r12 != r11.1) rfl rfl rfl rfl rfl) rfl rfl ?_
              rintro u aq58 wq58 hf haq58 hsq58
              obtain rfl := Eq.symm hf
              clear haq57 hsq57 aq57 wq57
              refine wpList_nil ?_
              replace haq58 := haq58.pick' (L' := [(1, .pointer (some ⟨g1, 0, none⟩)), (4, .pointer (some ⟨g2, 0, none⟩)), (6, .pointer (some ⟨g4, 0, none⟩)), (8, .int .i64 r11.1), (53, .bool (r12 != r11.1))]) ⟨rfl, rfl, rfl, rfl, rfl, trivial⟩
              refine nrm ?_
              rcases two (r12 != r11.1) with hb7 | hb7
              · replace hm := ifFe hb7 hm
                refine cnd_false (b := r12 != r11.1) haq58 rfl rfl hb7 ?_
                refine wp_skip ?_
                refine nrm ?_
                refine wp_seq ?_
                refine wp_region_lit ?_
                refine seq_op haq58 hsq58 rfl (opT_load_blk (g := g1) (off := 0) (E := 25) (l := [.int .i64 p0.1, va0, va1]) (d := [.int .i64 p0.1, va0, va1]) (u := .agg #[.int .i64 p0.1, va0, va1]) ti25 rfl rfl rfl rfl rfl rfl) (perm_front (i := 9) rfl) rfl ?_
                rintro u aq59 wq59 hf haq59 (hsq59 : St I w0 wq59 [Ch.blk g1 [.int .i64 p0.1, va0, va1] 25, Ch.own (rSlice 4 rBool) [v7] r11.2.1, Ch.own (rSlice 34 (rSlice 3 rInt)) [v8] r11.2.2, Ch.blk g4 [.int .i64 r5.1, v7, v8] 27, Ch.own (rSlice 4 rBool) [v3] r3.2.1, Ch.own (rSlice 34 (rSlice 3 rInt)) [v4] r3.2.2, Ch.blk g2 [.int .i64 r3.1, v3, v4] 27, Ch.own (rSlice 4 rBool) [v5] r9.2.1, Ch.own (rSlice 34 (rSlice 3 rInt)) [v6] r9.2.2, Ch.blk g3 [.int .i64 r4.1, v5, v6] 27, Ch.own (rSlice 4 rBool) [v9] r7.2.1, Ch.own (rSlice 34 (rSlice 3 rInt)) [v10] r7.2.2, Ch.own (rSlice 4 rBool) [v1] r2.2.1, Ch.own (rSlice 34 (rSlice 3 rInt)) [v2] r2.2.2, F])
                obtain rfl := Eq.symm hf
                clear haq58 hsq58 aq58 wq58
                obtain ⟨r13, e13, hm⟩ := bind_some hm
                refine seq_op haq59 hsq59 rfl (opT_call (args := #[.agg #[.int .i64 p0.1, va0, va1]]) (first := #[]) (captured := #[]) en14 rfl rfl rfl (c_w_toAutomaton (p0.1, p0.2.1, p0.2.2) _ e13 va0 va1 ra0 ra1)) (List.Perm.refl _) rfl ?_
                rintro u aq60 wq60 ⟨v11, v12, rfl⟩ haq60 (hsq60 : St I w0 wq60 [Ch.own (rSlice 4 rBool) [v11] r13.2.1, Ch.own (rSlice 34 (rSlice 3 rInt)) [v12] r13.2.2, Ch.blk g1 [.int .i64 p0.1, va0, va1] 25, Ch.own (rSlice 4 rBool) [v7] r11.2.1, Ch.own (rSlice 34 (rSlice 3 rInt)) [v8] r11.2.2, Ch.blk g4 [.int .i64 r5.1, v7, v8] 27, Ch.own (rSlice 4 rBool) [v3] r3.2.1, Ch.own (rSlice 34 (rSlice 3 rInt)) [v4] r3.2.2, Ch.blk g2 [.int .i64 r3.1, v3, v4] 27, Ch.own (rSlice 4 rBool) [v5] r9.2.1, Ch.own (rSlice 34 (rSlice 3 rInt)) [v6] r9.2.2, Ch.blk g3 [.int .i64 r4.1, v5, v6] 27, Ch.own (rSlice 4 rBool) [v9] r7.2.1, Ch.own (rSlice 34 (rSlice 3 rInt)) [v10] r7.2.2, Ch.own (rSlice 4 rBool) [v1] r2.2.1, Ch.own (rSlice 34 (rSlice 3 rInt)) [v2] r2.2.2, F])
                clear haq59 hsq59 aq59 wq59
                obtain ⟨r14, e14, hm⟩ := bind_some hm
                refine seq_op haq60 hsq60 rfl (OpT.lend (ls := [Ch.own (rSlice 4 rBool) [v11] r13.2.1, Ch.own (rSlice 34 (rSlice 3 rInt)) [v12] r13.2.2]) (gv := fun v => [Ch.own (rSlice 4 rBool) [vg v [1]] r14.2.1, Ch.own (rSlice 34 (rSlice 3 rInt)) [vg v [2]] r14.2.2]) (fun _ => ⟨dp_own (dp_slice dp_bool), dp_own (dp_slice (dp_slice dp_int)), trivial⟩) fun J hJ hl hb => opT_call (args := #[.agg #[.int .i64 r13.1, v11, v12]]) (first := #[]) (captured := #[]) en15 rfl rfl rfl (c_i_TrimAutomaton (r13.1, r13.2.1, r13.2.2) _ e14 v11 v12 (hl _ _ _ (List.Mem.head _)) (hl _ _ _ (List.Mem.tail _ (List.Mem.head _))))) (perm_sel [0, 1, 2, 3, 4, 5, 6, 7, 8, 9, 10, 11, 12, 13, 14, 15, 16] (m := 17) rfl rfl) rfl ?_
                rintro u aq61 wq61 ⟨v13, v14, rfl⟩ haq61 (hsq61 : St I w0 wq61 [Ch.own (rSlice 4 rBool) [v13] r14.2.1, Ch.own (rSlice 34 (rSlice 3 rInt)) [v14] r14.2.2, Ch.own (rSlice 4 rBool) [v11] r13.2.1, Ch.own (rSlice 34 (rSlice 3 rInt)) [v12] r13.2.2, Ch.blk g1 [.int .i64 p0.1, va0, va1] 25, Ch.own (rSlice 4 rBool) [v7] r11.2.1, Ch.own (rSlice 34 (rSlice 3 rInt)) [v8] r11.2.2, Ch.blk g4 [.int .i64 r5.1, v7, v8] 27, Ch.own (rSlice 4 rBool) [v3] r3.2.1, Ch.own (rSlice 34 (rSlice 3 rInt)) [v4] r3.2.2, Ch.blk g2 [.int .i64 r3.1, v3, v4] 27, Ch.own (rSlice 4 rBool) [v5] r9.2.1, Ch.own (rSlice 34 (rSlice 3 rInt)) [v6] r9.2.2, Ch.blk g3 [.int .i64 r4.1, v5, v6] 27, Ch.own (rSlice 4 rBool) [v9] r7.2.1, Ch.own (rSlice 34 (rSlice 3 rInt)) [v10] r7.2.2, Ch.own (rSlice 4 rBool) [v1] r2.2.1, Ch.own (rSlice 34 (rSlice 3 rInt)) [v2] r2.2.2, F])
                clear haq60 hsq60 aq60 wq60
                refine seq_op haq61 hsq61 rfl (opT_alloc (l := [.int .i64 0, .slice none 0 0, .slice none 0 0]) tz27 rfl rfl) (List.Perm.refl _) rfl ?_
                rintro _ aq62 wq62 ⟨g5, rfl⟩ haq62 (hsq62 : St I w0 wq62 [Ch.blk g5 [.int .i64 0, .slice none 0 0, .slice none 0 0] 27, Ch.own (rSlice 4 rBool) [v13] r14.2.1, Ch.own (rSlice 34 (rSlice 3 rInt)) [v14] r14.2.2, Ch.own (rSlice 4 rBool) [v11] r13.2.1, Ch.own (rSlice 34 (rSlice 3 rInt)) [v12] r13.2.2, Ch.blk g1 [.int .i64 p0.1, va0, va1] 25, Ch.own (rSlice 4 rBool) [v7] r11.2.1, Ch.own (rSlice 34 (rSlice 3 rInt)) [v8] r11.2.2, Ch.blk g4 [.int .i64 r5.1, v7, v8] 27, Ch.own (rSlice 4 rBool) [v3] r3.2.1, Ch.own (rSlice 34 (rSlice 3 rInt)) [v4] r3.2.2, Ch.blk g2 [.int .i64 r3.1, v3, v4] 27, Ch.own (rSlice 4 rBool) [v5] r9.2.1, Ch.own (rSlice 34 (rSlice 3 rInt)) [v6] r9.2.2, Ch.blk g3 [.int .i64 r4.1, v5, v6] 27, Ch.own (rSlice 4 rBool) [v9] r7.2.1, Ch.own (rSlice 34 (rSlice 3 rInt)) [v10] r7.2.2, Ch.own (rSlice 4 rBool) [v1] r2.2.1, Ch.own (rSlice 34 (rSlice 3 rInt)) [v2] r2.2.2, F])
                clear haq61 hsq61 aq61 wq61
                refine seq_op haq62 hsq62 rfl (opT_store_blk (g := g5) (off := 0) (l := [.int .i64 0, .slice none 0 0, .slice none 0 0]) (d := [.int .i64 r14.1, v13, v14]) (E := 27) (u := .agg #[.int .i64 r14.1, v13, v14]) ti27 rfl rfl rfl rfl rfl (allC rfl (allC (Hd.one (St.hd hsq62 1 rfl).1) (allC (Hd.one (St.hd hsq62 2 rfl).1) allN))) (Nat.le_of_ble_eq_true rfl)) (perm_front (i := 0) rfl) rfl ?_
                rintro _ aq63 wq63 - haq63 (hsq63 : St I w0 wq63 [Ch.blk g5 [.int .i64 r14.1, v13, v14] 27, Ch.own (rSlice 4 rBool) [v13] r14.2.1, Ch.own (rSlice 34 (rSlice 3 rInt)) [v14] r14.2.2, Ch.own (rSlice 4 rBool) [v11] r13.2.1, Ch.own (rSlice 34 (rSlice 3 rInt)) [v12] r13.2.2, Ch.blk g1 [.int .i64 p0.1, va0, va1] 25, Ch.own (rSlice 4 rBool) [v7] r11.2.1, Ch.own (rSlice 34 (rSlice 3 rInt)) [v8] r11.2.2, Ch.blk g4 [.int .i64 r5.1, v7, v8] 27, Ch.own (rSlice 4 rBool) [v3] r3.2.1, Ch.own (rSlice 34 (rSlice 3 rInt)) [v4] r3.2.2, Ch.blk g2 [.int .i64 r3.1, v3, v4] 27, Ch.own (rSlice 4 rBool) [v5] r9.2.1, Ch.own (rSlice 34 (rSlice 3 rInt)) [v6] r9.2.2, Ch.blk g3 [.int .i64 r4.1, v5, v6] 27, Ch.own (rSlice 4 rBool) [v9] r7.2.1, Ch.own (rSlice 34 (rSlice 3 rInt)) [v10] r7.2.2, Ch.own (rSlice 4 rBool) [v1] r2.2.1, Ch.own (rSlice 34 (rSlice 3 rInt)) [v2] r2.2.2, F])
                clear haq62 hsq62 aq62 wq62
                refine wpList_nil ?_
                replace haq63 := haq63.pick' (L' := [(4, .pointer (some ⟨g2, 0, none⟩)), (6, .pointer (some ⟨g4, 0, none⟩)), (8, .int .i64 r11.1), (10, .pointer (some ⟨g5, 0, none⟩))]) ⟨rfl, rfl, rfl, rfl, trivial⟩
                refine nrm ?_
                refine wp_seq ?_
                refine wp_seq ?_
                refine wp_region_lit ?_
                refine seq_op haq63 hsq63 rfl (opT_load_blk (g := g5) (off := 0) (E := 27) (l := [.int .i64 r14.1, v13, v14]) (d := [.int .i64 r14.1, v13, v14]) (u := .agg #[.int .i64 r14.1, v13, v14]) ti27 rfl rfl rfl rfl rfl rfl) (perm_front (i := 0) rfl) rfl ?_
                rintro u aq64 wq64 hf haq64 (hsq64 : St I w0 wq64 [Ch.blk g5 [.int .i64 r14.1, v13, v14] 27, Ch.own (rSlice 4 rBool) [v13] r14.2.1, Ch.own (rSlice 34 (rSlice 3 rInt)) [v14] r14.2.2, Ch.own (rSlice 4 rBool) [v11] r13.2.1, Ch.own (rSlice 34 (rSlice 3 rInt)) [v12] r13.2.2, Ch.blk g1 [.int .i64 p0.1, va0, va1] 25, Ch.own (rSlice 4 rBool) [v7] r11.2.1, Ch.own (rSlice 34 (rSlice 3 rInt)) [v8] r11.2.2, Ch.blk g4 [.int .i64 r5.1, v7, v8] 27, Ch.own (rSlice 4 rBool) [v3] r3.2.1, Ch.own (rSlice 34 (rSlice 3 rInt)) [v4] r3.2.2, Ch.blk g2 [.int .i64 r3.1, v3, v4] 27, Ch.own (rSlice 4 rBool) [v5] r9.2.1, Ch.own (rSlice 34 (rSlice 3 rInt)) [v6] r9.2.2, Ch.blk g3 [.int .i64 r4.1, v5, v6] 27, Ch.own (rSlice 4 rBool) [v9] r7.2.1, Ch.own (rSlice 34 (rSlice 3 rInt)) [v10] r7.2.2, Ch.own (rSlice 4 rBool) [v1] r2.2.1, Ch.own (rSlice 34 (rSlice 3 rInt)) [v2] r2.2.2, F])
                obtain rfl := Eq.symm hf
                clear haq63 hsq63 aq63 wq63
                refine seq_op haq64 hsq64 rfl (opT_load_blk (g := g2) (off := 0) (E := 27) (l := [.int .i64 r3.1, v3, v4]) (d := [.int .i64 r3.1, v3, v4]) (u := .agg #[.int .i64 r3.1, v3, v4]) ti27 rfl rfl rfl rfl rfl rfl) (perm_front (i := 11) rfl) rfl ?_
                rintro u aq65 wq65 hf haq65 (hsq65 : St I w0 wq65 [Ch.blk g2 [.int .i64 r3.1, v3, v4] 27, Ch.blk g5 [.int .i64 r14.1, v13, v14] 27, Ch.own (rSlice 4 rBool) [v13] r14.2.1, Ch.own (rSlice 34 (rSlice 3 rInt)) [v14] r14.2.2, Ch.own (rSlice 4 rBool) [v11] r13.2.1, Ch.own (rSlice 34 (rSlice 3 rInt)) [v12] r13.2.2, Ch.blk g1 [.int .i64 p0.1, va0, va1] 25, Ch.own (rSlice 4 rBool) [v7] r11.2.1, Ch.own (rSlice 34 (rSlice 3 rInt)) [v8] r11.2.2, Ch.blk g4 [.int .i64 r5.1, v7, v8] 27, Ch.own (rSlice 4 rBool) [v3] r3.2.1, Ch.own (rSlice 34 (rSlice 3 rInt)) [v4] r3.2.2, Ch.own (rSlice 4 rBool) [v5] r9.2.1, Ch.own (rSlice 34 (rSlice 3 rInt)) [v6] r9.2.2, Ch.blk g3 [.int .i64 r4.1, v5, v6] 27, Ch.own (rSlice 4 rBool) [v9] r7.2.1, Ch.own (rSlice 34 (rSlice 3 rInt)) [v10] r7.2.2, Ch.own (rSlice 4 rBool) [v1] r2.2.1, Ch.own (rSlice 34 (rSlice 3 rInt)) [v2] r2.2.2, F])
                obtain rfl := Eq.symm hf
                clear haq64 hsq64 aq64 wq64
                obtain ⟨r15, e15, hm⟩ := bind_some hm
                refine seq_op haq65 hsq65 rfl (OpT.lend (ls := [Ch.own (rSlice 4 rBool) [v13] r14.2.1, Ch.own (rSlice 34 (rSlice 3 rInt)) [v14] r14.2.2, Ch.own (rSlice 4 rBool) [v3] r3.2.1, Ch.own (rSlice 34 (rSlice 3 rInt)) [v4] r3.2.2]) (gv := fun v => []) (fun _ => trivial) fun J hJ hl hb => opT_call (args := #[.agg #[.int .i64 r14.1, v13, v14], .agg #[.int .i64 r3.1, v3, v4]]) (first := #[]) (captured := #[]) en16 rfl rfl rfl (c_w_eqAutomaton (r14.1, r14.2.1, r14.2.2) (r3.1, r3.2.1, r3.2.2) _ e15 v13 v14 v3 v4 (hl _ _ _ (List.Mem.head _)) (hl _ _ _ (List.Mem.tail _ (List.Mem.head _))) (hl _ _ _ (List.Mem.tail _ (List.Mem.tail _ (List.Mem.head _)))) (hl _ _ _ (List.Mem.tail _ (List.Mem.tail _ (List.Mem.tail _ (List.Mem.head _))))))) (perm_sel [2, 3, 10, 11, 0, 1, 4, 5, 6, 7, 8, 9, 12, 13, 14, 15, 16, 17, 18, 19] (m := 20) rfl rfl) rfl ?_
                rintro u aq66 wq66 hf haq66 (hsq66 : St I w0 wq66 [Ch.own (rSlice 4 rBool) [v13] r14.2.1, Ch.own (rSlice 34 (rSlice 3 rInt)) [v14] r14.2.2, Ch.own (rSlice 4 rBool) [v3] r3.2.1, Ch.own (rSlice 34 (rSlice 3 rInt)) [v4] r3.2.2, Ch.blk g2 [.int .i64 r3.1, v3, v4] 27, Ch.blk g5 [.int .i64 r14.1, v13, v14] 27, Ch.own (rSlice 4 rBool) [v11] r13.2.1, Ch.own (rSlice 34 (rSlice 3 rInt)) [v12] r13.2.2, Ch.blk g1 [.int .i64 p0.1, va0, va1] 25, Ch.own (rSlice 4 rBool) [v7] r11.2.1, Ch.own (rSlice 34 (rSlice 3 rInt)) [v8] r11.2.2, Ch.blk g4 [.int .i64 r5.1, v7, v8] 27, Ch.own (rSlice 4 rBool) [v5] r9.2.1, Ch.own (rSlice 34 (rSlice 3 rInt)) [v6] r9.2.2, Ch.blk g3 [.int .i64 r4.1, v5, v6] 27, Ch.own (rSlice 4 rBool) [v9] r7.2.1, Ch.own (rSlice 34 (rSlice 3 rInt)) [v10] r7.2.2, Ch.own (rSlice 4 rBool) [v1] r2.2.1, Ch.own (rSlice 34 (rSlice 3 rInt)) [v2] r2.2.2, F])
                obtain rfl := Eq.symm hf
                clear haq65 hsq65 aq65 wq65
                refine seq_op0 haq66 hsq66 (opT_not (b := r15) rfl rfl) rfl rfl ?_
                rintro u aq67 wq67 hf haq67 hsq67
                obtain rfl := Eq.symm hf
                clear haq66 hsq66 aq66 wq66
                refine wpList_nil ?_
                replace haq67 := haq67.pick' (L' := [(6, .pointer (some ⟨g4, 0, none⟩)), (8, .int .i64 r11.1), (60, .bool (!r15))]) ⟨rfl, rfl, rfl, trivial⟩
                refine nrm ?_
                rcases two (r15) with hb8 | hb8
                · replace hm := ifFe hb8 hm
                  refine cnd_true (b := !r15) haq67 rfl rfl (notT hb8) ?_
                  refine wp_seq ?_
                  refine wp_region_lit ?_
                  refine seq_op0 haq67 hsq67 (opT_assign (v := .bool false) rfl rfl) rfl rfl ?_
                  rintro u aq68 wq68 hf haq68 hsq68
                  obtain rfl := Eq.symm hf
                  clear haq67 hsq67 aq67 wq67
                  refine wpList_nil ?_
                  replace haq68 := haq68.pick' (L' := [(2, .bool false)]) ⟨rfl, trivial⟩
                  refine nrm ?_
                  refine wp_ret ?_
                  refine thenR ?_
                  obtain rfl := Option.some.inj hm
                  exact ret_1 haq68 rfl (res_tmp haq68 rfl) ⟨_, rfl, rfl, _, Hp.le.rfl, St.sel (hsq68) 20 [19] rfl rfl⟩
                · replace hm := ifTe hb8 hm
                  refine cnd_false (b := !r15) haq67 rfl rfl (notF hb8) ?_
                  refine wp_skip ?_
                  refine nrm ?_
                  refine wp_seq ?_
                  refine wp_region_lit ?_
                  refine seq_op0 haq67 hsq67 (opT_assign (v := .int .i64 1) rfl rfl) rfl rfl ?_
                  rintro u aq69 wq69 hf haq69 hsq69
                  obtain rfl := Eq.symm hf
                  clear haq67 hsq67 aq67 wq67
                  refine wpList_nil ?_
                  replace haq69 := haq69.pick' (L' := [(6, .pointer (some ⟨g4, 0, none⟩)), (8, .int .i64 r11.1), (9, .int .i64 1)]) ⟨rfl, rfl, rfl, trivial⟩
                  refine nrm ?_
                  refine wp_seq ?_
                  refine wp_region_lit ?_
                  refine seq_op haq69 hsq69 rfl (opT_load_blk (g := g4) (off := 0) (E := 27) (l := [.int .i64 r5.1, v7, v8]) (d := [.int .i64 r5.1, v7, v8]) (u := .agg #[.int .i64 r5.1, v7, v8]) ti27 rfl rfl rfl rfl rfl rfl) (perm_front (i := 11) rfl) rfl ?_
                  rintro u aq70 wq70 hf haq70 (hsq70 : St I w0 wq70 [Ch.blk g4 [.int .i64 r5.1, v7, v8] 27, Ch.own (rSlice 4 rBool) [v13] r14.2.1, Ch.own (rSlice 34 (rSlice 3 rInt)) [v14] r14.2.2, Ch.own (rSlice 4 rBool) [v3] r3.2.1, Ch.own (rSlice 34 (rSlice 3 rInt)) [v4] r3.2.2, Ch.blk g2 [.int .i64 r3.1, v3, v4] 27, Ch.blk g5 [.int .i64 r14.1, v13, v14] 27, Ch.own (rSlice 4 rBool) [v11] r13.2.1, Ch.own (rSlice 34 (rSlice 3 rInt)) [v12] r13.2.2, Ch.blk g1 [.int .i64 p0.1, va0, va1] 25, Ch.own (rSlice 4 rBool) [v7] r11.2.1, Ch.own (rSlice 34 (rSlice 3 rInt)) [v8] r11.2.2, Ch.own (rSlice 4 rBool) [v5] r9.2.1, Ch.own (rSlice 34 (rSlice 3 rInt)) [v6] r9.2.2, Ch.blk g3 [.int .i64 r4.1, v5, v6] 27, Ch.own (rSlice 4 rBool) [v9] r7.2.1, Ch.own (rSlice 34 (rSlice 3 rInt)) [v10] r7.2.2, Ch.own (rSlice 4 rBool) [v1] r2.2.1, Ch.own (rSlice 34 (rSlice 3 rInt)) [v2] r2.2.2, F])
                  obtain rfl := Eq.symm hf
                  clear haq69 hsq69 aq69 wq69
                  refine seq_op0 haq70 hsq70 (opT_move (v := .int .i64 1) rfl rfl) rfl rfl ?_
                  rintro u aq71 wq71 hf haq71 hsq71
                  obtain rfl := Eq.symm hf
                  clear haq70 hsq70 aq70 wq70
                  obtain ⟨r16, e16, hm⟩ := bind_some hm
                  refine seq_op haq71 hsq71 rfl (OpT.lend (ls := [Ch.own (rSlice 4 rBool) [v7] r11.2.1, Ch.own (rSlice 34 (rSlice 3 rInt)) [v8] r11.2.2]) (gv := fun v => []) (fun _ => trivial) fun J hJ hl hb => opT_call (args := #[.agg #[.int .i64 r5.1, v7, v8], .int .i64 1]) (first := #[]) (captured := #[]) en18 rfl rfl rfl (c_w_heldAutomaton (r5.1, r11.2.1, r11.2.2) 1 _ e16 v7 v8 (hl _ _ _ (List.Mem.head _)) (hl _ _ _ (List.Mem.tail _ (List.Mem.head _))))) (perm_sel [10, 11, 0, 1, 2, 3, 4, 5, 6, 7, 8, 9, 12, 13, 14, 15, 16, 17, 18, 19] (m := 20) rfl rfl) rfl ?_
                  rintro u aq72 wq72 hf haq72 (hsq72 : St I w0 wq72 [Ch.own (rSlice 4 rBool) [v7] r11.2.1, Ch.own (rSlice 34 (rSlice 3 rInt)) [v8] r11.2.2, Ch.blk g4 [.int .i64 r5.1, v7, v8] 27, Ch.own (rSlice 4 rBool) [v13] r14.2.1, Ch.own (rSlice 34 (rSlice 3 rInt)) [v14] r14.2.2, Ch.own (rSlice 4 rBool) [v3] r3.2.1, Ch.own (rSlice 34 (rSlice 3 rInt)) [v4] r3.2.2, Ch.blk g2 [.int .i64 r3.1, v3, v4] 27, Ch.blk g5 [.int .i64 r14.1, v13, v14] 27, Ch.own (rSlice 4 rBool) [v11] r13.2.1, Ch.own (rSlice 34 (rSlice 3 rInt)) [v12] r13.2.2, Ch.blk g1 [.int .i64 p0.1, va0, va1] 25, Ch.own (rSlice 4 rBool) [v5] r9.2.1, Ch.own (rSlice 34 (rSlice 3 rInt)) [v6] r9.2.2, Ch.blk g3 [.int .i64 r4.1, v5, v6] 27, Ch.own (rSlice 4 rBool) [v9] r7.2.1, Ch.own (rSlice 34 (rSlice 3 rInt)) [v10] r7.2.2, Ch.own (rSlice 4 rBool) [v1] r2.2.1, Ch.own (rSlice 34 (rSlice 3 rInt)) [v2] r2.2.2, F])
                  obtain rfl := Eq.symm hf
                  clear haq71 hsq71 aq71 wq71
                  refine seq_op0 haq72 hsq72 (opT_assign (v := .int .i64 r16) rfl rfl) rfl rfl ?_
                  rintro u aq73 wq73 hf haq73 hsq73
                  obtain rfl := Eq.symm hf
                  clear haq72 hsq72 aq72 wq72
                  refine wpList_nil ?_
                  replace haq73 := haq73.pick' (L' := [(8, .int .i64 r11.1), (9, .int .i64 r16)]) ⟨rfl, rfl, trivial⟩
                  refine nrm ?_
                  refine wp_seq ?_
                  refine wp_seq ?_
                  refine wp_region_lit ?_
                  refine seq_op0 haq73 hsq73 (opT_move (v := .int .i64 r16) rfl rfl) rfl rfl ?_
                  rintro u aq74 wq74 hf haq74 hsq74
                  obtain rfl := Eq.symm hf
                  clear haq73 hsq73 aq73 wq73
                  refine seq_op0 haq74 hsq74 (opT_cmp (k := .i64) (m := r16) (n := 0) (c := decide (r16 < 0)) rfl rfl rfl rfl rfl) rfl rfl ?_
                  rintro u aq75 wq75 hf haq75 hsq75
                  obtain rfl := Eq.symm hf
                  clear haq74 hsq74 aq74 wq74
                  refine wpList_nil ?_
                  replace haq75 := haq75.pick' (L' := [(8, .int .i64 r11.1), (9, .int .i64 r16), (65, .bool (decide (r16 < 0)))]) ⟨rfl, rfl, rfl, trivial⟩
                  refine nrm ?_
                  rcases two (decide (r16 < 0)) with hb9 | hb9
                  · replace hm := ifFe hb9 hm
                    refine cnd_false (b := decide (r16 < 0)) haq75 rfl rfl hb9 ?_
                    refine wp_skip ?_
                    refine nrm ?_
                    refine wp_seq ?_
                    refine wp_seq ?_
                    refine wp_region_lit ?_
                    refine seq_op0 haq75 hsq75 (opT_move (v := .int .i64 r16) rfl rfl) rfl rfl ?_
                    rintro u aq76 wq76 hf haq76 hsq76
                    obtain rfl := Eq.symm hf
                    clear haq75 hsq75 aq75 wq75
                    refine seq_op0 haq76 hsq76 (opT_move (v := .int .i64 r11.1) rfl rfl) rfl rfl ?_
                    rintro u aq77 wq77 hf haq77 hsq77
                    obtain rfl := Eq.symm hf
                    clear haq76 hsq76 aq76 wq76
                    refine seq_op0 haq77 hsq77 (opT_cmp (k := .i64) (m := r16) (n := r11.1) (c := r16 != r11.1) rfl rfl rfl rfl rfl) rfl rfl ?_
                    rintro u aq78 wq78 hf haq78 hsq78
                    obtain rfl := Eq.symm hf
                    clear haq77 hsq77 aq77 wq77
                    refine wpList_nil ?_
                    replace haq78 := haq78.pick' (L' := [(68, .bool (r16 != r11.1))]) ⟨rfl, trivial⟩
                    refine nrm ?_
                    rcases two (r16 != r11.1) with hb10 | hb10
                    · replace hm := ifFe hb10 hm
                      refine cnd_false (b := r16 != r11.1) haq78 rfl rfl hb10 ?_
                      refine wp_skip ?_
                      refine nrm ?_
                      refine wp_seq ?_
                      refine wp_region_lit ?_
                      refine seq_op0 haq78 hsq78 (opT_assign (v := .bool true) rfl rfl) rfl rfl ?_
                      rintro u aq79 wq79 hf haq79 hsq79
                      obtain rfl := Eq.symm hf
                      clear haq78 hsq78 aq78 wq78
                      refine wpList_nil ?_
                      replace haq79 := haq79.pick' (L' := [(2, .bool true)]) ⟨rfl, trivial⟩
                      refine nrm ?_
                      refine wp_ret ?_
                      obtain rfl := Option.some.inj hm
                      exact ret_1 haq79 rfl (res_tmp haq79 rfl) ⟨_, rfl, rfl, _, Hp.le.rfl, St.sel (hsq79) 20 [19] rfl rfl⟩
                    · replace hm := ifTe hb10 hm
                      refine cnd_true (b := r16 != r11.1) haq78 rfl rfl hb10 ?_
                      refine wp_seq ?_
                      refine wp_region_lit ?_
                      refine seq_op0 haq78 hsq78 (opT_assign (v := .bool false) rfl rfl) rfl rfl ?_
                      rintro u aq80 wq80 hf haq80 hsq80
                      obtain rfl := Eq.symm hf
                      clear haq78 hsq78 aq78 wq78
                      refine wpList_nil ?_
                      replace haq80 := haq80.pick' (L' := [(2, .bool false)]) ⟨rfl, trivial⟩
                      refine nrm ?_
                      refine wp_ret ?_
                      refine thenR ?_
                      obtain rfl := Option.some.inj hm
                      exact ret_1 haq80 rfl (res_tmp haq80 rfl) ⟨_, rfl, rfl, _, Hp.le.rfl, St.sel (hsq80) 20 [19] rfl rfl⟩
                  · replace hm := ifTe hb9 hm
                    refine cnd_true (b := decide (r16 < 0)) haq75 rfl rfl hb9 ?_
                    refine wp_seq ?_
                    refine wp_region_lit ?_
                    refine seq_op0 haq75 hsq75 (opT_assign (v := .bool false) rfl rfl) rfl rfl ?_
                    rintro u aq81 wq81 hf haq81 hsq81
                    obtain rfl := Eq.symm hf
                    clear haq75 hsq75 aq75 wq75
                    refine wpList_nil ?_
                    replace haq81 := haq81.pick' (L' := [(2, .bool false)]) ⟨rfl, trivial⟩
                    refine nrm ?_
                    refine wp_ret ?_
                    refine thenR ?_
                    obtain rfl := Option.some.inj hm
                    exact ret_1 haq81 rfl (res_tmp haq81 rfl) ⟨_, rfl, rfl, _, Hp.le.rfl, St.sel (hsq81) 20 [19] rfl rfl⟩
              · replace hm := ifTe hb7 hm
                refine cnd_true (b := r12 != r11.1) haq58 rfl rfl hb7 ?_
                refine wp_seq ?_
                refine wp_region_lit ?_
                refine seq_op0 haq58 hsq58 (opT_assign (v := .bool false) rfl rfl) rfl rfl ?_
                rintro u aq82 wq82 hf haq82 hsq82
                obtain rfl := Eq.symm hf
                clear haq58 hsq58 aq58 wq58
                refine wpList_nil ?_
                replace haq82 := haq82.pick' (L' := [(2, .bool false)]) ⟨rfl, trivial⟩
                refine nrm ?_
                refine wp_ret ?_
                refine thenR ?_
                obtain rfl := Option.some.inj hm
                exact ret_1 haq82 rfl (res_tmp haq82 rfl) ⟨_, rfl, rfl, _, Hp.le.rfl, St.sel (hsq82) 15 [14] rfl rfl⟩
            · replace hm := ifTe hb6 hm
              refine cnd_true (b := decide (r12 < 0)) haq55 rfl rfl hb6 ?_
              refine wp_seq ?_
              refine wp_region_lit ?_
              refine seq_op0 haq55 hsq55 (opT_assign (v := .bool false) rfl rfl) rfl rfl ?_
              rintro u aq83 wq83 hf haq83 hsq83
              obtain rfl := Eq.symm hf
              clear haq55 hsq55 aq55 wq55
              refine wpList_nil ?_
              replace haq83 := haq83.pick' (L' := [(2, .bool false)]) ⟨rfl, trivial⟩
              refine nrm ?_
              refine wp_ret ?_
              refine thenR ?_
              obtain rfl := Option.some.inj hm
              exact ret_1 haq83 rfl (res_tmp haq83 rfl) ⟨_, rfl, rfl, _, Hp.le.rfl, St.sel (hsq83) 15 [14] rfl rfl⟩
        · replace hm := ifTe hb4 hm
          refine seq_skip (g := 2) (d := 37) (want := false) (b := decide (r9.1 < 0)) haq37 hsq37 rfl rfl rfl hb4 rfl ?_
          intro aq84 haq84
          refine seq_skip (g := 2) (d := 37) (want := false) (b := decide (r9.1 < 0)) haq84 hsq37 rfl rfl rfl hb4 rfl ?_
          intro aq85 haq85
          refine seq_skip (g := 2) (d := 37) (want := false) (b := decide (r9.1 < 0)) haq85 hsq37 rfl rfl rfl hb4 rfl ?_
          intro aq86 haq86
          refine seq_skip (g := 2) (d := 37) (want := false) (b := decide (r9.1 < 0)) haq86 hsq37 rfl rfl rfl hb4 rfl ?_
          intro aq87 haq87
          refine seq_op0 haq87 hsq37 (opT_pick (b := decide (r9.1 < 0)) (v := .bool true) rfl rfl (ifT hb4)) rfl rfl ?_
          rintro u aq88 wq88 hf haq88 hsq88
          obtain rfl := Eq.symm hf
          clear haq87 hsq37 aq87 wq37
          refine wpList_nil ?_
          replace haq88 := haq88.pick' (L' := [(1, .pointer (some ⟨g1, 0, none⟩)), (4, .pointer (some ⟨g2, 0, none⟩)), (6, .pointer (some ⟨g4, 0, none⟩)), (42, .bool true)]) ⟨rfl, rfl, rfl, rfl, trivial⟩
          refine nrm ?_
          refine cnd_true (b := true) haq88 rfl rfl rfl ?_
          refine wp_seq ?_
          refine wp_region_lit ?_
          refine seq_op0 haq88 hsq88 (opT_assign (v := .bool false) rfl rfl) rfl rfl ?_
          rintro u aq89 wq89 hf haq89 hsq89
          obtain rfl := Eq.symm hf
          clear haq88 hsq88 aq88 wq88
          refine wpList_nil ?_
          replace haq89 := haq89.pick' (L' := [(2, .bool false)]) ⟨rfl, trivial⟩
          refine nrm ?_
          refine wp_ret ?_
          refine thenR ?_
          obtain rfl := Option.some.inj hm
          exact ret_1 haq89 rfl (res_tmp haq89 rfl) ⟨_, rfl, rfl, _, Hp.le.rfl, St.sel (hsq89) 15 [14] rfl rfl⟩
  · replace hm := ifTe hb1 hm
    refine cnd_true (b := decide (r1 < 0)) haq9 rfl rfl hb1 ?_
    refine wp_seq ?_
    refine wp_region_lit ?_
    refine seq_op0 haq9 hsq9 (opT_assign (v := .bool true) rfl rfl) rfl rfl ?_
    rintro u aq90 wq90 hf haq90 hsq90
    obtain rfl := Eq.symm hf
    clear haq9 hsq9 aq9 wq9
    refine wpList_nil ?_
    replace haq90 := haq90.pick' (L' := [(2, .bool true)]) ⟨rfl, trivial⟩
    refine nrm ?_
    refine wp_ret ?_
    refine thenR ?_
    obtain rfl := Option.some.inj hm
    exact ret_1 haq90 rfl (res_tmp haq90 rfl) ⟨_, rfl, rfl, _, Hp.le.rfl, St.sel (hsq90) 2 [1] rfl rfl⟩
end Go.Proofs.Ytcihbmdppgpmjaa.D
