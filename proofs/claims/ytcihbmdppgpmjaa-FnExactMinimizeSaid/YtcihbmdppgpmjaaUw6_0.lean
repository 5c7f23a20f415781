/- Printed by dec.py: models of functions and the walks that show them. -/
import Derived.Test.YtcihbmdppgpmjaaUw2_1
import Derived.Test.YtcihbmdppgpmjaaUw2_2
import Derived.Test.YtcihbmdppgpmjaaUw2_3
import Derived.Test.YtcihbmdppgpmjaaUw3_2
import Derived.Test.YtcihbmdppgpmjaaUw5_0
set_option linter.unusedVariables false
set_option linter.unusedSimpArgs false
set_option linter.unnecessarySimpa false
set_option maxRecDepth 100000
namespace Go.Proofs.Ytcihbmdppgpmjaa.D
open Go.RowKit
set_option maxHeartbeats 8000000 in
theorem c_w_FnExactMinimize (p0 : Int × (List Bool) × (List (List Int))) (r : Bool) (hm : m_w_FnExactMinimize p0 = some r) {I : Hp} {w0 : World} (va0 : Value) (va1 : Value) (ra0 : (rSlice 4 rBool).rd I [va0] p0.2.1) (ra1 : (rSlice 34 (rSlice 3 rInt)).rd I [va1] p0.2.2) : Con Try.prog 5 #[.agg #[.int .i64 p0.1, va0, va1]] I w0 [] (fun v => v = .bool r) (fun v => []) := by
  refine con_of_wp (n := 69) [(0, .agg #[.int .i64 p0.1, va0, va1])] Try.func5 rfl rfl (Nat.le_of_ble_eq_true rfl) (args_all ⟨rfl, trivial⟩) (fun F w a ha hs => ?_) (fun v => trivial)
  unfold m_w_FnExactMinimize at hm
  refine wp_seq ?_
  refine wp_region_lit ?_
  refine seq_op ha hs rfl (opT_box (u := .agg #[.int .i64 p0.1, va0, va1]) (l := [.int .i64 p0.1, va0, va1]) rfl rfl rfl) (List.Perm.refl _) rfl ?_
  rintro _ a1 w1 ⟨g1, rfl⟩ A1 (S1 : St I w0 w1 [Ch.blk g1 [.int .i64 p0.1, va0, va1] 25, F])
  clear ha hs a w
  refine sv A1 S1 (opT_assign (v := .bool false) rfl rfl) rfl rfl ?_
  clear A1 S1 a1 w1;intro a2 w2 A2 S2
  refine wpList_nil ?_
  replace A2 := A2.pick' (L' := [(1, .pointer (some ⟨g1, 0, none⟩))]) ⟨rfl, trivial⟩
  refine nrm ?_
  refine wp_seq ?_
  refine wp_region_lit ?_
  refine sv A2 S2 (opT_assign (v := .int .i64 1048576) rfl rfl) rfl rfl ?_
  clear A2 S2 a2 w2;intro a3 w3 A3 S3
  refine wpList_nil ?_
  replace A3 := A3.pick' (L' := [(1, .pointer (some ⟨g1, 0, none⟩)), (3, .int .i64 1048576)]) ⟨rfl, rfl, trivial⟩
  refine nrm ?_
  refine wp_seq ?_
  refine wp_region_lit ?_
  refine seq_op A3 S3 rfl (opT_load_blk (g := g1) (off := 0) (E := 25) (l := [.int .i64 p0.1, va0, va1]) (d := [.int .i64 p0.1, va0, va1]) (u := .agg #[.int .i64 p0.1, va0, va1]) ti25 rfl rfl rfl rfl rfl rfl) (perm_front (i := 0) rfl) rfl ?_
  rintro u a4 w4 hf A4 (S4 : St I w0 w4 [Ch.blk g1 [.int .i64 p0.1, va0, va1] 25, F])
  obtain rfl := Eq.symm hf
  clear A3 S3 a3 w3
  refine sv A4 S4 (opT_move (v := .int .i64 1048576) rfl rfl) rfl rfl ?_
  clear A4 S4 a4 w4;intro a5 w5 A5 S5
  obtain ⟨r1, e1, hm⟩ := bind_some hm
  refine seq_op0 A5 S5 (opT_call (args := #[.agg #[.int .i64 p0.1, va0, va1], .int .i64 1048576]) (first := #[]) (captured := #[]) en12 rfl rfl rfl (c_w_szAutomaton (p0.1, p0.2.1, p0.2.2) 1048576 _ e1 va0 va1 ra0 ra1)) rfl rfl ?_
  rintro u a6 w6 hf A6 S6
  obtain rfl := Eq.symm hf
  clear A5 S5 a5 w5
  refine sv A6 S6 (opT_assign (v := .int .i64 r1) rfl rfl) rfl rfl ?_
  clear A6 S6 a6 w6;intro a7 w7 A7 S7
  refine wpList_nil ?_
  replace A7 := A7.pick' (L' := [(1, .pointer (some ⟨g1, 0, none⟩)), (3, .int .i64 r1)]) ⟨rfl, rfl, trivial⟩
  refine nrm ?_
  refine wp_seq ?_
  refine wp_seq ?_
  refine wp_region_lit ?_
  refine sv A7 S7 (opT_move (v := .int .i64 r1) rfl rfl) rfl rfl ?_
  clear A7 S7 a7 w7;intro a8 w8 A8 S8
  refine sv A8 S8 (opT_cmp (k := .i64) (m := r1) (n := 0) (c := decide (r1 < 0)) rfl rfl rfl rfl rfl) rfl rfl ?_
  clear A8 S8 a8 w8;intro a9 w9 A9 S9
  refine wpList_nil ?_
  replace A9 := A9.pick' (L' := [(1, .pointer (some ⟨g1, 0, none⟩)), (15, .bool (decide (r1 < 0)))]) ⟨rfl, rfl, trivial⟩
  refine nrm ?_
  rcases two (decide (r1 < 0)) with hb1 | hb1
  · replace hm := ifFe hb1 hm
    refine cnd_false (b := decide (r1 < 0)) A9 rfl rfl hb1 ?_
    refine wp_skip ?_
    refine nrm ?_
    refine wp_seq ?_
    refine wp_region_lit ?_
    refine seq_op A9 S9 rfl (opT_load_blk (g := g1) (off := 0) (E := 25) (l := [.int .i64 p0.1, va0, va1]) (d := [.int .i64 p0.1, va0, va1]) (u := .agg #[.int .i64 p0.1, va0, va1]) ti25 rfl rfl rfl rfl rfl rfl) (perm_front (i := 0) rfl) rfl ?_
    rintro u a10 w10 hf A10 (S10 : St I w0 w10 [Ch.blk g1 [.int .i64 p0.1, va0, va1] 25, F])
    obtain rfl := Eq.symm hf
    clear A9 S9 a9 w9
    obtain ⟨r2, e2, hm⟩ := bind_some hm
    refine seq_op A10 S10 rfl (opT_call (args := #[.agg #[.int .i64 p0.1, va0, va1]]) (first := #[]) (captured := #[]) en14 rfl rfl rfl (c_w_toAutomaton (p0.1, p0.2.1, p0.2.2) _ e2 va0 va1 ra0 ra1)) (List.Perm.refl _) rfl ?_
    rintro u a11 w11 ⟨v1, v2, rfl⟩ A11 (S11 : St I w0 w11 [Ch.own (rSlice 4 rBool) [v1] r2.2.1, Ch.own (rSlice 34 (rSlice 3 rInt)) [v2] r2.2.2, Ch.blk g1 [.int .i64 p0.1, va0, va1] 25, F])
    clear A10 S10 a10 w10
    obtain ⟨r3, e3, hm⟩ := bind_some hm
    refine seq_op A11 S11 rfl (OpT.lend (ls := [Ch.own (rSlice 4 rBool) [v1] r2.2.1, Ch.own (rSlice 34 (rSlice 3 rInt)) [v2] r2.2.2]) (gv := fun v => [Ch.own (rSlice 4 rBool) [vg v [1]] r3.2.1, Ch.own (rSlice 34 (rSlice 3 rInt)) [vg v [2]] r3.2.2]) (fun _ => ⟨dp_own (dp_slice dp_bool), dp_own (dp_slice (dp_slice dp_int)), trivial⟩) fun J hJ hl hb => opT_call (args := #[.agg #[.int .i64 r2.1, v1, v2]]) (first := #[]) (captured := #[]) en21 rfl rfl rfl (c_s_Minimize (r2.1, r2.2.1, r2.2.2) _ e3 v1 v2 (hl _ _ _ (List.Mem.head _)) (hl _ _ _ (List.Mem.tail _ (List.Mem.head _))))) (perm_sel [0, 1, 2, 3] (m := 4) rfl rfl) rfl ?_
    rintro u a12 w12 ⟨v3, v4, rfl⟩ A12 (S12 : St I w0 w12 [Ch.own (rSlice 4 rBool) [v3] r3.2.1, Ch.own (rSlice 34 (rSlice 3 rInt)) [v4] r3.2.2, Ch.own (rSlice 4 rBool) [v1] r2.2.1, Ch.own (rSlice 34 (rSlice 3 rInt)) [v2] r2.2.2, Ch.blk g1 [.int .i64 p0.1, va0, va1] 25, F])
    clear A11 S11 a11 w11
    refine seq_op A12 S12 rfl (opT_alloc (l := [.int .i64 0, .slice none 0 0, .slice none 0 0]) tz27 rfl rfl) (List.Perm.refl _) rfl ?_
    rintro _ a13 w13 ⟨g2, rfl⟩ A13 (S13 : St I w0 w13 [Ch.blk g2 [.int .i64 0, .slice none 0 0, .slice none 0 0] 27, Ch.own (rSlice 4 rBool) [v3] r3.2.1, Ch.own (rSlice 34 (rSlice 3 rInt)) [v4] r3.2.2, Ch.own (rSlice 4 rBool) [v1] r2.2.1, Ch.own (rSlice 34 (rSlice 3 rInt)) [v2] r2.2.2, Ch.blk g1 [.int .i64 p0.1, va0, va1] 25, F])
    clear A12 S12 a12 w12
    refine seq_op A13 S13 rfl (opT_store_blk (g := g2) (off := 0) (l := [.int .i64 0, .slice none 0 0, .slice none 0 0]) (d := [.int .i64 r3.1, v3, v4]) (E := 27) (u := .agg #[.int .i64 r3.1, v3, v4]) ti27 rfl rfl rfl rfl rfl (allC rfl (allC (Hd.one (St.hd S13 1 rfl).1) (allC (Hd.one (St.hd S13 2 rfl).1) allN))) (Nat.le_of_ble_eq_true rfl)) (perm_front (i := 0) rfl) rfl ?_
    rintro _ a14 w14 - A14 (S14 : St I w0 w14 [Ch.blk g2 [.int .i64 r3.1, v3, v4] 27, Ch.own (rSlice 4 rBool) [v3] r3.2.1, Ch.own (rSlice 34 (rSlice 3 rInt)) [v4] r3.2.2, Ch.own (rSlice 4 rBool) [v1] r2.2.1, Ch.own (rSlice 34 (rSlice 3 rInt)) [v2] r2.2.2, Ch.blk g1 [.int .i64 p0.1, va0, va1] 25, F])
    clear A13 S13 a13 w13
    refine wpList_nil ?_
    replace A14 := A14.pick' (L' := [(1, .pointer (some ⟨g1, 0, none⟩)), (4, .pointer (some ⟨g2, 0, none⟩))]) ⟨rfl, rfl, trivial⟩
    refine nrm ?_
    refine wp_seq ?_
    refine wp_region_lit ?_
    refine seq_op A14 S14 rfl (opT_load_blk (g := g1) (off := 0) (E := 25) (l := [.int .i64 p0.1, va0, va1]) (d := [.int .i64 p0.1, va0, va1]) (u := .agg #[.int .i64 p0.1, va0, va1]) ti25 rfl rfl rfl rfl rfl rfl) (perm_front (i := 5) rfl) rfl ?_
    rintro u a15 w15 hf A15 (S15 : St I w0 w15 [Ch.blk g1 [.int .i64 p0.1, va0, va1] 25, Ch.blk g2 [.int .i64 r3.1, v3, v4] 27, Ch.own (rSlice 4 rBool) [v3] r3.2.1, Ch.own (rSlice 34 (rSlice 3 rInt)) [v4] r3.2.2, Ch.own (rSlice 4 rBool) [v1] r2.2.1, Ch.own (rSlice 34 (rSlice 3 rInt)) [v2] r2.2.2, F])
    obtain rfl := Eq.symm hf
    clear A14 S14 a14 w14
    obtain ⟨r4, e4, hm⟩ := bind_some hm
    refine seq_op A15 S15 rfl (opT_call (args := #[.agg #[.int .i64 p0.1, va0, va1]]) (first := #[]) (captured := #[]) en14 rfl rfl rfl (c_w_toAutomaton (p0.1, p0.2.1, p0.2.2) _ e4 va0 va1 ra0 ra1)) (List.Perm.refl _) rfl ?_
    rintro u a16 w16 ⟨v5, v6, rfl⟩ A16 (S16 : St I w0 w16 [Ch.own (rSlice 4 rBool) [v5] r4.2.1, Ch.own (rSlice 34 (rSlice 3 rInt)) [v6] r4.2.2, Ch.blk g1 [.int .i64 p0.1, va0, va1] 25, Ch.blk g2 [.int .i64 r3.1, v3, v4] 27, Ch.own (rSlice 4 rBool) [v3] r3.2.1, Ch.own (rSlice 34 (rSlice 3 rInt)) [v4] r3.2.2, Ch.own (rSlice 4 rBool) [v1] r2.2.1, Ch.own (rSlice 34 (rSlice 3 rInt)) [v2] r2.2.2, F])
    clear A15 S15 a15 w15
    refine seq_op A16 S16 rfl (opT_alloc (l := [.int .i64 0, .slice none 0 0, .slice none 0 0]) tz27 rfl rfl) (List.Perm.refl _) rfl ?_
    rintro _ a17 w17 ⟨g3, rfl⟩ A17 (S17 : St I w0 w17 [Ch.blk g3 [.int .i64 0, .slice none 0 0, .slice none 0 0] 27, Ch.own (rSlice 4 rBool) [v5] r4.2.1, Ch.own (rSlice 34 (rSlice 3 rInt)) [v6] r4.2.2, Ch.blk g1 [.int .i64 p0.1, va0, va1] 25, Ch.blk g2 [.int .i64 r3.1, v3, v4] 27, Ch.own (rSlice 4 rBool) [v3] r3.2.1, Ch.own (rSlice 34 (rSlice 3 rInt)) [v4] r3.2.2, Ch.own (rSlice 4 rBool) [v1] r2.2.1, Ch.own (rSlice 34 (rSlice 3 rInt)) [v2] r2.2.2, F])
    clear A16 S16 a16 w16
    refine seq_op A17 S17 rfl (opT_store_blk (g := g3) (off := 0) (l := [.int .i64 0, .slice none 0 0, .slice none 0 0]) (d := [.int .i64 r4.1, v5, v6]) (E := 27) (u := .agg #[.int .i64 r4.1, v5, v6]) ti27 rfl rfl rfl rfl rfl (allC rfl (allC (Hd.one (St.hd S17 1 rfl).1) (allC (Hd.one (St.hd S17 2 rfl).1) allN))) (Nat.le_of_ble_eq_true rfl)) (perm_front (i := 0) rfl) rfl ?_
    rintro _ a18 w18 - A18 (S18 : St I w0 w18 [Ch.blk g3 [.int .i64 r4.1, v5, v6] 27, Ch.own (rSlice 4 rBool) [v5] r4.2.1, Ch.own (rSlice 34 (rSlice 3 rInt)) [v6] r4.2.2, Ch.blk g1 [.int .i64 p0.1, va0, va1] 25, Ch.blk g2 [.int .i64 r3.1, v3, v4] 27, Ch.own (rSlice 4 rBool) [v3] r3.2.1, Ch.own (rSlice 34 (rSlice 3 rInt)) [v4] r3.2.2, Ch.own (rSlice 4 rBool) [v1] r2.2.1, Ch.own (rSlice 34 (rSlice 3 rInt)) [v2] r2.2.2, F])
    clear A17 S17 a17 w17
    refine wpList_nil ?_
    replace A18 := A18.pick' (L' := [(1, .pointer (some ⟨g1, 0, none⟩)), (4, .pointer (some ⟨g2, 0, none⟩)), (5, .pointer (some ⟨g3, 0, none⟩))]) ⟨rfl, rfl, rfl, trivial⟩
    refine nrm ?_
    refine wp_seq ?_
    refine wp_region_lit ?_
    refine seq_op A18 S18 rfl (opT_load_blk (g := g3) (off := 0) (E := 27) (l := [.int .i64 r4.1, v5, v6]) (d := [.int .i64 r4.1, v5, v6]) (u := .agg #[.int .i64 r4.1, v5, v6]) ti27 rfl rfl rfl rfl rfl rfl) (perm_front (i := 0) rfl) rfl ?_
    rintro u a19 w19 hf A19 (S19 : St I w0 w19 [Ch.blk g3 [.int .i64 r4.1, v5, v6] 27, Ch.own (rSlice 4 rBool) [v5] r4.2.1, Ch.own (rSlice 34 (rSlice 3 rInt)) [v6] r4.2.2, Ch.blk g1 [.int .i64 p0.1, va0, va1] 25, Ch.blk g2 [.int .i64 r3.1, v3, v4] 27, Ch.own (rSlice 4 rBool) [v3] r3.2.1, Ch.own (rSlice 34 (rSlice 3 rInt)) [v4] r3.2.2, Ch.own (rSlice 4 rBool) [v1] r2.2.1, Ch.own (rSlice 34 (rSlice 3 rInt)) [v2] r2.2.2, F])
    obtain rfl := Eq.symm hf
    clear A18 S18 a18 w18
    obtain ⟨r5, e5, hm⟩ := bind_some hm
    refine seq_op A19 S19 rfl (OpT.lend (ls := [Ch.own (rSlice 4 rBool) [v5] r4.2.1, Ch.own (rSlice 34 (rSlice 3 rInt)) [v6] r4.2.2]) (gv := fun v => [Ch.own (rSlice 4 rBool) [vg v [1]] r5.2.1, Ch.own (rSlice 34 (rSlice 3 rInt)) [vg v [2]] r5.2.2]) (fun _ => ⟨dp_own (dp_slice dp_bool), dp_own (dp_slice (dp_slice dp_int)), trivial⟩) fun J hJ hl hb => opT_call (args := #[.agg #[.int .i64 r4.1, v5, v6]]) (first := #[]) (captured := #[]) en22 rfl rfl rfl (c_i_Minimize (r4.1, r4.2.1, r4.2.2) _ e5 v5 v6 (hl _ _ _ (List.Mem.head _)) (hl _ _ _ (List.Mem.tail _ (List.Mem.head _))))) (perm_sel [1, 2, 0, 3, 4, 5, 6, 7, 8, 9] (m := 10) rfl rfl) rfl ?_
    rintro u a20 w20 ⟨v7, v8, rfl⟩ A20 (S20 : St I w0 w20 [Ch.own (rSlice 4 rBool) [v7] r5.2.1, Ch.own (rSlice 34 (rSlice 3 rInt)) [v8] r5.2.2, Ch.own (rSlice 4 rBool) [v5] r4.2.1, Ch.own (rSlice 34 (rSlice 3 rInt)) [v6] r4.2.2, Ch.blk g3 [.int .i64 r4.1, v5, v6] 27, Ch.blk g1 [.int .i64 p0.1, va0, va1] 25, Ch.blk g2 [.int .i64 r3.1, v3, v4] 27, Ch.own (rSlice 4 rBool) [v3] r3.2.1, Ch.own (rSlice 34 (rSlice 3 rInt)) [v4] r3.2.2, Ch.own (rSlice 4 rBool) [v1] r2.2.1, Ch.own (rSlice 34 (rSlice 3 rInt)) [v2] r2.2.2, F])
    clear A19 S19 a19 w19
    refine seq_op A20 S20 rfl (opT_alloc (l := [.int .i64 0, .slice none 0 0, .slice none 0 0]) tz27 rfl rfl) (List.Perm.refl _) rfl ?_
    rintro _ a21 w21 ⟨g4, rfl⟩ A21 (S21 : St I w0 w21 [Ch.blk g4 [.int .i64 0, .slice none 0 0, .slice none 0 0] 27, Ch.own (rSlice 4 rBool) [v7] r5.2.1, Ch.own (rSlice 34 (rSlice 3 rInt)) [v8] r5.2.2, Ch.own (rSlice 4 rBool) [v5] r4.2.1, Ch.own (rSlice 34 (rSlice 3 rInt)) [v6] r4.2.2, Ch.blk g3 [.int .i64 r4.1, v5, v6] 27, Ch.blk g1 [.int .i64 p0.1, va0, va1] 25, Ch.blk g2 [.int .i64 r3.1, v3, v4] 27, Ch.own (rSlice 4 rBool) [v3] r3.2.1, Ch.own (rSlice 34 (rSlice 3 rInt)) [v4] r3.2.2, Ch.own (rSlice 4 rBool) [v1] r2.2.1, Ch.own (rSlice 34 (rSlice 3 rInt)) [v2] r2.2.2, F])
    clear A20 S20 a20 w20
    refine seq_op A21 S21 rfl (opT_store_blk (g := g4) (off := 0) (l := [.int .i64 0, .slice none 0 0, .slice none 0 0]) (d := [.int .i64 r5.1, v7, v8]) (E := 27) (u := .agg #[.int .i64 r5.1, v7, v8]) ti27 rfl rfl rfl rfl rfl (allC rfl (allC (Hd.one (St.hd S21 1 rfl).1) (allC (Hd.one (St.hd S21 2 rfl).1) allN))) (Nat.le_of_ble_eq_true rfl)) (perm_front (i := 0) rfl) rfl ?_
    rintro _ a22 w22 - A22 (S22 : St I w0 w22 [Ch.blk g4 [.int .i64 r5.1, v7, v8] 27, Ch.own (rSlice 4 rBool) [v7] r5.2.1, Ch.own (rSlice 34 (rSlice 3 rInt)) [v8] r5.2.2, Ch.own (rSlice 4 rBool) [v5] r4.2.1, Ch.own (rSlice 34 (rSlice 3 rInt)) [v6] r4.2.2, Ch.blk g3 [.int .i64 r4.1, v5, v6] 27, Ch.blk g1 [.int .i64 p0.1, va0, va1] 25, Ch.blk g2 [.int .i64 r3.1, v3, v4] 27, Ch.own (rSlice 4 rBool) [v3] r3.2.1, Ch.own (rSlice 34 (rSlice 3 rInt)) [v4] r3.2.2, Ch.own (rSlice 4 rBool) [v1] r2.2.1, Ch.own (rSlice 34 (rSlice 3 rInt)) [v2] r2.2.2, F])
    clear A21 S21 a21 w21
    refine wpList_nil ?_
    replace A22 := A22.pick' (L' := [(1, .pointer (some ⟨g1, 0, none⟩)), (4, .pointer (some ⟨g2, 0, none⟩)), (5, .pointer (some ⟨g3, 0, none⟩)), (6, .pointer (some ⟨g4, 0, none⟩))]) ⟨rfl, rfl, rfl, rfl, trivial⟩
    refine nrm ?_
    refine wp_seq ?_
    refine wp_seq ?_
    refine wp_region_lit ?_
    refine seq_op A22 S22 rfl (opT_load_blk (g := g4) (off := 0) (E := 27) (l := [.int .i64 r5.1, v7, v8]) (d := [.int .i64 r5.1, v7, v8]) (u := .agg #[.int .i64 r5.1, v7, v8]) ti27 rfl rfl rfl rfl rfl rfl) (perm_front (i := 0) rfl) rfl ?_
    rintro u a23 w23 hf A23 (S23 : St I w0 w23 [Ch.blk g4 [.int .i64 r5.1, v7, v8] 27, Ch.own (rSlice 4 rBool) [v7] r5.2.1, Ch.own (rSlice 34 (rSlice 3 rInt)) [v8] r5.2.2, Ch.own (rSlice 4 rBool) [v5] r4.2.1, Ch.own (rSlice 34 (rSlice 3 rInt)) [v6] r4.2.2, Ch.blk g3 [.int .i64 r4.1, v5, v6] 27, Ch.blk g1 [.int .i64 p0.1, va0, va1] 25, Ch.blk g2 [.int .i64 r3.1, v3, v4] 27, Ch.own (rSlice 4 rBool) [v3] r3.2.1, Ch.own (rSlice 34 (rSlice 3 rInt)) [v4] r3.2.2, Ch.own (rSlice 4 rBool) [v1] r2.2.1, Ch.own (rSlice 34 (rSlice 3 rInt)) [v2] r2.2.2, F])
    obtain rfl := Eq.symm hf
    clear A22 S22 a22 w22
    refine seq_op A23 S23 rfl (opT_load_blk (g := g2) (off := 0) (E := 27) (l := [.int .i64 r3.1, v3, v4]) (d := [.int .i64 r3.1, v3, v4]) (u := .agg #[.int .i64 r3.1, v3, v4]) ti27 rfl rfl rfl rfl rfl rfl) (perm_front (i := 7) rfl) rfl ?_
    rintro u a24 w24 hf A24 (S24 : St I w0 w24 [Ch.blk g2 [.int .i64 r3.1, v3, v4] 27, Ch.blk g4 [.int .i64 r5.1, v7, v8] 27, Ch.own (rSlice 4 rBool) [v7] r5.2.1, Ch.own (rSlice 34 (rSlice 3 rInt)) [v8] r5.2.2, Ch.own (rSlice 4 rBool) [v5] r4.2.1, Ch.own (rSlice 34 (rSlice 3 rInt)) [v6] r4.2.2, Ch.blk g3 [.int .i64 r4.1, v5, v6] 27, Ch.blk g1 [.int .i64 p0.1, va0, va1] 25, Ch.own (rSlice 4 rBool) [v3] r3.2.1, Ch.own (rSlice 34 (rSlice 3 rInt)) [v4] r3.2.2, Ch.own (rSlice 4 rBool) [v1] r2.2.1, Ch.own (rSlice 34 (rSlice 3 rInt)) [v2] r2.2.2, F])
    obtain rfl := Eq.symm hf
    clear A23 S23 a23 w23
    obtain ⟨r6, e6, hm⟩ := bind_some hm
    refine seq_op A24 S24 rfl (OpT.lend (ls := [Ch.own (rSlice 4 rBool) [v7] r5.2.1, Ch.own (rSlice 34 (rSlice 3 rInt)) [v8] r5.2.2, Ch.own (rSlice 4 rBool) [v3] r3.2.1, Ch.own (rSlice 34 (rSlice 3 rInt)) [v4] r3.2.2]) (gv := fun v => []) (fun _ => trivial) fun J hJ hl hb => opT_call (args := #[.agg #[.int .i64 r5.1, v7, v8], .agg #[.int .i64 r3.1, v3, v4]]) (first := #[]) (captured := #[]) en16 rfl rfl rfl (c_w_eqAutomaton (r5.1, r5.2.1, r5.2.2) (r3.1, r3.2.1, r3.2.2) _ e6 v7 v8 v3 v4 (hl _ _ _ (List.Mem.head _)) (hl _ _ _ (List.Mem.tail _ (List.Mem.head _))) (hl _ _ _ (List.Mem.tail _ (List.Mem.tail _ (List.Mem.head _)))) (hl _ _ _ (List.Mem.tail _ (List.Mem.tail _ (List.Mem.tail _ (List.Mem.head _))))))) (perm_sel [2, 3, 8, 9, 0, 1, 4, 5, 6, 7, 10, 11, 12] (m := 13) rfl rfl) rfl ?_
    rintro u a25 w25 hf A25 (S25 : St I w0 w25 [Ch.own (rSlice 4 rBool) [v7] r5.2.1, Ch.own (rSlice 34 (rSlice 3 rInt)) [v8] r5.2.2, Ch.own (rSlice 4 rBool) [v3] r3.2.1, Ch.own (rSlice 34 (rSlice 3 rInt)) [v4] r3.2.2, Ch.blk g2 [.int .i64 r3.1, v3, v4] 27, Ch.blk g4 [.int .i64 r5.1, v7, v8] 27, Ch.own (rSlice 4 rBool) [v5] r4.2.1, Ch.own (rSlice 34 (rSlice 3 rInt)) [v6] r4.2.2, Ch.blk g3 [.int .i64 r4.1, v5, v6] 27, Ch.blk g1 [.int .i64 p0.1, va0, va1] 25, Ch.own (rSlice 4 rBool) [v1] r2.2.1, Ch.own (rSlice 34 (rSlice 3 rInt)) [v2] r2.2.2, F])
    obtain rfl := Eq.symm hf
    clear A24 S24 a24 w24
    refine sv A25 S25 (opT_not (b := r6) rfl rfl) rfl rfl ?_
    clear A25 S25 a25 w25;intro a26 w26 A26 S26
    refine wpList_nil ?_
    replace A26 := A26.pick' (L' := [(1, .pointer (some ⟨g1, 0, none⟩)), (4, .pointer (some ⟨g2, 0, none⟩)), (5, .pointer (some ⟨g3, 0, none⟩)), (6, .pointer (some ⟨g4, 0, none⟩)), (26, .bool (!r6))]) ⟨rfl, rfl, rfl, rfl, rfl, trivial⟩
    refine nrm ?_
    rcases two (r6) with hb2 | hb2
    · replace hm := ifFe hb2 hm
      refine cnd_true (b := !r6) A26 rfl rfl (notT hb2) ?_
      refine wp_seq ?_
      refine wp_region_lit ?_
      refine sv A26 S26 (opT_assign (v := .bool false) rfl rfl) rfl rfl ?_
      clear A26 S26 a26 w26;intro a27 w27 A27 S27
      refine wpList_nil ?_
      replace A27 := A27.pick' (L' := [(2, .bool false)]) ⟨rfl, trivial⟩
      refine nrm ?_
      refine wp_ret ?_
      refine thenR ?_
      obtain rfl := Option.some.inj hm
      exact ret_1 A27 rfl (res_tmp A27 rfl) ⟨_, rfl, rfl, _, Hp.le.rfl, St.sel (S27) 13 [12] rfl rfl⟩
    · replace hm := ifTe hb2 hm
      refine cnd_false (b := !r6) A26 rfl rfl (notF hb2) ?_
      refine wp_skip ?_
      refine nrm ?_
      refine wp_seq ?_
      refine wp_seq ?_
      obtain ⟨r7, e7, hm⟩ := bind_some hm
      obtain ⟨r8, e8, hm⟩ := bind_some hm
      refine wp_draw (L := [(1, .pointer (some ⟨g1, 0, none⟩)), (4, .pointer (some ⟨g2, 0, none⟩)), (5, .pointer (some ⟨g3, 0, none⟩)), (6, .pointer (some ⟨g4, 0, none⟩)), (26, .bool (!r6))]) (C := [Ch.own (rSlice 4 rBool) [v7] r5.2.1, Ch.own (rSlice 34 (rSlice 3 rInt)) [v8] r5.2.2, Ch.own (rSlice 4 rBool) [v3] r3.2.1, Ch.own (rSlice 34 (rSlice 3 rInt)) [v4] r3.2.2, Ch.blk g2 [.int .i64 r3.1, v3, v4] 27, Ch.blk g4 [.int .i64 r5.1, v7, v8] 27, Ch.own (rSlice 4 rBool) [v1] r2.2.1, Ch.own (rSlice 34 (rSlice 3 rInt)) [v2] r2.2.2, F]) { ops := [⟨[0], [], [], [0], fun | [xo0] => xo0 = .agg #[.int .i64 r4.1, v5, v6] | _ => True, [(5, none)]⟩, ⟨[1], [], [], [1], fun | [xo1] => xo1 = .agg #[.int .i64 p0.1, va0, va1] | _ => True, [(1, none)]⟩, ⟨[], [], [4, 5], [2], fun | [xo2] => xo2 = .agg #[.int .i64 r7.1, (vg xo2 [1]), (vg xo2 [2])] ∧ Hd (vg xo2 [1]) (r7.2.1).length ∧ Hd (vg xo2 [2]) (r7.2.2).length | _ => True, [(28, some 1)]⟩, ⟨[2, 3, 4, 5], [], [], [3], fun | [xo3] => xo3 = .bool r8 | _ => True, [(27, some 0), (29, some 2)]⟩, ⟨[], [], [], [4], fun | [xo4] => xo4 = .bool (!r8) | _ => True, [(30, some 3)]⟩], res := [⟨[], fun _ => Ch.blk g3 [.int .i64 r4.1, v5, v6] 27⟩, ⟨[], fun _ => Ch.blk g1 [.int .i64 p0.1, va0, va1] 25⟩, ⟨[], fun _ => Ch.own (rSlice 4 rBool) [v5] r4.2.1⟩, ⟨[], fun _ => Ch.own (rSlice 34 (rSlice 3 rInt)) [v6] r4.2.2⟩, ⟨[2], fun | [xo2] => Ch.own (rSlice 4 rBool) [(vg xo2 [1])] r7.2.1 | _ => Ch.fr (fun _ => none) []⟩, ⟨[2], fun | [xo2] => Ch.own (rSlice 34 (rSlice 3 rInt)) [(vg xo2 [2])] r7.2.2 | _ => Ch.fr (fun _ => none) []⟩], base := [0, 1, 2, 3], pre := [[], [], [1], [0, 1, 2], [0, 1, 2, 3]], fin := [(1, none), (4, none), (5, none), (6, none), (31, some 4)], left := [0, 1, 2, 3, 4, 5] } (by kernel_rfl) A26 S26 (perm_sel [8, 9, 6, 7, 0, 1, 2, 3, 4, 5, 10, 11, 12] (m := 13) rfl rfl) (by kernel_rfl) (by kernel_rfl) ?_ ?_
      · exact ⟨Plan.goal_run fun vs hf => ⟨wants_none rfl, OpT.conv (OpT.evs (ev' := evL [(5, .pointer (some ⟨g3, 0, none⟩))]) (opT_load_blk (g := g3) (off := 0) (E := 27) (l := [.int .i64 r4.1, v5, v6]) (d := [.int .i64 r4.1, v5, v6]) (u := .agg #[.int .i64 r4.1, v5, v6]) ti27 rfl rfl rfl rfl rfl rfl) rfl [.tmp 5] rfl ⟨rfl, trivial⟩) rfl (fun _ h => Eq.trans h rfl) (fun _ => rfl)⟩, Plan.goal_run fun vs hf => ⟨wants_none rfl, OpT.conv (OpT.evs (ev' := evL [(1, .pointer (some ⟨g1, 0, none⟩))]) (opT_load_blk (g := g1) (off := 0) (E := 25) (l := [.int .i64 p0.1, va0, va1]) (d := [.int .i64 p0.1, va0, va1]) (u := .agg #[.int .i64 p0.1, va0, va1]) ti25 rfl rfl rfl rfl rfl rfl) rfl [.tmp 1] rfl ⟨rfl, trivial⟩) rfl (fun _ h => Eq.trans h rfl) (fun _ => rfl)⟩, Plan.goal_run fun vs hf => ⟨wants_none rfl, OpT.conv (OpT.evs (ev' := evL [(28, .agg #[.int .i64 p0.1, va0, va1])]) (OpT.hdk (E := 4) (R := rBool) (xs := r7.2.1) (fun v => vg v [1]) 0 (fun _ => rfl) (OpT.hdk (E := 34) (R := rSlice 3 rInt) (xs := r7.2.2) (fun v => vg v [2]) 1 (fun _ => rfl) (opT_call (args := #[.agg #[.int .i64 p0.1, va0, va1]]) (first := #[]) (captured := #[]) en14 rfl rfl rfl (c_w_toAutomaton (p0.1, p0.2.1, p0.2.2) _ e7 va0 va1 ra0 ra1)))) rfl [.func 14, .tmp 28] rfl ⟨rfl, (hf 1 (mb rfl)), trivial⟩) rfl (fun _ h => by obtain ⟨⟨h, k1⟩, k0⟩ := h; obtain ⟨_, _, rfl⟩ := h; exact ⟨rfl, k0, k1⟩) (fun _ => rfl)⟩, Plan.goal_run fun vs hf => ⟨wants_none rfl, OpT.conv (OpT.evs (ev' := evL [(27, .agg #[.int .i64 r4.1, v5, v6]), (29, .agg #[.int .i64 r7.1, (vg (vs 2) [1]), (vg (vs 2) [2])])]) (OpT.lend (ls := [Ch.own (rSlice 4 rBool) [v5] r4.2.1, Ch.own (rSlice 34 (rSlice 3 rInt)) [v6] r4.2.2, Ch.own (rSlice 4 rBool) [(vg (vs 2) [1])] r7.2.1, Ch.own (rSlice 34 (rSlice 3 rInt)) [(vg (vs 2) [2])] r7.2.2]) (gv := fun v => []) (fun _ => trivial) fun J hJ hl hb => opT_call (args := #[.agg #[.int .i64 r4.1, v5, v6], .agg #[.int .i64 r7.1, (vg (vs 2) [1]), (vg (vs 2) [2])]]) (first := #[]) (captured := #[]) en16 rfl rfl rfl (c_w_eqAutomaton (r4.1, r4.2.1, r4.2.2) (r7.1, r7.2.1, r7.2.2) _ e8 v5 v6 (vg (vs 2) [1]) (vg (vs 2) [2]) (hl _ _ _ (List.Mem.head _)) (hl _ _ _ (List.Mem.tail _ (List.Mem.head _))) (hl _ _ _ (List.Mem.tail _ (List.Mem.tail _ (List.Mem.head _)))) (hl _ _ _ (List.Mem.tail _ (List.Mem.tail _ (List.Mem.tail _ (List.Mem.head _))))))) rfl [.func 16, .tmp 27, .tmp 29] rfl ⟨rfl, (hf 0 (mb rfl)), (hf 2 (mb rfl)).1, trivial⟩) rfl (fun _ h => h) (fun _ => rfl)⟩, Plan.goal_run fun vs hf => ⟨wants_none rfl, OpT.conv (OpT.evs (ev' := evL [(30, .bool r8)]) (opT_not (b := r8) rfl rfl) rfl [.tmp 30] rfl ⟨(hf 3 (mb rfl)), trivial⟩) rfl (fun _ h => Eq.trans h rfl) (fun _ => rfl)⟩, trivial⟩
      intro vs a28 w28 hf A28 S28
      clear A26 S26
      replace A28 := A28.pick' (L' := [(1, .pointer (some ⟨g1, 0, none⟩)), (4, .pointer (some ⟨g2, 0, none⟩)), (5, .pointer (some ⟨g3, 0, none⟩)), (6, .pointer (some ⟨g4, 0, none⟩)), (31, .bool (!r8))]) ⟨rfl, rfl, rfl, rfl, (congrArg some (show _ = _ from (hf 4 (Nat.le_of_ble_eq_true rfl)))), trivial⟩
      replace S28 : St I w0 w28 [Ch.blk g3 [.int .i64 r4.1, v5, v6] 27, Ch.blk g1 [.int .i64 p0.1, va0, va1] 25, Ch.own (rSlice 4 rBool) [v5] r4.2.1, Ch.own (rSlice 34 (rSlice 3 rInt)) [v6] r4.2.2, Ch.own (rSlice 4 rBool) [(vg (vs 2) [1])] r7.2.1, Ch.own (rSlice 34 (rSlice 3 rInt)) [(vg (vs 2) [2])] r7.2.2, Ch.own (rSlice 4 rBool) [v7] r5.2.1, Ch.own (rSlice 34 (rSlice 3 rInt)) [v8] r5.2.2, Ch.own (rSlice 4 rBool) [v3] r3.2.1, Ch.own (rSlice 34 (rSlice 3 rInt)) [v4] r3.2.2, Ch.blk g2 [.int .i64 r3.1, v3, v4] 27, Ch.blk g4 [.int .i64 r5.1, v7, v8] 27, Ch.own (rSlice 4 rBool) [v1] r2.2.1, Ch.own (rSlice 34 (rSlice 3 rInt)) [v2] r2.2.2, F] := S28
      obtain ⟨v9, ea1⟩ : ∃ x, x = (vg (vs 2) [1]) := ⟨_, rfl⟩
      try rw [← ea1] at A28
      try rw [← ea1] at S28
      clear ea1
      obtain ⟨v10, ea2⟩ : ∃ x, x = (vg (vs 2) [2]) := ⟨_, rfl⟩
      try rw [← ea2] at A28
      try rw [← ea2] at S28
      clear ea2
      clear hf vs
      refine nrm ?_
      rcases two (r8) with hb3 | hb3
      · replace hm := ifFe hb3 hm
        refine cnd_true (b := !r8) A28 rfl rfl (notT hb3) ?_
        refine wp_seq ?_
        refine wp_region_lit ?_
        refine sv A28 S28 (opT_assign (v := .bool false) rfl rfl) rfl rfl ?_
        clear A28 S28 a28 w28;intro a29 w29 A29 S29
        refine wpList_nil ?_
        replace A29 := A29.pick' (L' := [(2, .bool false)]) ⟨rfl, trivial⟩
        refine nrm ?_
        refine wp_ret ?_
        refine thenR ?_
        obtain rfl := Option.some.inj hm
        exact ret_1 A29 rfl (res_tmp A29 rfl) ⟨_, rfl, rfl, _, Hp.le.rfl, St.sel (S29) 15 [14] rfl rfl⟩
      · replace hm := ifTe hb3 hm
        refine cnd_false (b := !r8) A28 rfl rfl (notF hb3) ?_
        refine wp_skip ?_
        refine nrm ?_
        refine wp_seq ?_
        refine wp_region_lit ?_
        refine sv A28 S28 (opT_assign (v := .int .i64 1) rfl rfl) rfl rfl ?_
        clear A28 S28 a28 w28;intro a30 w30 A30 S30
        refine wpList_nil ?_
        replace A30 := A30.pick' (L' := [(1, .pointer (some ⟨g1, 0, none⟩)), (4, .pointer (some ⟨g2, 0, none⟩)), (5, .pointer (some ⟨g3, 0, none⟩)), (6, .pointer (some ⟨g4, 0, none⟩)), (7, .int .i64 1)]) ⟨rfl, rfl, rfl, rfl, rfl, trivial⟩
        refine nrm ?_
        refine wp_seq ?_
        refine wp_region_lit ?_
        refine seq_op A30 S30 rfl (opT_load_blk (g := g3) (off := 0) (E := 27) (l := [.int .i64 r4.1, v5, v6]) (d := [.int .i64 r4.1, v5, v6]) (u := .agg #[.int .i64 r4.1, v5, v6]) ti27 rfl rfl rfl rfl rfl rfl) (perm_front (i := 0) rfl) rfl ?_
        rintro u a31 w31 hf A31 (S31 : St I w0 w31 [Ch.blk g3 [.int .i64 r4.1, v5, v6] 27, Ch.blk g1 [.int .i64 p0.1, va0, va1] 25, Ch.own (rSlice 4 rBool) [v5] r4.2.1, Ch.own (rSlice 34 (rSlice 3 rInt)) [v6] r4.2.2, Ch.own (rSlice 4 rBool) [v9] r7.2.1, Ch.own (rSlice 34 (rSlice 3 rInt)) [v10] r7.2.2, Ch.own (rSlice 4 rBool) [v7] r5.2.1, Ch.own (rSlice 34 (rSlice 3 rInt)) [v8] r5.2.2, Ch.own (rSlice 4 rBool) [v3] r3.2.1, Ch.own (rSlice 34 (rSlice 3 rInt)) [v4] r3.2.2, Ch.blk g2 [.int .i64 r3.1, v3, v4] 27, Ch.blk g4 [.int .i64 r5.1, v7, v8] 27, Ch.own (rSlice 4 rBool) [v1] r2.2.1, Ch.own (rSlice 34 (rSlice 3 rInt)) [v2] r2.2.2, F])
        obtain rfl := Eq.symm hf
        clear A30 S30 a30 w30
        refine sv A31 S31 (opT_move (v := .int .i64 1) rfl rfl) rfl rfl ?_
        clear A31 S31 a31 w31;intro a32 w32 A32 S32
        obtain ⟨r9, e9, hm⟩ := bind_some hm
        refine seq_op A32 S32 rfl (opT_call (args := #[.agg #[.int .i64 r4.1, v5, v6], .int .i64 1]) (first := #[]) (captured := #[]) en17 rfl rfl rfl (c_w_markAutomaton (r4.1, r4.2.1, r4.2.2) 1 _ e9 v5 v6)) (perm_sel [2, 3, 0, 1, 4, 5, 6, 7, 8, 9, 10, 11, 12, 13, 14] (m := 15) rfl rfl) rfl ?_
        rintro u a33 w33 hf A33 (S33 : St I w0 w33 [Ch.own (rSlice 4 rBool) [v5] r9.2.1, Ch.own (rSlice 34 (rSlice 3 rInt)) [v6] r9.2.2, Ch.blk g3 [.int .i64 r4.1, v5, v6] 27, Ch.blk g1 [.int .i64 p0.1, va0, va1] 25, Ch.own (rSlice 4 rBool) [v9] r7.2.1, Ch.own (rSlice 34 (rSlice 3 rInt)) [v10] r7.2.2, Ch.own (rSlice 4 rBool) [v7] r5.2.1, Ch.own (rSlice 34 (rSlice 3 rInt)) [v8] r5.2.2, Ch.own (rSlice 4 rBool) [v3] r3.2.1, Ch.own (rSlice 34 (rSlice 3 rInt)) [v4] r3.2.2, Ch.blk g2 [.int .i64 r3.1, v3, v4] 27, Ch.blk g4 [.int .i64 r5.1, v7, v8] 27, Ch.own (rSlice 4 rBool) [v1] r2.2.1, Ch.own (rSlice 34 (rSlice 3 rInt)) [v2] r2.2.2, F])
        obtain rfl := Eq.symm hf
        clear A32 S32 a32 w32
        refine sv A33 S33 (opT_assign (v := .int .i64 r9.1) rfl rfl) rfl rfl ?_
        clear A33 S33 a33 w33;intro a34 w34 A34 S34
        refine wpList_nil ?_
        replace A34 := A34.pick' (L' := [(1, .pointer (some ⟨g1, 0, none⟩)), (4, .pointer (some ⟨g2, 0, none⟩)), (6, .pointer (some ⟨g4, 0, none⟩)), (7, .int .i64 r9.1)]) ⟨rfl, rfl, rfl, rfl, trivial⟩
        refine nrm ?_
        refine wp_seq ?_
        refine wp_seq ?_
        refine wp_region_lit ?_
        refine sv A34 S34 (opT_move (v := .int .i64 r9.1) rfl rfl) rfl rfl ?_
        clear A34 S34 a34 w34;intro a35 w35 A35 S35
        refine sv A35 S35 (opT_cmp (k := .i64) (m := r9.1) (n := 0) (c := decide (r9.1 < 0)) rfl rfl rfl rfl rfl) rfl rfl ?_
        clear A35 S35 a35 w35;intro a36 w36 A36 S36
        refine sv A36 S36 (opT_move (v := .bool (decide (r9.1 < 0))) rfl rfl) rfl rfl ?_
        clear A36 S36 a36 w36;intro a37 w37 A37 S37
        rcases two (decide (r9.1 < 0)) with hb4 | hb4
        · replace hm := ifFe hb4 hm
          refine seq_op_g (g := 2) (d := 37) (want := false) (b := decide (r9.1 < 0)) A37 S37 rfl rfl rfl hb4 (opT_load_blk (g := g4) (off := 0) (E := 27) (l := [.int .i64 r5.1, v7, v8]) (d := [.int .i64 r5.1, v7, v8]) (u := .agg #[.int .i64 r5.1, v7, v8]) ti27 rfl rfl rfl rfl rfl rfl) (perm_front (i := 11) rfl) rfl ?_
          rintro u a38 w38 hf A38 (S38 : St I w0 w38 [Ch.blk g4 [.int .i64 r5.1, v7, v8] 27, Ch.own (rSlice 4 rBool) [v5] r9.2.1, Ch.own (rSlice 34 (rSlice 3 rInt)) [v6] r9.2.2, Ch.blk g3 [.int .i64 r4.1, v5, v6] 27, Ch.blk g1 [.int .i64 p0.1, va0, va1] 25, Ch.own (rSlice 4 rBool) [v9] r7.2.1, Ch.own (rSlice 34 (rSlice 3 rInt)) [v10] r7.2.2, Ch.own (rSlice 4 rBool) [v7] r5.2.1, Ch.own (rSlice 34 (rSlice 3 rInt)) [v8] r5.2.2, Ch.own (rSlice 4 rBool) [v3] r3.2.1, Ch.own (rSlice 34 (rSlice 3 rInt)) [v4] r3.2.2, Ch.blk g2 [.int .i64 r3.1, v3, v4] 27, Ch.own (rSlice 4 rBool) [v1] r2.2.1, Ch.own (rSlice 34 (rSlice 3 rInt)) [v2] r2.2.2, F])
          obtain rfl := Eq.symm hf
          clear A37 S37 a37 w37
          refine seq_op_g (g := 2) (d := 37) (want := false) (b := decide (r9.1 < 0)) A38 S38 rfl rfl rfl hb4 (opT_load_blk (g := g2) (off := 0) (E := 27) (l := [.int .i64 r3.1, v3, v4]) (d := [.int .i64 r3.1, v3, v4]) (u := .agg #[.int .i64 r3.1, v3, v4]) ti27 rfl rfl rfl rfl rfl rfl) (perm_front (i := 11) rfl) rfl ?_
          rintro u a39 w39 hf A39 (S39 : St I w0 w39 [Ch.blk g2 [.int .i64 r3.1, v3, v4] 27, Ch.blk g4 [.int .i64 r5.1, v7, v8] 27, Ch.own (rSlice 4 rBool) [v5] r9.2.1, Ch.own (rSlice 34 (rSlice 3 rInt)) [v6] r9.2.2, Ch.blk g3 [.int .i64 r4.1, v5, v6] 27, Ch.blk g1 [.int .i64 p0.1, va0, va1] 25, Ch.own (rSlice 4 rBool) [v9] r7.2.1, Ch.own (rSlice 34 (rSlice 3 rInt)) [v10] r7.2.2, Ch.own (rSlice 4 rBool) [v7] r5.2.1, Ch.own (rSlice 34 (rSlice 3 rInt)) [v8] r5.2.2, Ch.own (rSlice 4 rBool) [v3] r3.2.1, Ch.own (rSlice 34 (rSlice 3 rInt)) [v4] r3.2.2, Ch.own (rSlice 4 rBool) [v1] r2.2.1, Ch.own (rSlice 34 (rSlice 3 rInt)) [v2] r2.2.2, F])
          obtain rfl := Eq.symm hf
          clear A38 S38 a38 w38
          obtain ⟨r10, e10, hm⟩ := bind_some hm
          refine seq_op_g (g := 2) (d := 37) (want := false) (b := decide (r9.1 < 0)) A39 S39 rfl rfl rfl hb4 (OpT.lend (ls := [Ch.own (rSlice 4 rBool) [v7] r5.2.1, Ch.own (rSlice 34 (rSlice 3 rInt)) [v8] r5.2.2, Ch.own (rSlice 4 rBool) [v3] r3.2.1, Ch.own (rSlice 34 (rSlice 3 rInt)) [v4] r3.2.2]) (gv := fun v => []) (fun _ => trivial) fun J hJ hl hb => opT_call (args := #[.agg #[.int .i64 r5.1, v7, v8], .agg #[.int .i64 r3.1, v3, v4]]) (first := #[]) (captured := #[]) en16 rfl rfl rfl (c_w_eqAutomaton (r5.1, r5.2.1, r5.2.2) (r3.1, r3.2.1, r3.2.2) _ e10 v7 v8 v3 v4 (hl _ _ _ (List.Mem.head _)) (hl _ _ _ (List.Mem.tail _ (List.Mem.head _))) (hl _ _ _ (List.Mem.tail _ (List.Mem.tail _ (List.Mem.head _)))) (hl _ _ _ (List.Mem.tail _ (List.Mem.tail _ (List.Mem.tail _ (List.Mem.head _))))))) (perm_sel [8, 9, 10, 11, 0, 1, 2, 3, 4, 5, 6, 7, 12, 13, 14] (m := 15) rfl rfl) rfl ?_
          rintro u a40 w40 hf A40 (S40 : St I w0 w40 [Ch.own (rSlice 4 rBool) [v7] r5.2.1, Ch.own (rSlice 34 (rSlice 3 rInt)) [v8] r5.2.2, Ch.own (rSlice 4 rBool) [v3] r3.2.1, Ch.own (rSlice 34 (rSlice 3 rInt)) [v4] r3.2.2, Ch.blk g2 [.int .i64 r3.1, v3, v4] 27, Ch.blk g4 [.int .i64 r5.1, v7, v8] 27, Ch.own (rSlice 4 rBool) [v5] r9.2.1, Ch.own (rSlice 34 (rSlice 3 rInt)) [v6] r9.2.2, Ch.blk g3 [.int .i64 r4.1, v5, v6] 27, Ch.blk g1 [.int .i64 p0.1, va0, va1] 25, Ch.own (rSlice 4 rBool) [v9] r7.2.1, Ch.own (rSlice 34 (rSlice 3 rInt)) [v10] r7.2.2, Ch.own (rSlice 4 rBool) [v1] r2.2.1, Ch.own (rSlice 34 (rSlice 3 rInt)) [v2] r2.2.2, F])
          obtain rfl := Eq.symm hf
          clear A39 S39 a39 w39
          refine svg (g := 2) (d := 37) (want := false) (b := decide (r9.1 < 0)) A40 S40 rfl rfl rfl hb4 (opT_not (b := r10) rfl rfl) rfl ?_
          clear A40 S40 a40 w40;intro a41 w41 A41 S41
          refine sv A41 S41 (opT_pick (b := decide (r9.1 < 0)) (v := .bool (!r10)) rfl rfl (ifF hb4)) rfl rfl ?_
          clear A41 S41 a41 w41;intro a42 w42 A42 S42
          refine wpList_nil ?_
          replace A42 := A42.pick' (L' := [(1, .pointer (some ⟨g1, 0, none⟩)), (4, .pointer (some ⟨g2, 0, none⟩)), (6, .pointer (some ⟨g4, 0, none⟩)), (42, .bool (!r10))]) ⟨rfl, rfl, rfl, rfl, trivial⟩
          refine nrm ?_
          rcases two (r10) with hb5 | hb5
          · replace hm := ifFe hb5 hm
            refine cnd_true (b := !r10) A42 rfl rfl (notT hb5) ?_
            refine wp_seq ?_
            refine wp_region_lit ?_
            refine sv A42 S42 (opT_assign (v := .bool false) rfl rfl) rfl rfl ?_
            clear A42 S42 a42 w42;intro a43 w43 A43 S43
            refine wpList_nil ?_
            replace A43 := A43.pick' (L' := [(2, .bool false)]) ⟨rfl, trivial⟩
            refine nrm ?_
            refine wp_ret ?_
            refine thenR ?_
            obtain rfl := Option.some.inj hm
            exact ret_1 A43 rfl (res_tmp A43 rfl) ⟨_, rfl, rfl, _, Hp.le.rfl, St.sel (S43) 15 [14] rfl rfl⟩
          · replace hm := ifTe hb5 hm
            refine cnd_false (b := !r10) A42 rfl rfl (notF hb5) ?_
            refine wp_skip ?_
            refine nrm ?_
            refine wp_seq ?_
            refine wp_region_lit ?_
            refine sv A42 S42 (opT_assign (v := .int .i64 1) rfl rfl) rfl rfl ?_
            clear A42 S42 a42 w42;intro a44 w44 A44 S44
            refine wpList_nil ?_
            replace A44 := A44.pick' (L' := [(1, .pointer (some ⟨g1, 0, none⟩)), (4, .pointer (some ⟨g2, 0, none⟩)), (6, .pointer (some ⟨g4, 0, none⟩)), (8, .int .i64 1)]) ⟨rfl, rfl, rfl, rfl, trivial⟩
            refine nrm ?_
            refine wp_seq ?_
            refine wp_region_lit ?_
            refine seq_op A44 S44 rfl (opT_load_blk (g := g4) (off := 0) (E := 27) (l := [.int .i64 r5.1, v7, v8]) (d := [.int .i64 r5.1, v7, v8]) (u := .agg #[.int .i64 r5.1, v7, v8]) ti27 rfl rfl rfl rfl rfl rfl) (perm_front (i := 5) rfl) rfl ?_
            rintro u a45 w45 hf A45 (S45 : St I w0 w45 [Ch.blk g4 [.int .i64 r5.1, v7, v8] 27, Ch.own (rSlice 4 rBool) [v7] r5.2.1, Ch.own (rSlice 34 (rSlice 3 rInt)) [v8] r5.2.2, Ch.own (rSlice 4 rBool) [v3] r3.2.1, Ch.own (rSlice 34 (rSlice 3 rInt)) [v4] r3.2.2, Ch.blk g2 [.int .i64 r3.1, v3, v4] 27, Ch.own (rSlice 4 rBool) [v5] r9.2.1, Ch.own (rSlice 34 (rSlice 3 rInt)) [v6] r9.2.2, Ch.blk g3 [.int .i64 r4.1, v5, v6] 27, Ch.blk g1 [.int .i64 p0.1, va0, va1] 25, Ch.own (rSlice 4 rBool) [v9] r7.2.1, Ch.own (rSlice 34 (rSlice 3 rInt)) [v10] r7.2.2, Ch.own (rSlice 4 rBool) [v1] r2.2.1, Ch.own (rSlice 34 (rSlice 3 rInt)) [v2] r2.2.2, F])
            obtain rfl := Eq.symm hf
            clear A44 S44 a44 w44
            refine sv A45 S45 (opT_move (v := .int .i64 1) rfl rfl) rfl rfl ?_
            clear A45 S45 a45 w45;intro a46 w46 A46 S46
            obtain ⟨r11, e11, hm⟩ := bind_some hm
            refine seq_op A46 S46 rfl (opT_call (args := #[.agg #[.int .i64 r5.1, v7, v8], .int .i64 1]) (first := #[]) (captured := #[]) en17 rfl rfl rfl (c_w_markAutomaton (r5.1, r5.2.1, r5.2.2) 1 _ e11 v7 v8)) (perm_sel [1, 2, 0, 3, 4, 5, 6, 7, 8, 9, 10, 11, 12, 13, 14] (m := 15) rfl rfl) rfl ?_
            rintro u a47 w47 hf A47 (S47 : St I w0 w47 [Ch.own (rSlice 4 rBool) [v7] r11.2.1, Ch.own (rSlice 34 (rSlice 3 rInt)) [v8] r11.2.2, Ch.blk g4 [.int .i64 r5.1, v7, v8] 27, Ch.own (rSlice 4 rBool) [v3] r3.2.1, Ch.own (rSlice 34 (rSlice 3 rInt)) [v4] r3.2.2, Ch.blk g2 [.int .i64 r3.1, v3, v4] 27, Ch.own (rSlice 4 rBool) [v5] r9.2.1, Ch.own (rSlice 34 (rSlice 3 rInt)) [v6] r9.2.2, Ch.blk g3 [.int .i64 r4.1, v5, v6] 27, Ch.blk g1 [.int .i64 p0.1, va0, va1] 25, Ch.own (rSlice 4 rBool) [v9] r7.2.1, Ch.own (rSlice 34 (rSlice 3 rInt)) [v10] r7.2.2, Ch.own (rSlice 4 rBool) [v1] r2.2.1, Ch.own (rSlice 34 (rSlice 3 rInt)) [v2] r2.2.2, F])
            obtain rfl := Eq.symm hf
            clear A46 S46 a46 w46
            refine sv A47 S47 (opT_assign (v := .int .i64 r11.1) rfl rfl) rfl rfl ?_
            clear A47 S47 a47 w47;intro a48 w48 A48 S48
            refine wpList_nil ?_
            replace A48 := A48.pick' (L' := [(1, .pointer (some ⟨g1, 0, none⟩)), (4, .pointer (some ⟨g2, 0, none⟩)), (6, .pointer (some ⟨g4, 0, none⟩)), (8, .int .i64 r11.1)]) ⟨rfl, rfl, rfl, rfl, trivial⟩
            refine nrm ?_
            refine wp_seq ?_
            refine wp_region_lit ?_
            refine sv A48 S48 (opT_assign (v := .int .i64 1) rfl rfl) rfl rfl ?_
            clear A48 S48 a48 w48;intro a49 w49 A49 S49
            refine wpList_nil ?_
            replace A49 := A49.pick' (L' := [(1, .pointer (some ⟨g1, 0, none⟩)), (4, .pointer (some ⟨g2, 0, none⟩)), (6, .pointer (some ⟨g4, 0, none⟩)), (8, .int .i64 r11.1), (9, .int .i64 1)]) ⟨rfl, rfl, rfl, rfl, rfl, trivial⟩
            refine nrm ?_
            refine wp_seq ?_
            refine wp_region_lit ?_
            refine seq_op A49 S49 rfl (opT_load_blk (g := g4) (off := 0) (E := 27) (l := [.int .i64 r5.1, v7, v8]) (d := [.int .i64 r5.1, v7, v8]) (u := .agg #[.int .i64 r5.1, v7, v8]) ti27 rfl rfl rfl rfl rfl rfl) (perm_front (i := 2) rfl) rfl ?_
            rintro u a50 w50 hf A50 (S50 : St I w0 w50 [Ch.blk g4 [.int .i64 r5.1, v7, v8] 27, Ch.own (rSlice 4 rBool) [v7] r11.2.1, Ch.own (rSlice 34 (rSlice 3 rInt)) [v8] r11.2.2, Ch.own (rSlice 4 rBool) [v3] r3.2.1, Ch.own (rSlice 34 (rSlice 3 rInt)) [v4] r3.2.2, Ch.blk g2 [.int .i64 r3.1, v3, v4] 27, Ch.own (rSlice 4 rBool) [v5] r9.2.1, Ch.own (rSlice 34 (rSlice 3 rInt)) [v6] r9.2.2, Ch.blk g3 [.int .i64 r4.1, v5, v6] 27, Ch.blk g1 [.int .i64 p0.1, va0, va1] 25, Ch.own (rSlice 4 rBool) [v9] r7.2.1, Ch.own (rSlice 34 (rSlice 3 rInt)) [v10] r7.2.2, Ch.own (rSlice 4 rBool) [v1] r2.2.1, Ch.own (rSlice 34 (rSlice 3 rInt)) [v2] r2.2.2, F])
            obtain rfl := Eq.symm hf
            clear A49 S49 a49 w49
            refine sv A50 S50 (opT_move (v := .int .i64 1) rfl rfl) rfl rfl ?_
            clear A50 S50 a50 w50;intro a51 w51 A51 S51
            obtain ⟨r12, e12, hm⟩ := bind_some hm
            refine seq_op A51 S51 rfl (OpT.lend (ls := [Ch.own (rSlice 4 rBool) [v7] r11.2.1, Ch.own (rSlice 34 (rSlice 3 rInt)) [v8] r11.2.2]) (gv := fun v => []) (fun _ => trivial) fun J hJ hl hb => opT_call (args := #[.agg #[.int .i64 r5.1, v7, v8], .int .i64 1]) (first := #[]) (captured := #[]) en18 rfl rfl rfl (c_w_heldAutomaton (r5.1, r11.2.1, r11.2.2) 1 _ e12 v7 v8 (hl _ _ _ (List.Mem.head _)) (hl _ _ _ (List.Mem.tail _ (List.Mem.head _))))) (perm_sel [1, 2, 0, 3, 4, 5, 6, 7, 8, 9, 10, 11, 12, 13, 14] (m := 15) rfl rfl) rfl ?_
            rintro u a52 w52 hf A52 (S52 : St I w0 w52 [Ch.own (rSlice 4 rBool) [v7] r11.2.1, Ch.own (rSlice 34 (rSlice 3 rInt)) [v8] r11.2.2, Ch.blk g4 [.int .i64 r5.1, v7, v8] 27, Ch.own (rSlice 4 rBool) [v3] r3.2.1, Ch.own (rSlice 34 (rSlice 3 rInt)) [v4] r3.2.2, Ch.blk g2 [.int .i64 r3.1, v3, v4] 27, Ch.own (rSlice 4 rBool) [v5] r9.2.1, Ch.own (rSlice 34 (rSlice 3 rInt)) [v6] r9.2.2, Ch.blk g3 [.int .i64 r4.1, v5, v6] 27, Ch.blk g1 [.int .i64 p0.1, va0, va1] 25, Ch.own (rSlice 4 rBool) [v9] r7.2.1, Ch.own (rSlice 34 (rSlice 3 rInt)) [v10] r7.2.2, Ch.own (rSlice 4 rBool) [v1] r2.2.1, Ch.own (rSlice 34 (rSlice 3 rInt)) [v2] r2.2.2, F])
            obtain rfl := Eq.symm hf
            clear A51 S51 a51 w51
            refine sv A52 S52 (opT_assign (v := .int .i64 r12) rfl rfl) rfl rfl ?_
            clear A52 S52 a52 w52;intro a53 w53 A53 S53
            refine wpList_nil ?_
            replace A53 := A53.pick' (L' := [(1, .pointer (some ⟨g1, 0, none⟩)), (4, .pointer (some ⟨g2, 0, none⟩)), (6, .pointer (some ⟨g4, 0, none⟩)), (8, .int .i64 r11.1), (9, .int .i64 r12)]) ⟨rfl, rfl, rfl, rfl, rfl, trivial⟩
            refine nrm ?_
            refine wp_seq ?_
            refine wp_seq ?_
            refine wp_region_lit ?_
            refine sv A53 S53 (opT_move (v := .int .i64 r12) rfl rfl) rfl rfl ?_
            clear A53 S53 a53 w53;intro a54 w54 A54 S54
            refine sv A54 S54 (opT_cmp (k := .i64) (m := r12) (n := 0) (c := decide (r12 < 0)) rfl rfl rfl rfl rfl) rfl rfl ?_
            clear A54 S54 a54 w54;intro a55 w55 A55 S55
            refine wpList_nil ?_
            replace A55 := A55.pick' (L' := [(1, .pointer (some ⟨g1, 0, none⟩)), (4, .pointer (some ⟨g2, 0, none⟩)), (6, .pointer (some ⟨g4, 0, none⟩)), (8, .int .i64 r11.1), (9, .int .i64 r12), (50, .bool (decide (r12 < 0)))]) ⟨rfl, rfl, rfl, rfl, rfl, rfl, trivial⟩
            refine nrm ?_
            rcases two (decide (r12 < 0)) with hb6 | hb6
            · replace hm := ifFe hb6 hm
              refine cnd_false (b := decide (r12 < 0)) A55 rfl rfl hb6 ?_
              refine wp_skip ?_
              refine nrm ?_
              refine wp_seq ?_
              refine wp_seq ?_
              refine wp_region_lit ?_
              refine sv A55 S55 (opT_move (v := .int .i64 r12) rfl rfl) rfl rfl ?_
              clear A55 S55 a55 w55;intro a56 w56 A56 S56
              refine sv A56 S56 (opT_move (v := .int .i64 r11.1) rfl rfl) rfl rfl ?_
              clear A56 S56 a56 w56;intro a57 w57 A57 S57
              refine sv A57 S57 (opT_cmp (k := .i64) (m := r12) (n := r11.1) (c := r12 != r11.1) rfl rfl rfl rfl rfl) rfl rfl ?_
              clear A57 S57 a57 w57;intro a58 w58 A58 S58
              refine wpList_nil ?_
              replace A58 := A58.pick' (L' := [(1, .pointer (some ⟨g1, 0, none⟩)), (4, .pointer (some ⟨g2, 0, none⟩)), (6, .pointer (some ⟨g4, 0, none⟩)), (8, .int .i64 r11.1), (53, .bool (r12 != r11.1))]) ⟨rfl, rfl, rfl, rfl, rfl, trivial⟩
              refine nrm ?_
              rcases two (r12 != r11.1) with hb7 | hb7
              · replace hm := ifFe hb7 hm
                refine cnd_false (b := r12 != r11.1) A58 rfl rfl hb7 ?_
                refine wp_skip ?_
                refine nrm ?_
                refine wp_seq ?_
                refine wp_region_lit ?_
                refine seq_op A58 S58 rfl (opT_load_blk (g := g1) (off := 0) (E := 25) (l := [.int .i64 p0.1, va0, va1]) (d := [.int .i64 p0.1, va0, va1]) (u := .agg #[.int .i64 p0.1, va0, va1]) ti25 rfl rfl rfl rfl rfl rfl) (perm_front (i := 9) rfl) rfl ?_
                rintro u a59 w59 hf A59 (S59 : St I w0 w59 [Ch.blk g1 [.int .i64 p0.1, va0, va1] 25, Ch.own (rSlice 4 rBool) [v7] r11.2.1, Ch.own (rSlice 34 (rSlice 3 rInt)) [v8] r11.2.2, Ch.blk g4 [.int .i64 r5.1, v7, v8] 27, Ch.own (rSlice 4 rBool) [v3] r3.2.1, Ch.own (rSlice 34 (rSlice 3 rInt)) [v4] r3.2.2, Ch.blk g2 [.int .i64 r3.1, v3, v4] 27, Ch.own (rSlice 4 rBool) [v5] r9.2.1, Ch.own (rSlice 34 (rSlice 3 rInt)) [v6] r9.2.2, Ch.blk g3 [.int .i64 r4.1, v5, v6] 27, Ch.own (rSlice 4 rBool) [v9] r7.2.1, Ch.own (rSlice 34 (rSlice 3 rInt)) [v10] r7.2.2, Ch.own (rSlice 4 rBool) [v1] r2.2.1, Ch.own (rSlice 34 (rSlice 3 rInt)) [v2] r2.2.2, F])
                obtain rfl := Eq.symm hf
                clear A58 S58 a58 w58
                obtain ⟨r13, e13, hm⟩ := bind_some hm
                refine seq_op A59 S59 rfl (opT_call (args := #[.agg #[.int .i64 p0.1, va0, va1]]) (first := #[]) (captured := #[]) en14 rfl rfl rfl (c_w_toAutomaton (p0.1, p0.2.1, p0.2.2) _ e13 va0 va1 ra0 ra1)) (List.Perm.refl _) rfl ?_
                rintro u a60 w60 ⟨v11, v12, rfl⟩ A60 (S60 : St I w0 w60 [Ch.own (rSlice 4 rBool) [v11] r13.2.1, Ch.own (rSlice 34 (rSlice 3 rInt)) [v12] r13.2.2, Ch.blk g1 [.int .i64 p0.1, va0, va1] 25, Ch.own (rSlice 4 rBool) [v7] r11.2.1, Ch.own (rSlice 34 (rSlice 3 rInt)) [v8] r11.2.2, Ch.blk g4 [.int .i64 r5.1, v7, v8] 27, Ch.own (rSlice 4 rBool) [v3] r3.2.1, Ch.own (rSlice 34 (rSlice 3 rInt)) [v4] r3.2.2, Ch.blk g2 [.int .i64 r3.1, v3, v4] 27, Ch.own (rSlice 4 rBool) [v5] r9.2.1, Ch.own (rSlice 34 (rSlice 3 rInt)) [v6] r9.2.2, Ch.blk g3 [.int .i64 r4.1, v5, v6] 27, Ch.own (rSlice 4 rBool) [v9] r7.2.1, Ch.own (rSlice 34 (rSlice 3 rInt)) [v10] r7.2.2, Ch.own (rSlice 4 rBool) [v1] r2.2.1, Ch.own (rSlice 34 (rSlice 3 rInt)) [v2] r2.2.2, F])
                clear A59 S59 a59 w59
                obtain ⟨r14, e14, hm⟩ := bind_some hm
                refine seq_op A60 S60 rfl (OpT.lend (ls := [Ch.own (rSlice 4 rBool) [v11] r13.2.1, Ch.own (rSlice 34 (rSlice 3 rInt)) [v12] r13.2.2]) (gv := fun v => [Ch.own (rSlice 4 rBool) [vg v [1]] r14.2.1, Ch.own (rSlice 34 (rSlice 3 rInt)) [vg v [2]] r14.2.2]) (fun _ => ⟨dp_own (dp_slice dp_bool), dp_own (dp_slice (dp_slice dp_int)), trivial⟩) fun J hJ hl hb => opT_call (args := #[.agg #[.int .i64 r13.1, v11, v12]]) (first := #[]) (captured := #[]) en22 rfl rfl rfl (c_i_Minimize (r13.1, r13.2.1, r13.2.2) _ e14 v11 v12 (hl _ _ _ (List.Mem.head _)) (hl _ _ _ (List.Mem.tail _ (List.Mem.head _))))) (perm_sel [0, 1, 2, 3, 4, 5, 6, 7, 8, 9, 10, 11, 12, 13, 14, 15, 16] (m := 17) rfl rfl) rfl ?_
                rintro u a61 w61 ⟨v13, v14, rfl⟩ A61 (S61 : St I w0 w61 [Ch.own (rSlice 4 rBool) [v13] r14.2.1, Ch.own (rSlice 34 (rSlice 3 rInt)) [v14] r14.2.2, Ch.own (rSlice 4 rBool) [v11] r13.2.1, Ch.own (rSlice 34 (rSlice 3 rInt)) [v12] r13.2.2, Ch.blk g1 [.int .i64 p0.1, va0, va1] 25, Ch.own (rSlice 4 rBool) [v7] r11.2.1, Ch.own (rSlice 34 (rSlice 3 rInt)) [v8] r11.2.2, Ch.blk g4 [.int .i64 r5.1, v7, v8] 27, Ch.own (rSlice 4 rBool) [v3] r3.2.1, Ch.own (rSlice 34 (rSlice 3 rInt)) [v4] r3.2.2, Ch.blk g2 [.int .i64 r3.1, v3, v4] 27, Ch.own (rSlice 4 rBool) [v5] r9.2.1, Ch.own (rSlice 34 (rSlice 3 rInt)) [v6] r9.2.2, Ch.blk g3 [.int .i64 r4.1, v5, v6] 27, Ch.own (rSlice 4 rBool) [v9] r7.2.1, Ch.own (rSlice 34 (rSlice 3 rInt)) [v10] r7.2.2, Ch.own (rSlice 4 rBool) [v1] r2.2.1, Ch.own (rSlice 34 (rSlice 3 rInt)) [v2] r2.2.2, F])
                clear A60 S60 a60 w60
                refine seq_op A61 S61 rfl (opT_alloc (l := [.int .i64 0, .slice none 0 0, .slice none 0 0]) tz27 rfl rfl) (List.Perm.refl _) rfl ?_
                rintro _ a62 w62 ⟨g5, rfl⟩ A62 (S62 : St I w0 w62 [Ch.blk g5 [.int .i64 0, .slice none 0 0, .slice none 0 0] 27, Ch.own (rSlice 4 rBool) [v13] r14.2.1, Ch.own (rSlice 34 (rSlice 3 rInt)) [v14] r14.2.2, Ch.own (rSlice 4 rBool) [v11] r13.2.1, Ch.own (rSlice 34 (rSlice 3 rInt)) [v12] r13.2.2, Ch.blk g1 [.int .i64 p0.1, va0, va1] 25, Ch.own (rSlice 4 rBool) [v7] r11.2.1, Ch.own (rSlice 34 (rSlice 3 rInt)) [v8] r11.2.2, Ch.blk g4 [.int .i64 r5.1, v7, v8] 27, Ch.own (rSlice 4 rBool) [v3] r3.2.1, Ch.own (rSlice 34 (rSlice 3 rInt)) [v4] r3.2.2, Ch.blk g2 [.int .i64 r3.1, v3, v4] 27, Ch.own (rSlice 4 rBool) [v5] r9.2.1, Ch.own (rSlice 34 (rSlice 3 rInt)) [v6] r9.2.2, Ch.blk g3 [.int .i64 r4.1, v5, v6] 27, Ch.own (rSlice 4 rBool) [v9] r7.2.1, Ch.own (rSlice 34 (rSlice 3 rInt)) [v10] r7.2.2, Ch.own (rSlice 4 rBool) [v1] r2.2.1, Ch.own (rSlice 34 (rSlice 3 rInt)) [v2] r2.2.2, F])
                clear A61 S61 a61 w61
                refine seq_op A62 S62 rfl (opT_store_blk (g := g5) (off := 0) (l := [.int .i64 0, .slice none 0 0, .slice none 0 0]) (d := [.int .i64 r14.1, v13, v14]) (E := 27) (u := .agg #[.int .i64 r14.1, v13, v14]) ti27 rfl rfl rfl rfl rfl (allC rfl (allC (Hd.one (St.hd S62 1 rfl).1) (allC (Hd.one (St.hd S62 2 rfl).1) allN))) (Nat.le_of_ble_eq_true rfl)) (perm_front (i := 0) rfl) rfl ?_
                rintro _ a63 w63 - A63 (S63 : St I w0 w63 [Ch.blk g5 [.int .i64 r14.1, v13, v14] 27, Ch.own (rSlice 4 rBool) [v13] r14.2.1, Ch.own (rSlice 34 (rSlice 3 rInt)) [v14] r14.2.2, Ch.own (rSlice 4 rBool) [v11] r13.2.1, Ch.own (rSlice 34 (rSlice 3 rInt)) [v12] r13.2.2, Ch.blk g1 [.int .i64 p0.1, va0, va1] 25, Ch.own (rSlice 4 rBool) [v7] r11.2.1, Ch.own (rSlice 34 (rSlice 3 rInt)) [v8] r11.2.2, Ch.blk g4 [.int .i64 r5.1, v7, v8] 27, Ch.own (rSlice 4 rBool) [v3] r3.2.1, Ch.own (rSlice 34 (rSlice 3 rInt)) [v4] r3.2.2, Ch.blk g2 [.int .i64 r3.1, v3, v4] 27, Ch.own (rSlice 4 rBool) [v5] r9.2.1, Ch.own (rSlice 34 (rSlice 3 rInt)) [v6] r9.2.2, Ch.blk g3 [.int .i64 r4.1, v5, v6] 27, Ch.own (rSlice 4 rBool) [v9] r7.2.1, Ch.own (rSlice 34 (rSlice 3 rInt)) [v10] r7.2.2, Ch.own (rSlice 4 rBool) [v1] r2.2.1, Ch.own (rSlice 34 (rSlice 3 rInt)) [v2] r2.2.2, F])
                clear A62 S62 a62 w62
                refine wpList_nil ?_
                replace A63 := A63.pick' (L' := [(4, .pointer (some ⟨g2, 0, none⟩)), (6, .pointer (some ⟨g4, 0, none⟩)), (8, .int .i64 r11.1), (10, .pointer (some ⟨g5, 0, none⟩))]) ⟨rfl, rfl, rfl, rfl, trivial⟩
                refine nrm ?_
                refine wp_seq ?_
                refine wp_seq ?_
                refine wp_region_lit ?_
                refine seq_op A63 S63 rfl (opT_load_blk (g := g5) (off := 0) (E := 27) (l := [.int .i64 r14.1, v13, v14]) (d := [.int .i64 r14.1, v13, v14]) (u := .agg #[.int .i64 r14.1, v13, v14]) ti27 rfl rfl rfl rfl rfl rfl) (perm_front (i := 0) rfl) rfl ?_
                rintro u a64 w64 hf A64 (S64 : St I w0 w64 [Ch.blk g5 [.int .i64 r14.1, v13, v14] 27, Ch.own (rSlice 4 rBool) [v13] r14.2.1, Ch.own (rSlice 34 (rSlice 3 rInt)) [v14] r14.2.2, Ch.own (rSlice 4 rBool) [v11] r13.2.1, Ch.own (rSlice 34 (rSlice 3 rInt)) [v12] r13.2.2, Ch.blk g1 [.int .i64 p0.1, va0, va1] 25, Ch.own (rSlice 4 rBool) [v7] r11.2.1, Ch.own (rSlice 34 (rSlice 3 rInt)) [v8] r11.2.2, Ch.blk g4 [.int .i64 r5.1, v7, v8] 27, Ch.own (rSlice 4 rBool) [v3] r3.2.1, Ch.own (rSlice 34 (rSlice 3 rInt)) [v4] r3.2.2, Ch.blk g2 [.int .i64 r3.1, v3, v4] 27, Ch.own (rSlice 4 rBool) [v5] r9.2.1, Ch.own (rSlice 34 (rSlice 3 rInt)) [v6] r9.2.2, Ch.blk g3 [.int .i64 r4.1, v5, v6] 27, Ch.own (rSlice 4 rBool) [v9] r7.2.1, Ch.own (rSlice 34 (rSlice 3 rInt)) [v10] r7.2.2, Ch.own (rSlice 4 rBool) [v1] r2.2.1, Ch.own (rSlice 34 (rSlice 3 rInt)) [v2] r2.2.2, F])
                obtain rfl := Eq.symm hf
                clear A63 S63 a63 w63
                refine seq_op A64 S64 rfl (opT_load_blk (g := g2) (off := 0) (E := 27) (l := [.int .i64 r3.1, v3, v4]) (d := [.int .i64 r3.1, v3, v4]) (u := .agg #[.int .i64 r3.1, v3, v4]) ti27 rfl rfl rfl rfl rfl rfl) (perm_front (i := 11) rfl) rfl ?_
                rintro u a65 w65 hf A65 (S65 : St I w0 w65 [Ch.blk g2 [.int .i64 r3.1, v3, v4] 27, Ch.blk g5 [.int .i64 r14.1, v13, v14] 27, Ch.own (rSlice 4 rBool) [v13] r14.2.1, Ch.own (rSlice 34 (rSlice 3 rInt)) [v14] r14.2.2, Ch.own (rSlice 4 rBool) [v11] r13.2.1, Ch.own (rSlice 34 (rSlice 3 rInt)) [v12] r13.2.2, Ch.blk g1 [.int .i64 p0.1, va0, va1] 25, Ch.own (rSlice 4 rBool) [v7] r11.2.1, Ch.own (rSlice 34 (rSlice 3 rInt)) [v8] r11.2.2, Ch.blk g4 [.int .i64 r5.1, v7, v8] 27, Ch.own (rSlice 4 rBool) [v3] r3.2.1, Ch.own (rSlice 34 (rSlice 3 rInt)) [v4] r3.2.2, Ch.own (rSlice 4 rBool) [v5] r9.2.1, Ch.own (rSlice 34 (rSlice 3 rInt)) [v6] r9.2.2, Ch.blk g3 [.int .i64 r4.1, v5, v6] 27, Ch.own (rSlice 4 rBool) [v9] r7.2.1, Ch.own (rSlice 34 (rSlice 3 rInt)) [v10] r7.2.2, Ch.own (rSlice 4 rBool) [v1] r2.2.1, Ch.own (rSlice 34 (rSlice 3 rInt)) [v2] r2.2.2, F])
                obtain rfl := Eq.symm hf
                clear A64 S64 a64 w64
                obtain ⟨r15, e15, hm⟩ := bind_some hm
                refine seq_op A65 S65 rfl (OpT.lend (ls := [Ch.own (rSlice 4 rBool) [v13] r14.2.1, Ch.own (rSlice 34 (rSlice 3 rInt)) [v14] r14.2.2, Ch.own (rSlice 4 rBool) [v3] r3.2.1, Ch.own (rSlice 34 (rSlice 3 rInt)) [v4] r3.2.2]) (gv := fun v => []) (fun _ => trivial) fun J hJ hl hb => opT_call (args := #[.agg #[.int .i64 r14.1, v13, v14], .agg #[.int .i64 r3.1, v3, v4]]) (first := #[]) (captured := #[]) en16 rfl rfl rfl (c_w_eqAutomaton (r14.1, r14.2.1, r14.2.2) (r3.1, r3.2.1, r3.2.2) _ e15 v13 v14 v3 v4 (hl _ _ _ (List.Mem.head _)) (hl _ _ _ (List.Mem.tail _ (List.Mem.head _))) (hl _ _ _ (List.Mem.tail _ (List.Mem.tail _ (List.Mem.head _)))) (hl _ _ _ (List.Mem.tail _ (List.Mem.tail _ (List.Mem.tail _ (List.Mem.head _))))))) (perm_sel [2, 3, 10, 11, 0, 1, 4, 5, 6, 7, 8, 9, 12, 13, 14, 15, 16, 17, 18, 19] (m := 20) rfl rfl) rfl ?_
                rintro u a66 w66 hf A66 (S66 : St I w0 w66 [Ch.own (rSlice 4 rBool) [v13] r14.2.1, Ch.own (rSlice 34 (rSlice 3 rInt)) [v14] r14.2.2, Ch.own (rSlice 4 rBool) [v3] r3.2.1, Ch.own (rSlice 34 (rSlice 3 rInt)) [v4] r3.2.2, Ch.blk g2 [.int .i64 r3.1, v3, v4] 27, Ch.blk g5 [.int .i64 r14.1, v13, v14] 27, Ch.own (rSlice 4 rBool) [v11] r13.2.1, Ch.own (rSlice 34 (rSlice 3 rInt)) [v12] r13.2.2, Ch.blk g1 [.int .i64 p0.1, va0, va1] 25, Ch.own (rSlice 4 rBool) [v7] r11.2.1, Ch.own (rSlice 34 (rSlice 3 rInt)) [v8] r11.2.2, Ch.blk g4 [.int .i64 r5.1, v7, v8] 27, Ch.own (rSlice 4 rBool) [v5] r9.2.1, Ch.own (rSlice 34 (rSlice 3 rInt)) [v6] r9.2.2, Ch.blk g3 [.int .i64 r4.1, v5, v6] 27, Ch.own (rSlice 4 rBool) [v9] r7.2.1, Ch.own (rSlice 34 (rSlice 3 rInt)) [v10] r7.2.2, Ch.own (rSlice 4 rBool) [v1] r2.2.1, Ch.own (rSlice 34 (rSlice 3 rInt)) [v2] r2.2.2, F])
                obtain rfl := Eq.symm hf
                clear A65 S65 a65 w65
                refine sv A66 S66 (opT_not (b := r15) rfl rfl) rfl rfl ?_
                clear A66 S66 a66 w66;intro a67 w67 A67 S67
                refine wpList_nil ?_
                replace A67 := A67.pick' (L' := [(6, .pointer (some ⟨g4, 0, none⟩)), (8, .int .i64 r11.1), (60, .bool (!r15))]) ⟨rfl, rfl, rfl, trivial⟩
                refine nrm ?_
                rcases two (r15) with hb8 | hb8
                · replace hm := ifFe hb8 hm
                  refine cnd_true (b := !r15) A67 rfl rfl (notT hb8) ?_
                  refine wp_seq ?_
                  refine wp_region_lit ?_
                  refine sv A67 S67 (opT_assign (v := .bool false) rfl rfl) rfl rfl ?_
                  clear A67 S67 a67 w67;intro a68 w68 A68 S68
                  refine wpList_nil ?_
                  replace A68 := A68.pick' (L' := [(2, .bool false)]) ⟨rfl, trivial⟩
                  refine nrm ?_
                  refine wp_ret ?_
                  refine thenR ?_
                  obtain rfl := Option.some.inj hm
                  exact ret_1 A68 rfl (res_tmp A68 rfl) ⟨_, rfl, rfl, _, Hp.le.rfl, St.sel (S68) 20 [19] rfl rfl⟩
                · replace hm := ifTe hb8 hm
                  refine cnd_false (b := !r15) A67 rfl rfl (notF hb8) ?_
                  refine wp_skip ?_
                  refine nrm ?_
                  refine wp_seq ?_
                  refine wp_region_lit ?_
                  refine sv A67 S67 (opT_assign (v := .int .i64 1) rfl rfl) rfl rfl ?_
                  clear A67 S67 a67 w67;intro a69 w69 A69 S69
                  refine wpList_nil ?_
                  replace A69 := A69.pick' (L' := [(6, .pointer (some ⟨g4, 0, none⟩)), (8, .int .i64 r11.1), (9, .int .i64 1)]) ⟨rfl, rfl, rfl, trivial⟩
                  refine nrm ?_
                  refine wp_seq ?_
                  refine wp_region_lit ?_
                  refine seq_op A69 S69 rfl (opT_load_blk (g := g4) (off := 0) (E := 27) (l := [.int .i64 r5.1, v7, v8]) (d := [.int .i64 r5.1, v7, v8]) (u := .agg #[.int .i64 r5.1, v7, v8]) ti27 rfl rfl rfl rfl rfl rfl) (perm_front (i := 11) rfl) rfl ?_
                  rintro u a70 w70 hf A70 (S70 : St I w0 w70 [Ch.blk g4 [.int .i64 r5.1, v7, v8] 27, Ch.own (rSlice 4 rBool) [v13] r14.2.1, Ch.own (rSlice 34 (rSlice 3 rInt)) [v14] r14.2.2, Ch.own (rSlice 4 rBool) [v3] r3.2.1, Ch.own (rSlice 34 (rSlice 3 rInt)) [v4] r3.2.2, Ch.blk g2 [.int .i64 r3.1, v3, v4] 27, Ch.blk g5 [.int .i64 r14.1, v13, v14] 27, Ch.own (rSlice 4 rBool) [v11] r13.2.1, Ch.own (rSlice 34 (rSlice 3 rInt)) [v12] r13.2.2, Ch.blk g1 [.int .i64 p0.1, va0, va1] 25, Ch.own (rSlice 4 rBool) [v7] r11.2.1, Ch.own (rSlice 34 (rSlice 3 rInt)) [v8] r11.2.2, Ch.own (rSlice 4 rBool) [v5] r9.2.1, Ch.own (rSlice 34 (rSlice 3 rInt)) [v6] r9.2.2, Ch.blk g3 [.int .i64 r4.1, v5, v6] 27, Ch.own (rSlice 4 rBool) [v9] r7.2.1, Ch.own (rSlice 34 (rSlice 3 rInt)) [v10] r7.2.2, Ch.own (rSlice 4 rBool) [v1] r2.2.1, Ch.own (rSlice 34 (rSlice 3 rInt)) [v2] r2.2.2, F])
                  obtain rfl := Eq.symm hf
                  clear A69 S69 a69 w69
                  refine sv A70 S70 (opT_move (v := .int .i64 1) rfl rfl) rfl rfl ?_
                  clear A70 S70 a70 w70;intro a71 w71 A71 S71
                  obtain ⟨r16, e16, hm⟩ := bind_some hm
                  refine seq_op A71 S71 rfl (OpT.lend (ls := [Ch.own (rSlice 4 rBool) [v7] r11.2.1, Ch.own (rSlice 34 (rSlice 3 rInt)) [v8] r11.2.2]) (gv := fun v => []) (fun _ => trivial) fun J hJ hl hb => opT_call (args := #[.agg #[.int .i64 r5.1, v7, v8], .int .i64 1]) (first := #[]) (captured := #[]) en18 rfl rfl rfl (c_w_heldAutomaton (r5.1, r11.2.1, r11.2.2) 1 _ e16 v7 v8 (hl _ _ _ (List.Mem.head _)) (hl _ _ _ (List.Mem.tail _ (List.Mem.head _))))) (perm_sel [10, 11, 0, 1, 2, 3, 4, 5, 6, 7, 8, 9, 12, 13, 14, 15, 16, 17, 18, 19] (m := 20) rfl rfl) rfl ?_
                  rintro u a72 w72 hf A72 (S72 : St I w0 w72 [Ch.own (rSlice 4 rBool) [v7] r11.2.1, Ch.own (rSlice 34 (rSlice 3 rInt)) [v8] r11.2.2, Ch.blk g4 [.int .i64 r5.1, v7, v8] 27, Ch.own (rSlice 4 rBool) [v13] r14.2.1, Ch.own (rSlice 34 (rSlice 3 rInt)) [v14] r14.2.2, Ch.own (rSlice 4 rBool) [v3] r3.2.1, Ch.own (rSlice 34 (rSlice 3 rInt)) [v4] r3.2.2, Ch.blk g2 [.int .i64 r3.1, v3, v4] 27, Ch.blk g5 [.int .i64 r14.1, v13, v14] 27, Ch.own (rSlice 4 rBool) [v11] r13.2.1, Ch.own (rSlice 34 (rSlice 3 rInt)) [v12] r13.2.2, Ch.blk g1 [.int .i64 p0.1, va0, va1] 25, Ch.own (rSlice 4 rBool) [v5] r9.2.1, Ch.own (rSlice 34 (rSlice 3 rInt)) [v6] r9.2.2, Ch.blk g3 [.int .i64 r4.1, v5, v6] 27, Ch.own (rSlice 4 rBool) [v9] r7.2.1, Ch.own (rSlice 34 (rSlice 3 rInt)) [v10] r7.2.2, Ch.own (rSlice 4 rBool) [v1] r2.2.1, Ch.own (rSlice 34 (rSlice 3 rInt)) [v2] r2.2.2, F])
                  obtain rfl := Eq.symm hf
                  clear A71 S71 a71 w71
                  refine sv A72 S72 (opT_assign (v := .int .i64 r16) rfl rfl) rfl rfl ?_
                  clear A72 S72 a72 w72;intro a73 w73 A73 S73
                  refine wpList_nil ?_
                  replace A73 := A73.pick' (L' := [(8, .int .i64 r11.1), (9, .int .i64 r16)]) ⟨rfl, rfl, trivial⟩
                  refine nrm ?_
                  refine wp_seq ?_
                  refine wp_seq ?_
                  refine wp_region_lit ?_
                  refine sv A73 S73 (opT_move (v := .int .i64 r16) rfl rfl) rfl rfl ?_
                  clear A73 S73 a73 w73;intro a74 w74 A74 S74
                  refine sv A74 S74 (opT_cmp (k := .i64) (m := r16) (n := 0) (c := decide (r16 < 0)) rfl rfl rfl rfl rfl) rfl rfl ?_
                  clear A74 S74 a74 w74;intro a75 w75 A75 S75
                  refine wpList_nil ?_
                  replace A75 := A75.pick' (L' := [(8, .int .i64 r11.1), (9, .int .i64 r16), (65, .bool (decide (r16 < 0)))]) ⟨rfl, rfl, rfl, trivial⟩
                  refine nrm ?_
                  rcases two (decide (r16 < 0)) with hb9 | hb9
                  · replace hm := ifFe hb9 hm
                    refine cnd_false (b := decide (r16 < 0)) A75 rfl rfl hb9 ?_
                    refine wp_skip ?_
                    refine nrm ?_
                    refine wp_seq ?_
                    refine wp_seq ?_
                    refine wp_region_lit ?_
                    refine sv A75 S75 (opT_move (v := .int .i64 r16) rfl rfl) rfl rfl ?_
                    clear A75 S75 a75 w75;intro a76 w76 A76 S76
                    refine sv A76 S76 (opT_move (v := .int .i64 r11.1) rfl rfl) rfl rfl ?_
                    clear A76 S76 a76 w76;intro a77 w77 A77 S77
                    refine sv A77 S77 (opT_cmp (k := .i64) (m := r16) (n := r11.1) (c := r16 != r11.1) rfl rfl rfl rfl rfl) rfl rfl ?_
                    clear A77 S77 a77 w77;intro a78 w78 A78 S78
                    refine wpList_nil ?_
                    replace A78 := A78.pick' (L' := [(68, .bool (r16 != r11.1))]) ⟨rfl, trivial⟩
                    refine nrm ?_
                    rcases two (r16 != r11.1) with hb10 | hb10
                    · replace hm := ifFe hb10 hm
                      refine cnd_false (b := r16 != r11.1) A78 rfl rfl hb10 ?_
                      refine wp_skip ?_
                      refine nrm ?_
                      refine wp_seq ?_
                      refine wp_region_lit ?_
                      refine sv A78 S78 (opT_assign (v := .bool true) rfl rfl) rfl rfl ?_
                      clear A78 S78 a78 w78;intro a79 w79 A79 S79
                      refine wpList_nil ?_
                      replace A79 := A79.pick' (L' := [(2, .bool true)]) ⟨rfl, trivial⟩
                      refine nrm ?_
                      refine wp_ret ?_
                      obtain rfl := Option.some.inj hm
                      exact ret_1 A79 rfl (res_tmp A79 rfl) ⟨_, rfl, rfl, _, Hp.le.rfl, St.sel (S79) 20 [19] rfl rfl⟩
                    · replace hm := ifTe hb10 hm
                      refine cnd_true (b := r16 != r11.1) A78 rfl rfl hb10 ?_
                      refine wp_seq ?_
                      refine wp_region_lit ?_
                      refine sv A78 S78 (opT_assign (v := .bool false) rfl rfl) rfl rfl ?_
                      clear A78 S78 a78 w78;intro a80 w80 A80 S80
                      refine wpList_nil ?_
                      replace A80 := A80.pick' (L' := [(2, .bool false)]) ⟨rfl, trivial⟩
                      refine nrm ?_
                      refine wp_ret ?_
                      refine thenR ?_
                      obtain rfl := Option.some.inj hm
                      exact ret_1 A80 rfl (res_tmp A80 rfl) ⟨_, rfl, rfl, _, Hp.le.rfl, St.sel (S80) 20 [19] rfl rfl⟩
                  · replace hm := ifTe hb9 hm
                    refine cnd_true (b := decide (r16 < 0)) A75 rfl rfl hb9 ?_
                    refine wp_seq ?_
                    refine wp_region_lit ?_
                    refine sv A75 S75 (opT_assign (v := .bool false) rfl rfl) rfl rfl ?_
                    clear A75 S75 a75 w75;intro a81 w81 A81 S81
                    refine wpList_nil ?_
                    replace A81 := A81.pick' (L' := [(2, .bool false)]) ⟨rfl, trivial⟩
                    refine nrm ?_
                    refine wp_ret ?_
                    refine thenR ?_
                    obtain rfl := Option.some.inj hm
                    exact ret_1 A81 rfl (res_tmp A81 rfl) ⟨_, rfl, rfl, _, Hp.le.rfl, St.sel (S81) 20 [19] rfl rfl⟩
              · replace hm := ifTe hb7 hm
                refine cnd_true (b := r12 != r11.1) A58 rfl rfl hb7 ?_
                refine wp_seq ?_
                refine wp_region_lit ?_
                refine sv A58 S58 (opT_assign (v := .bool false) rfl rfl) rfl rfl ?_
                clear A58 S58 a58 w58;intro a82 w82 A82 S82
                refine wpList_nil ?_
                replace A82 := A82.pick' (L' := [(2, .bool false)]) ⟨rfl, trivial⟩
                refine nrm ?_
                refine wp_ret ?_
                refine thenR ?_
                obtain rfl := Option.some.inj hm
                exact ret_1 A82 rfl (res_tmp A82 rfl) ⟨_, rfl, rfl, _, Hp.le.rfl, St.sel (S82) 15 [14] rfl rfl⟩
            · replace hm := ifTe hb6 hm
              refine cnd_true (b := decide (r12 < 0)) A55 rfl rfl hb6 ?_
              refine wp_seq ?_
              refine wp_region_lit ?_
              refine sv A55 S55 (opT_assign (v := .bool false) rfl rfl) rfl rfl ?_
              clear A55 S55 a55 w55;intro a83 w83 A83 S83
              refine wpList_nil ?_
              replace A83 := A83.pick' (L' := [(2, .bool false)]) ⟨rfl, trivial⟩
              refine nrm ?_
              refine wp_ret ?_
              refine thenR ?_
              obtain rfl := Option.some.inj hm
              exact ret_1 A83 rfl (res_tmp A83 rfl) ⟨_, rfl, rfl, _, Hp.le.rfl, St.sel (S83) 15 [14] rfl rfl⟩
        · replace hm := ifTe hb4 hm
          refine seq_skip (g := 2) (d := 37) (want := false) (b := decide (r9.1 < 0)) A37 S37 rfl rfl rfl hb4 rfl ?_
          intro a84 A84
          refine seq_skip (g := 2) (d := 37) (want := false) (b := decide (r9.1 < 0)) A84 S37 rfl rfl rfl hb4 rfl ?_
          intro a85 A85
          refine seq_skip (g := 2) (d := 37) (want := false) (b := decide (r9.1 < 0)) A85 S37 rfl rfl rfl hb4 rfl ?_
          intro a86 A86
          refine seq_skip (g := 2) (d := 37) (want := false) (b := decide (r9.1 < 0)) A86 S37 rfl rfl rfl hb4 rfl ?_
          intro a87 A87
          refine sv A87 S37 (opT_pick (b := decide (r9.1 < 0)) (v := .bool true) rfl rfl (ifT hb4)) rfl rfl ?_
          clear A87 S37 a87 w37;intro a88 w88 A88 S88
          refine wpList_nil ?_
          replace A88 := A88.pick' (L' := [(1, .pointer (some ⟨g1, 0, none⟩)), (4, .pointer (some ⟨g2, 0, none⟩)), (6, .pointer (some ⟨g4, 0, none⟩)), (42, .bool true)]) ⟨rfl, rfl, rfl, rfl, trivial⟩
          refine nrm ?_
          refine cnd_true (b := true) A88 rfl rfl rfl ?_
          refine wp_seq ?_
          refine wp_region_lit ?_
          refine sv A88 S88 (opT_assign (v := .bool false) rfl rfl) rfl rfl ?_
          clear A88 S88 a88 w88;intro a89 w89 A89 S89
          refine wpList_nil ?_
          replace A89 := A89.pick' (L' := [(2, .bool false)]) ⟨rfl, trivial⟩
          refine nrm ?_
          refine wp_ret ?_
          refine thenR ?_
          obtain rfl := Option.some.inj hm
          exact ret_1 A89 rfl (res_tmp A89 rfl) ⟨_, rfl, rfl, _, Hp.le.rfl, St.sel (S89) 15 [14] rfl rfl⟩
  · replace hm := ifTe hb1 hm
    refine cnd_true (b := decide (r1 < 0)) A9 rfl rfl hb1 ?_
    refine wp_seq ?_
    refine wp_region_lit ?_
    refine sv A9 S9 (opT_assign (v := .bool true) rfl rfl) rfl rfl ?_
    clear A9 S9 a9 w9;intro a90 w90 A90 S90
    refine wpList_nil ?_
    replace A90 := A90.pick' (L' := [(2, .bool true)]) ⟨rfl, trivial⟩
    refine nrm ?_
    refine wp_ret ?_
    refine thenR ?_
    obtain rfl := Option.some.inj hm
    exact ret_1 A90 rfl (res_tmp A90 rfl) ⟨_, rfl, rfl, _, Hp.le.rfl, St.sel (S90) 2 [1] rfl rfl⟩
end Go.Proofs.Ytcihbmdppgpmjaa.D
