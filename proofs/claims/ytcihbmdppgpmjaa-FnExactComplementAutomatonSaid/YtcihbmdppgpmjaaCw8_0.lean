/- Printed by dec.py: models of functions and the walks that show them. -/
import Derived.Test.YtcihbmdppgpmjaaCw2_1
import Derived.Test.YtcihbmdppgpmjaaCw2_2
import Derived.Test.YtcihbmdppgpmjaaCw2_3
import Derived.Test.YtcihbmdppgpmjaaCw4_1
import Derived.Test.YtcihbmdppgpmjaaCw7_0
set_option linter.unusedVariables false
set_option linter.unusedSimpArgs false
set_option linter.unnecessarySimpa false
set_option maxRecDepth 100000
set_option maxHeartbeats 8000000
namespace Go.Proofs.Ytcihbmdppgpmjaa.D
open Go.RowKit
theorem c_w_FnExactComplementAutomaton (p0 : Int × (List Bool) × (List (List Int))) (r : Bool) (hm : m_w_FnExactComplementAutomaton p0 = some r) {I : Hp} {w0 : World} (va0 : Value) (va1 : Value) (ra0 : (rSlice 4 rBool).rd I [va0] p0.2.1) (ra1 : (rSlice 34 (rSlice 3 rInt)).rd I [va1] p0.2.2) : Con Try.prog 10 #[.agg #[.int .i64 p0.1, va0, va1]] I w0 [] (fun v => v = .bool r) (fun v => []) := by
  refine con_of_wp (n := 96) [(0, .agg #[.int .i64 p0.1, va0, va1])] Try.func10 rfl rfl (Nat.le_of_ble_eq_true rfl) (args_all ⟨rfl, trivial⟩) (fun F w a ha hs => ?_) (fun v => trivial)
  unfold m_w_FnExactComplementAutomaton at hm
  refine wp_seq (wp_region_lit (rn ha hs (sop (opT_box (u := .agg #[.int .i64 p0.1, va0, va1]) (l := [.int .i64 p0.1, va0, va1]) rfl rfl rfl) (List.Perm.refl _) rfl rfl ?_)))
  rintro _ a1 w1 ⟨g1, rfl⟩ A1 (S1 : St I w0 w1 [Ch.blk g1 [.int .i64 p0.1, va0, va1] 25, F])
  clear ha hs a w
  refine rn A1 S1 (sv (opT_assign (v := .bool false) rfl rfl) rfl rfl (enR (L' := [(1, .pointer (some ⟨g1, 0, none⟩))]) rfl ?_))
  clear A1 S1 a1 w1;intro a2 w2 A2 S2
  refine nrm (wp_seq (wp_region_lit (rn A2 S2 (sv (opT_assign (v := .int .i64 1048576) rfl rfl) rfl rfl (enR (L' := [(1, .pointer (some ⟨g1, 0, none⟩)), (3, .int .i64 1048576)]) rfl ?_)))))
  clear A2 S2 a2 w2;intro a3 w3 A3 S3
  refine nrm (wp_seq (wp_region_lit (rn A3 S3 (sop (opT_load_blk (g := g1) (off := 0) (E := 25) (l := [.int .i64 p0.1, va0, va1]) (d := [.int .i64 p0.1, va0, va1]) (u := .agg #[.int .i64 p0.1, va0, va1]) ti25 rfl rfl rfl rfl rfl rfl) (perm_front (i := 0) rfl) rfl rfl ?_))))
  rintro u a4 w4 hf A4 (S4 : St I w0 w4 [Ch.blk g1 [.int .i64 p0.1, va0, va1] 25, F])
  obtain rfl := Eq.symm hf
  clear A3 S3 a3 w3
  refine rn A4 S4 (sv (opT_move (v := .int .i64 1048576) rfl rfl) rfl rfl ?_)
  obtain ⟨r1, e1, hm⟩ := bind_some hm
  refine so0 (opT_call (args := #[.agg #[.int .i64 p0.1, va0, va1], .int .i64 1048576]) (first := #[]) (captured := #[]) en12 rfl rfl rfl (c_w_szAutomaton (p0.1, p0.2.1, p0.2.2) 1048576 _ e1 va0 va1 ra0 ra1)) rfl rfl ?_
  rintro u a5 w5 hf A5 S5
  obtain rfl := Eq.symm hf
  clear A4 S4 a4 w4
  refine rn A5 S5 (sv (opT_assign (v := .int .i64 r1) rfl rfl) rfl rfl (enR (L' := [(1, .pointer (some ⟨g1, 0, none⟩)), (3, .int .i64 r1)]) rfl ?_))
  clear A5 S5 a5 w5;intro a6 w6 A6 S6
  refine nrm (wp_seq (wp_seq (wp_region_lit (rn A6 S6 (sv (opT_move (v := .int .i64 r1) rfl rfl) rfl rfl (sv (opT_cmp (k := .i64) (m := r1) (n := 0) (c := decide (r1 < 0)) rfl rfl rfl rfl rfl) rfl rfl (enR (L' := [(1, .pointer (some ⟨g1, 0, none⟩)), (18, .bool (decide (r1 < 0)))]) rfl ?_)))))))
  clear A6 S6 a6 w6;intro a7 w7 A7 S7
  refine nrm ?_
  rcases two (decide (r1 < 0)) with hb1 | hb1
  · replace hm := ifFe hb1 hm
    refine cnd_false (b := decide (r1 < 0)) A7 rfl rfl hb1 ?_
    refine wp_skip (nrm (wp_seq (wp_region_lit (rn A7 S7 (sop (opT_load_blk (g := g1) (off := 0) (E := 25) (l := [.int .i64 p0.1, va0, va1]) (d := [.int .i64 p0.1, va0, va1]) (u := .agg #[.int .i64 p0.1, va0, va1]) ti25 rfl rfl rfl rfl rfl rfl) (perm_front (i := 0) rfl) rfl rfl ?_)))))
    rintro u a8 w8 hf A8 (S8 : St I w0 w8 [Ch.blk g1 [.int .i64 p0.1, va0, va1] 25, F])
    obtain rfl := Eq.symm hf
    clear A7 S7 a7 w7
    obtain ⟨r2, e2, hm⟩ := bind_some hm
    refine rn A8 S8 (sop (opT_call (args := #[.agg #[.int .i64 p0.1, va0, va1]]) (first := #[]) (captured := #[]) en14 rfl rfl rfl (c_w_toAutomaton (p0.1, p0.2.1, p0.2.2) _ e2 va0 va1 ra0 ra1)) (List.Perm.refl _) rfl rfl ?_)
    rintro u a9 w9 ⟨v1, v2, rfl⟩ A9 (S9 : St I w0 w9 [Ch.own (rSlice 4 rBool) [v1] r2.2.1, Ch.own (rSlice 34 (rSlice 3 rInt)) [v2] r2.2.2, Ch.blk g1 [.int .i64 p0.1, va0, va1] 25, F])
    clear A8 S8 a8 w8
    obtain ⟨r3, e3, hm⟩ := bind_some hm
    refine rn A9 S9 (sop (OpT.lend (ls := [Ch.own (rSlice 4 rBool) [v1] r2.2.1, Ch.own (rSlice 34 (rSlice 3 rInt)) [v2] r2.2.2]) (gv := fun v => [Ch.own (rSlice 4 rBool) [vg v [0, 1]] r3.1.2.1, Ch.own (rSlice 34 (rSlice 3 rInt)) [vg v [0, 2]] r3.1.2.2]) (fun _ => ⟨dp_own (dp_slice dp_bool), dp_own (dp_slice (dp_slice dp_int)), trivial⟩) fun J hJ hl hb => opT_call (args := #[.agg #[.int .i64 r2.1, v1, v2]]) (first := #[]) (captured := #[]) en37 rfl rfl rfl (c_s_ComplementAutomaton (r2.1, r2.2.1, r2.2.2) _ e3 v1 v2 (hl _ _ _ (List.Mem.head _)) (hl _ _ _ (List.Mem.tail _ (List.Mem.head _))))) (perm_sel [0, 1, 2, 3] (m := 4) rfl rfl) rfl rfl ?_)
    rintro u a10 w10 ⟨v3, v4, rfl⟩ A10 (S10 : St I w0 w10 [Ch.own (rSlice 4 rBool) [v3] r3.1.2.1, Ch.own (rSlice 34 (rSlice 3 rInt)) [v4] r3.1.2.2, Ch.own (rSlice 4 rBool) [v1] r2.2.1, Ch.own (rSlice 34 (rSlice 3 rInt)) [v2] r2.2.2, Ch.blk g1 [.int .i64 p0.1, va0, va1] 25, F])
    clear A9 S9 a9 w9
    refine rn A10 S10 (sv (opT_move (v := .tuple #[.agg #[.int .i64 r3.1.1, v3, v4], .bool r3.2]) rfl rfl) rfl rfl (sv (opT_extract (vs := #[.agg #[.int .i64 r3.1.1, v3, v4], .bool r3.2]) (v := .agg #[.int .i64 r3.1.1, v3, v4]) rfl rfl rfl) rfl rfl (sv (opT_extract (vs := #[.agg #[.int .i64 r3.1.1, v3, v4], .bool r3.2]) (v := .bool r3.2) rfl rfl rfl) rfl rfl (sop (opT_alloc (l := [.int .i64 0, .slice none 0 0, .slice none 0 0]) tz27 rfl rfl) (List.Perm.refl _) rfl rfl ?_))))
    rintro _ a11 w11 ⟨g2, rfl⟩ A11 (S11 : St I w0 w11 [Ch.blk g2 [.int .i64 0, .slice none 0 0, .slice none 0 0] 27, Ch.own (rSlice 4 rBool) [v3] r3.1.2.1, Ch.own (rSlice 34 (rSlice 3 rInt)) [v4] r3.1.2.2, Ch.own (rSlice 4 rBool) [v1] r2.2.1, Ch.own (rSlice 34 (rSlice 3 rInt)) [v2] r2.2.2, Ch.blk g1 [.int .i64 p0.1, va0, va1] 25, F])
    clear A10 S10 a10 w10
    refine rn A11 S11 (sop (opT_store_blk (g := g2) (off := 0) (l := [.int .i64 0, .slice none 0 0, .slice none 0 0]) (d := [.int .i64 r3.1.1, v3, v4]) (E := 27) (u := .agg #[.int .i64 r3.1.1, v3, v4]) ti27 rfl rfl rfl rfl rfl (allC rfl (allC (Hd.one (St.hd S11 1 rfl).1) (allC (Hd.one (St.hd S11 2 rfl).1) allN))) (Nat.le_of_ble_eq_true rfl)) (perm_front (i := 0) rfl) rfl rfl ?_)
    rintro _ a12 w12 - A12 (S12 : St I w0 w12 [Ch.blk g2 [.int .i64 r3.1.1, v3, v4] 27, Ch.own (rSlice 4 rBool) [v3] r3.1.2.1, Ch.own (rSlice 34 (rSlice 3 rInt)) [v4] r3.1.2.2, Ch.own (rSlice 4 rBool) [v1] r2.2.1, Ch.own (rSlice 34 (rSlice 3 rInt)) [v2] r2.2.2, Ch.blk g1 [.int .i64 p0.1, va0, va1] 25, F])
    clear A11 S11 a11 w11
    refine rn A12 S12 (sv (opT_assign (v := .bool r3.2) rfl rfl) rfl rfl (enR (L' := [(1, .pointer (some ⟨g1, 0, none⟩)), (4, .pointer (some ⟨g2, 0, none⟩)), (5, .bool r3.2)]) rfl ?_))
    clear A12 S12 a12 w12;intro a13 w13 A13 S13
    refine nrm (wp_seq (wp_region_lit (rn A13 S13 (sop (opT_load_blk (g := g1) (off := 0) (E := 25) (l := [.int .i64 p0.1, va0, va1]) (d := [.int .i64 p0.1, va0, va1]) (u := .agg #[.int .i64 p0.1, va0, va1]) ti25 rfl rfl rfl rfl rfl rfl) (perm_front (i := 5) rfl) rfl rfl ?_))))
    rintro u a14 w14 hf A14 (S14 : St I w0 w14 [Ch.blk g1 [.int .i64 p0.1, va0, va1] 25, Ch.blk g2 [.int .i64 r3.1.1, v3, v4] 27, Ch.own (rSlice 4 rBool) [v3] r3.1.2.1, Ch.own (rSlice 34 (rSlice 3 rInt)) [v4] r3.1.2.2, Ch.own (rSlice 4 rBool) [v1] r2.2.1, Ch.own (rSlice 34 (rSlice 3 rInt)) [v2] r2.2.2, F])
    obtain rfl := Eq.symm hf
    clear A13 S13 a13 w13
    obtain ⟨r4, e4, hm⟩ := bind_some hm
    refine rn A14 S14 (sop (opT_call (args := #[.agg #[.int .i64 p0.1, va0, va1]]) (first := #[]) (captured := #[]) en14 rfl rfl rfl (c_w_toAutomaton (p0.1, p0.2.1, p0.2.2) _ e4 va0 va1 ra0 ra1)) (List.Perm.refl _) rfl rfl ?_)
    rintro u a15 w15 ⟨v5, v6, rfl⟩ A15 (S15 : St I w0 w15 [Ch.own (rSlice 4 rBool) [v5] r4.2.1, Ch.own (rSlice 34 (rSlice 3 rInt)) [v6] r4.2.2, Ch.blk g1 [.int .i64 p0.1, va0, va1] 25, Ch.blk g2 [.int .i64 r3.1.1, v3, v4] 27, Ch.own (rSlice 4 rBool) [v3] r3.1.2.1, Ch.own (rSlice 34 (rSlice 3 rInt)) [v4] r3.1.2.2, Ch.own (rSlice 4 rBool) [v1] r2.2.1, Ch.own (rSlice 34 (rSlice 3 rInt)) [v2] r2.2.2, F])
    clear A14 S14 a14 w14
    refine rn A15 S15 (sop (opT_alloc (l := [.int .i64 0, .slice none 0 0, .slice none 0 0]) tz27 rfl rfl) (List.Perm.refl _) rfl rfl ?_)
    rintro _ a16 w16 ⟨g3, rfl⟩ A16 (S16 : St I w0 w16 [Ch.blk g3 [.int .i64 0, .slice none 0 0, .slice none 0 0] 27, Ch.own (rSlice 4 rBool) [v5] r4.2.1, Ch.own (rSlice 34 (rSlice 3 rInt)) [v6] r4.2.2, Ch.blk g1 [.int .i64 p0.1, va0, va1] 25, Ch.blk g2 [.int .i64 r3.1.1, v3, v4] 27, Ch.own (rSlice 4 rBool) [v3] r3.1.2.1, Ch.own (rSlice 34 (rSlice 3 rInt)) [v4] r3.1.2.2, Ch.own (rSlice 4 rBool) [v1] r2.2.1, Ch.own (rSlice 34 (rSlice 3 rInt)) [v2] r2.2.2, F])
    clear A15 S15 a15 w15
    refine rn A16 S16 (sop (opT_store_blk (g := g3) (off := 0) (l := [.int .i64 0, .slice none 0 0, .slice none 0 0]) (d := [.int .i64 r4.1, v5, v6]) (E := 27) (u := .agg #[.int .i64 r4.1, v5, v6]) ti27 rfl rfl rfl rfl rfl (allC rfl (allC (Hd.one (St.hd S16 1 rfl).1) (allC (Hd.one (St.hd S16 2 rfl).1) allN))) (Nat.le_of_ble_eq_true rfl)) (perm_front (i := 0) rfl) rfl rfl ?_)
    rintro _ a17 w17 - A17 (S17 : St I w0 w17 [Ch.blk g3 [.int .i64 r4.1, v5, v6] 27, Ch.own (rSlice 4 rBool) [v5] r4.2.1, Ch.own (rSlice 34 (rSlice 3 rInt)) [v6] r4.2.2, Ch.blk g1 [.int .i64 p0.1, va0, va1] 25, Ch.blk g2 [.int .i64 r3.1.1, v3, v4] 27, Ch.own (rSlice 4 rBool) [v3] r3.1.2.1, Ch.own (rSlice 34 (rSlice 3 rInt)) [v4] r3.1.2.2, Ch.own (rSlice 4 rBool) [v1] r2.2.1, Ch.own (rSlice 34 (rSlice 3 rInt)) [v2] r2.2.2, F])
    clear A16 S16 a16 w16
    replace A17 := A17.pk (L' := [(1, .pointer (some ⟨g1, 0, none⟩)), (4, .pointer (some ⟨g2, 0, none⟩)), (5, .bool r3.2), (6, .pointer (some ⟨g3, 0, none⟩))]) rfl
    refine wpList_nil (nrm (wp_seq (wp_region_lit (rn A17 S17 (sop (opT_load_blk (g := g3) (off := 0) (E := 27) (l := [.int .i64 r4.1, v5, v6]) (d := [.int .i64 r4.1, v5, v6]) (u := .agg #[.int .i64 r4.1, v5, v6]) ti27 rfl rfl rfl rfl rfl rfl) (perm_front (i := 0) rfl) rfl rfl ?_)))))
    rintro u a18 w18 hf A18 (S18 : St I w0 w18 [Ch.blk g3 [.int .i64 r4.1, v5, v6] 27, Ch.own (rSlice 4 rBool) [v5] r4.2.1, Ch.own (rSlice 34 (rSlice 3 rInt)) [v6] r4.2.2, Ch.blk g1 [.int .i64 p0.1, va0, va1] 25, Ch.blk g2 [.int .i64 r3.1.1, v3, v4] 27, Ch.own (rSlice 4 rBool) [v3] r3.1.2.1, Ch.own (rSlice 34 (rSlice 3 rInt)) [v4] r3.1.2.2, Ch.own (rSlice 4 rBool) [v1] r2.2.1, Ch.own (rSlice 34 (rSlice 3 rInt)) [v2] r2.2.2, F])
    obtain rfl := Eq.symm hf
    clear A17 S17 a17 w17
    obtain ⟨r5, e5, hm⟩ := bind_some hm
    refine rn A18 S18 (sop (OpT.lend (ls := [Ch.own (rSlice 4 rBool) [v5] r4.2.1, Ch.own (rSlice 34 (rSlice 3 rInt)) [v6] r4.2.2]) (gv := fun v => [Ch.own (rSlice 4 rBool) [vg v [0, 1]] r5.1.2.1, Ch.own (rSlice 34 (rSlice 3 rInt)) [vg v [0, 2]] r5.1.2.2]) (fun _ => ⟨dp_own (dp_slice dp_bool), dp_own (dp_slice (dp_slice dp_int)), trivial⟩) fun J hJ hl hb => opT_call (args := #[.agg #[.int .i64 r4.1, v5, v6]]) (first := #[]) (captured := #[]) en38 rfl rfl rfl (c_i_ComplementAutomaton (r4.1, r4.2.1, r4.2.2) _ e5 v5 v6 (hl _ _ _ (List.Mem.head _)) (hl _ _ _ (List.Mem.tail _ (List.Mem.head _))))) (perm_sel [1, 2, 0, 3, 4, 5, 6, 7, 8, 9] (m := 10) rfl rfl) rfl rfl ?_)
    rintro u a19 w19 ⟨v7, v8, rfl⟩ A19 (S19 : St I w0 w19 [Ch.own (rSlice 4 rBool) [v7] r5.1.2.1, Ch.own (rSlice 34 (rSlice 3 rInt)) [v8] r5.1.2.2, Ch.own (rSlice 4 rBool) [v5] r4.2.1, Ch.own (rSlice 34 (rSlice 3 rInt)) [v6] r4.2.2, Ch.blk g3 [.int .i64 r4.1, v5, v6] 27, Ch.blk g1 [.int .i64 p0.1, va0, va1] 25, Ch.blk g2 [.int .i64 r3.1.1, v3, v4] 27, Ch.own (rSlice 4 rBool) [v3] r3.1.2.1, Ch.own (rSlice 34 (rSlice 3 rInt)) [v4] r3.1.2.2, Ch.own (rSlice 4 rBool) [v1] r2.2.1, Ch.own (rSlice 34 (rSlice 3 rInt)) [v2] r2.2.2, F])
    clear A18 S18 a18 w18
    refine rn A19 S19 (sv (opT_move (v := .tuple #[.agg #[.int .i64 r5.1.1, v7, v8], .bool r5.2]) rfl rfl) rfl rfl (sv (opT_extract (vs := #[.agg #[.int .i64 r5.1.1, v7, v8], .bool r5.2]) (v := .agg #[.int .i64 r5.1.1, v7, v8]) rfl rfl rfl) rfl rfl (sv (opT_extract (vs := #[.agg #[.int .i64 r5.1.1, v7, v8], .bool r5.2]) (v := .bool r5.2) rfl rfl rfl) rfl rfl (sop (opT_alloc (l := [.int .i64 0, .slice none 0 0, .slice none 0 0]) tz27 rfl rfl) (List.Perm.refl _) rfl rfl ?_))))
    rintro _ a20 w20 ⟨g4, rfl⟩ A20 (S20 : St I w0 w20 [Ch.blk g4 [.int .i64 0, .slice none 0 0, .slice none 0 0] 27, Ch.own (rSlice 4 rBool) [v7] r5.1.2.1, Ch.own (rSlice 34 (rSlice 3 rInt)) [v8] r5.1.2.2, Ch.own (rSlice 4 rBool) [v5] r4.2.1, Ch.own (rSlice 34 (rSlice 3 rInt)) [v6] r4.2.2, Ch.blk g3 [.int .i64 r4.1, v5, v6] 27, Ch.blk g1 [.int .i64 p0.1, va0, va1] 25, Ch.blk g2 [.int .i64 r3.1.1, v3, v4] 27, Ch.own (rSlice 4 rBool) [v3] r3.1.2.1, Ch.own (rSlice 34 (rSlice 3 rInt)) [v4] r3.1.2.2, Ch.own (rSlice 4 rBool) [v1] r2.2.1, Ch.own (rSlice 34 (rSlice 3 rInt)) [v2] r2.2.2, F])
    clear A19 S19 a19 w19
    refine rn A20 S20 (sop (opT_store_blk (g := g4) (off := 0) (l := [.int .i64 0, .slice none 0 0, .slice none 0 0]) (d := [.int .i64 r5.1.1, v7, v8]) (E := 27) (u := .agg #[.int .i64 r5.1.1, v7, v8]) ti27 rfl rfl rfl rfl rfl (allC rfl (allC (Hd.one (St.hd S20 1 rfl).1) (allC (Hd.one (St.hd S20 2 rfl).1) allN))) (Nat.le_of_ble_eq_true rfl)) (perm_front (i := 0) rfl) rfl rfl ?_)
    rintro _ a21 w21 - A21 (S21 : St I w0 w21 [Ch.blk g4 [.int .i64 r5.1.1, v7, v8] 27, Ch.own (rSlice 4 rBool) [v7] r5.1.2.1, Ch.own (rSlice 34 (rSlice 3 rInt)) [v8] r5.1.2.2, Ch.own (rSlice 4 rBool) [v5] r4.2.1, Ch.own (rSlice 34 (rSlice 3 rInt)) [v6] r4.2.2, Ch.blk g3 [.int .i64 r4.1, v5, v6] 27, Ch.blk g1 [.int .i64 p0.1, va0, va1] 25, Ch.blk g2 [.int .i64 r3.1.1, v3, v4] 27, Ch.own (rSlice 4 rBool) [v3] r3.1.2.1, Ch.own (rSlice 34 (rSlice 3 rInt)) [v4] r3.1.2.2, Ch.own (rSlice 4 rBool) [v1] r2.2.1, Ch.own (rSlice 34 (rSlice 3 rInt)) [v2] r2.2.2, F])
    clear A20 S20 a20 w20
    refine rn A21 S21 (sv (opT_assign (v := .bool r5.2) rfl rfl) rfl rfl (enR (L' := [(1, .pointer (some ⟨g1, 0, none⟩)), (4, .pointer (some ⟨g2, 0, none⟩)), (5, .bool r3.2), (6, .pointer (some ⟨g3, 0, none⟩)), (7, .pointer (some ⟨g4, 0, none⟩)), (8, .bool r5.2)]) rfl ?_))
    clear A21 S21 a21 w21;intro a22 w22 A22 S22
    refine nrm (wp_seq (wp_seq (wp_region_lit (rn A22 S22 (sop (opT_load_blk (g := g4) (off := 0) (E := 27) (l := [.int .i64 r5.1.1, v7, v8]) (d := [.int .i64 r5.1.1, v7, v8]) (u := .agg #[.int .i64 r5.1.1, v7, v8]) ti27 rfl rfl rfl rfl rfl rfl) (perm_front (i := 0) rfl) rfl rfl ?_)))))
    rintro u a23 w23 hf A23 (S23 : St I w0 w23 [Ch.blk g4 [.int .i64 r5.1.1, v7, v8] 27, Ch.own (rSlice 4 rBool) [v7] r5.1.2.1, Ch.own (rSlice 34 (rSlice 3 rInt)) [v8] r5.1.2.2, Ch.own (rSlice 4 rBool) [v5] r4.2.1, Ch.own (rSlice 34 (rSlice 3 rInt)) [v6] r4.2.2, Ch.blk g3 [.int .i64 r4.1, v5, v6] 27, Ch.blk g1 [.int .i64 p0.1, va0, va1] 25, Ch.blk g2 [.int .i64 r3.1.1, v3, v4] 27, Ch.own (rSlice 4 rBool) [v3] r3.1.2.1, Ch.own (rSlice 34 (rSlice 3 rInt)) [v4] r3.1.2.2, Ch.own (rSlice 4 rBool) [v1] r2.2.1, Ch.own (rSlice 34 (rSlice 3 rInt)) [v2] r2.2.2, F])
    obtain rfl := Eq.symm hf
    clear A22 S22 a22 w22
    refine rn A23 S23 (sop (opT_load_blk (g := g2) (off := 0) (E := 27) (l := [.int .i64 r3.1.1, v3, v4]) (d := [.int .i64 r3.1.1, v3, v4]) (u := .agg #[.int .i64 r3.1.1, v3, v4]) ti27 rfl rfl rfl rfl rfl rfl) (perm_front (i := 7) rfl) rfl rfl ?_)
    rintro u a24 w24 hf A24 (S24 : St I w0 w24 [Ch.blk g2 [.int .i64 r3.1.1, v3, v4] 27, Ch.blk g4 [.int .i64 r5.1.1, v7, v8] 27, Ch.own (rSlice 4 rBool) [v7] r5.1.2.1, Ch.own (rSlice 34 (rSlice 3 rInt)) [v8] r5.1.2.2, Ch.own (rSlice 4 rBool) [v5] r4.2.1, Ch.own (rSlice 34 (rSlice 3 rInt)) [v6] r4.2.2, Ch.blk g3 [.int .i64 r4.1, v5, v6] 27, Ch.blk g1 [.int .i64 p0.1, va0, va1] 25, Ch.own (rSlice 4 rBool) [v3] r3.1.2.1, Ch.own (rSlice 34 (rSlice 3 rInt)) [v4] r3.1.2.2, Ch.own (rSlice 4 rBool) [v1] r2.2.1, Ch.own (rSlice 34 (rSlice 3 rInt)) [v2] r2.2.2, F])
    obtain rfl := Eq.symm hf
    clear A23 S23 a23 w23
    obtain ⟨r6, e6, hm⟩ := bind_some hm
    refine rn A24 S24 (sop (OpT.lend (ls := [Ch.own (rSlice 4 rBool) [v7] r5.1.2.1, Ch.own (rSlice 34 (rSlice 3 rInt)) [v8] r5.1.2.2, Ch.own (rSlice 4 rBool) [v3] r3.1.2.1, Ch.own (rSlice 34 (rSlice 3 rInt)) [v4] r3.1.2.2]) (gv := fun v => []) (fun _ => trivial) fun J hJ hl hb => opT_call (args := #[.agg #[.int .i64 r5.1.1, v7, v8], .agg #[.int .i64 r3.1.1, v3, v4]]) (first := #[]) (captured := #[]) en16 rfl rfl rfl (c_w_eqAutomaton (r5.1.1, r5.1.2.1, r5.1.2.2) (r3.1.1, r3.1.2.1, r3.1.2.2) _ e6 v7 v8 v3 v4 (hl _ _ _ (List.Mem.head _)) (hl _ _ _ (List.Mem.tail _ (List.Mem.head _))) (hl _ _ _ (List.Mem.tail _ (List.Mem.tail _ (List.Mem.head _)))) (hl _ _ _ (List.Mem.tail _ (List.Mem.tail _ (List.Mem.tail _ (List.Mem.head _))))))) (perm_sel [2, 3, 8, 9, 0, 1, 4, 5, 6, 7, 10, 11, 12] (m := 13) rfl rfl) rfl rfl ?_)
    rintro u a25 w25 hf A25 (S25 : St I w0 w25 [Ch.own (rSlice 4 rBool) [v7] r5.1.2.1, Ch.own (rSlice 34 (rSlice 3 rInt)) [v8] r5.1.2.2, Ch.own (rSlice 4 rBool) [v3] r3.1.2.1, Ch.own (rSlice 34 (rSlice 3 rInt)) [v4] r3.1.2.2, Ch.blk g2 [.int .i64 r3.1.1, v3, v4] 27, Ch.blk g4 [.int .i64 r5.1.1, v7, v8] 27, Ch.own (rSlice 4 rBool) [v5] r4.2.1, Ch.own (rSlice 34 (rSlice 3 rInt)) [v6] r4.2.2, Ch.blk g3 [.int .i64 r4.1, v5, v6] 27, Ch.blk g1 [.int .i64 p0.1, va0, va1] 25, Ch.own (rSlice 4 rBool) [v1] r2.2.1, Ch.own (rSlice 34 (rSlice 3 rInt)) [v2] r2.2.2, F])
    obtain rfl := Eq.symm hf
    clear A24 S24 a24 w24
    refine rn A25 S25 (sv (opT_not (b := r6) rfl rfl) rfl rfl (sv (opT_move (v := .bool (!r6)) rfl rfl) rfl rfl ?_))
    rcases two (r6) with hb2 | hb2
    · replace hm := ifFe hb2 hm
      refine ssk (g := 4) (d := 36) (want := false) (b := !r6) rfl rfl rfl (notT hb2) rfl (ssk (g := 4) (d := 36) (want := false) (b := !r6) rfl rfl rfl (notT hb2) rfl (ssk (g := 4) (d := 36) (want := false) (b := !r6) rfl rfl rfl (notT hb2) rfl (sv (opT_pick (b := !r6) (v := .bool true) rfl rfl (ifT (notT hb2))) rfl rfl (enR (L' := [(1, .pointer (some ⟨g1, 0, none⟩)), (4, .pointer (some ⟨g2, 0, none⟩)), (5, .bool r3.2), (6, .pointer (some ⟨g3, 0, none⟩)), (7, .pointer (some ⟨g4, 0, none⟩)), (8, .bool r5.2), (40, .bool true)]) rfl ?_))))
      clear A25 S25 a25 w25;intro a26 w26 A26 S26
      refine nrm (cnd_true (b := true) A26 rfl rfl rfl ?_)
      refine wp_seq (wp_region_lit (rn A26 S26 (sv (opT_assign (v := .bool false) rfl rfl) rfl rfl (enR (L' := [(2, .bool false)]) rfl ?_))))
      clear A26 S26 a26 w26;intro a27 w27 A27 S27
      refine nrm (wp_ret (thenR ?_))
      obtain rfl := Option.some.inj hm
      exact ret_1 A27 rfl (res_tmp A27 rfl) ⟨_, rfl, rfl, _, Hp.le.rfl, St.sel (S27) 13 [12] rfl rfl⟩
    replace hm := ifTe hb2 hm
    refine svg (g := 4) (d := 36) (want := false) (b := !r6) rfl rfl rfl (notF hb2) (opT_move (v := .bool r5.2) rfl rfl) rfl (svg (g := 4) (d := 36) (want := false) (b := !r6) rfl rfl rfl (notF hb2) (opT_move (v := .bool r3.2) rfl rfl) rfl (svg (g := 4) (d := 36) (want := false) (b := !r6) rfl rfl rfl (notF hb2) (opT_neb (b := r5.2) (c := r3.2) Try.underlying4 rfl rfl rfl) rfl (sv (opT_pick (b := !r6) (v := .bool (r5.2 != r3.2)) rfl rfl (ifF (notF hb2))) rfl rfl (enR (L' := [(1, .pointer (some ⟨g1, 0, none⟩)), (4, .pointer (some ⟨g2, 0, none⟩)), (5, .bool r3.2), (6, .pointer (some ⟨g3, 0, none⟩)), (7, .pointer (some ⟨g4, 0, none⟩)), (8, .bool r5.2), (40, .bool (r5.2 != r3.2))]) rfl ?_))))
    clear A25 S25 a25 w25;intro a28 w28 A28 S28
    refine nrm ?_
    rcases two (r5.2 != r3.2) with hb3 | hb3
    · replace hm := ifFe hb3 hm
      refine cnd_false (b := r5.2 != r3.2) A28 rfl rfl hb3 ?_
      refine wp_skip (nrm (wp_seq (wp_seq ?_)))
      obtain ⟨r7, e7, hm⟩ := bind_some hm
      obtain ⟨r8, e8, hm⟩ := bind_some hm
      refine wp_draw (L := [(1, .pointer (some ⟨g1, 0, none⟩)), (4, .pointer (some ⟨g2, 0, none⟩)), (5, .bool r3.2), (6, .pointer (some ⟨g3, 0, none⟩)), (7, .pointer (some ⟨g4, 0, none⟩)), (8, .bool r5.2), (40, .bool (r5.2 != r3.2))]) (C := [Ch.own (rSlice 4 rBool) [v7] r5.1.2.1, Ch.own (rSlice 34 (rSlice 3 rInt)) [v8] r5.1.2.2, Ch.own (rSlice 4 rBool) [v3] r3.1.2.1, Ch.own (rSlice 34 (rSlice 3 rInt)) [v4] r3.1.2.2, Ch.blk g2 [.int .i64 r3.1.1, v3, v4] 27, Ch.blk g4 [.int .i64 r5.1.1, v7, v8] 27, Ch.own (rSlice 4 rBool) [v1] r2.2.1, Ch.own (rSlice 34 (rSlice 3 rInt)) [v2] r2.2.2, F]) { ops := [⟨[0], [], [], [0], fun | [xo0] => xo0 = .agg #[.int .i64 r4.1, v5, v6] | _ => True, [(6, none)]⟩, ⟨[1], [], [], [1], fun | [xo1] => xo1 = .agg #[.int .i64 p0.1, va0, va1] | _ => True, [(1, none)]⟩, ⟨[], [], [4, 5], [2], fun | [xo2] => xo2 = .agg #[.int .i64 r7.1, (vg xo2 [1]), (vg xo2 [2])] ∧ Hd (vg xo2 [1]) (r7.2.1).length ∧ Hd (vg xo2 [2]) (r7.2.2).length | _ => True, [(42, some 1)]⟩, ⟨[2, 3, 4, 5], [], [], [3], fun | [xo3] => xo3 = .bool r8 | _ => True, [(41, some 0), (43, some 2)]⟩, ⟨[], [], [], [4], fun | [xo4] => xo4 = .bool (!r8) | _ => True, [(44, some 3)]⟩], res := [⟨[], fun _ => Ch.blk g3 [.int .i64 r4.1, v5, v6] 27⟩, ⟨[], fun _ => Ch.blk g1 [.int .i64 p0.1, va0, va1] 25⟩, ⟨[], fun _ => Ch.own (rSlice 4 rBool) [v5] r4.2.1⟩, ⟨[], fun _ => Ch.own (rSlice 34 (rSlice 3 rInt)) [v6] r4.2.2⟩, ⟨[2], fun | [xo2] => Ch.own (rSlice 4 rBool) [(vg xo2 [1])] r7.2.1 | _ => Ch.fr (fun _ => none) []⟩, ⟨[2], fun | [xo2] => Ch.own (rSlice 34 (rSlice 3 rInt)) [(vg xo2 [2])] r7.2.2 | _ => Ch.fr (fun _ => none) []⟩], base := [0, 1, 2, 3], pre := [[], [], [1], [0, 1, 2], [0, 1, 2, 3]], fin := [(1, none), (4, none), (5, none), (6, none), (7, none), (8, none), (45, some 4)], left := [0, 1, 2, 3, 4, 5] } (by kernel_rfl) A28 S28 (perm_sel [8, 9, 6, 7, 0, 1, 2, 3, 4, 5, 10, 11, 12] (m := 13) rfl rfl) (by kernel_rfl) (by kernel_rfl) ?_ ?_
      · exact ⟨Plan.goal_run fun vs hf => ⟨wants_none rfl, OpT.conv (OpT.evs (ev' := evL [(6, .pointer (some ⟨g3, 0, none⟩))]) (opT_load_blk (g := g3) (off := 0) (E := 27) (l := [.int .i64 r4.1, v5, v6]) (d := [.int .i64 r4.1, v5, v6]) (u := .agg #[.int .i64 r4.1, v5, v6]) ti27 rfl rfl rfl rfl rfl rfl) rfl [.tmp 6] rfl ⟨rfl, trivial⟩) rfl (fun _ h => Eq.trans h rfl) (fun _ => rfl)⟩, Plan.goal_run fun vs hf => ⟨wants_none rfl, OpT.conv (OpT.evs (ev' := evL [(1, .pointer (some ⟨g1, 0, none⟩))]) (opT_load_blk (g := g1) (off := 0) (E := 25) (l := [.int .i64 p0.1, va0, va1]) (d := [.int .i64 p0.1, va0, va1]) (u := .agg #[.int .i64 p0.1, va0, va1]) ti25 rfl rfl rfl rfl rfl rfl) rfl [.tmp 1] rfl ⟨rfl, trivial⟩) rfl (fun _ h => Eq.trans h rfl) (fun _ => rfl)⟩, Plan.goal_run fun vs hf => ⟨wants_none rfl, OpT.conv (OpT.evs (ev' := evL [(42, .agg #[.int .i64 p0.1, va0, va1])]) (OpT.hdk (E := 4) (R := rBool) (xs := r7.2.1) (fun v => vg v [1]) 0 (fun _ => rfl) (OpT.hdk (E := 34) (R := rSlice 3 rInt) (xs := r7.2.2) (fun v => vg v [2]) 1 (fun _ => rfl) (opT_call (args := #[.agg #[.int .i64 p0.1, va0, va1]]) (first := #[]) (captured := #[]) en14 rfl rfl rfl (c_w_toAutomaton (p0.1, p0.2.1, p0.2.2) _ e7 va0 va1 ra0 ra1)))) rfl [.func 14, .tmp 42] rfl ⟨rfl, (hf 1 (mb rfl)), trivial⟩) rfl (fun _ h => by obtain ⟨⟨h, k1⟩, k0⟩ := h; obtain ⟨_, _, rfl⟩ := h; exact ⟨rfl, k0, k1⟩) (fun _ => rfl)⟩, Plan.goal_run fun vs hf => ⟨wants_none rfl, OpT.conv (OpT.evs (ev' := evL [(41, .agg #[.int .i64 r4.1, v5, v6]), (43, .agg #[.int .i64 r7.1, (vg (vs 2) [1]), (vg (vs 2) [2])])]) (OpT.lend (ls := [Ch.own (rSlice 4 rBool) [v5] r4.2.1, Ch.own (rSlice 34 (rSlice 3 rInt)) [v6] r4.2.2, Ch.own (rSlice 4 rBool) [(vg (vs 2) [1])] r7.2.1, Ch.own (rSlice 34 (rSlice 3 rInt)) [(vg (vs 2) [2])] r7.2.2]) (gv := fun v => []) (fun _ => trivial) fun J hJ hl hb => opT_call (args := #[.agg #[.int .i64 r4.1, v5, v6], .agg #[.int .i64 r7.1, (vg (vs 2) [1]), (vg (vs 2) [2])]]) (first := #[]) (captured := #[]) en16 rfl rfl rfl (c_w_eqAutomaton (r4.1, r4.2.1, r4.2.2) (r7.1, r7.2.1, r7.2.2) _ e8 v5 v6 (vg (vs 2) [1]) (vg (vs 2) [2]) (hl _ _ _ (List.Mem.head _)) (hl _ _ _ (List.Mem.tail _ (List.Mem.head _))) (hl _ _ _ (List.Mem.tail _ (List.Mem.tail _ (List.Mem.head _)))) (hl _ _ _ (List.Mem.tail _ (List.Mem.tail _ (List.Mem.tail _ (List.Mem.head _))))))) rfl [.func 16, .tmp 41, .tmp 43] rfl ⟨rfl, (hf 0 (mb rfl)), (hf 2 (mb rfl)).1, trivial⟩) rfl (fun _ h => h) (fun _ => rfl)⟩, Plan.goal_run fun vs hf => ⟨wants_none rfl, OpT.conv (OpT.evs (ev' := evL [(44, .bool r8)]) (opT_not (b := r8) rfl rfl) rfl [.tmp 44] rfl ⟨(hf 3 (mb rfl)), trivial⟩) rfl (fun _ h => Eq.trans h rfl) (fun _ => rfl)⟩, trivial⟩
      intro vs a29 w29 hf A29 S29
      clear A28 S28
      replace A29 := A29.pick' (L' := [(1, .pointer (some ⟨g1, 0, none⟩)), (4, .pointer (some ⟨g2, 0, none⟩)), (5, .bool r3.2), (6, .pointer (some ⟨g3, 0, none⟩)), (7, .pointer (some ⟨g4, 0, none⟩)), (8, .bool r5.2), (45, .bool (!r8))]) ⟨rfl, rfl, rfl, rfl, rfl, rfl, (congrArg some (show _ = _ from (hf 4 (Nat.le_of_ble_eq_true rfl)))), trivial⟩
      replace S29 : St I w0 w29 [Ch.blk g3 [.int .i64 r4.1, v5, v6] 27, Ch.blk g1 [.int .i64 p0.1, va0, va1] 25, Ch.own (rSlice 4 rBool) [v5] r4.2.1, Ch.own (rSlice 34 (rSlice 3 rInt)) [v6] r4.2.2, Ch.own (rSlice 4 rBool) [(vg (vs 2) [1])] r7.2.1, Ch.own (rSlice 34 (rSlice 3 rInt)) [(vg (vs 2) [2])] r7.2.2, Ch.own (rSlice 4 rBool) [v7] r5.1.2.1, Ch.own (rSlice 34 (rSlice 3 rInt)) [v8] r5.1.2.2, Ch.own (rSlice 4 rBool) [v3] r3.1.2.1, Ch.own (rSlice 34 (rSlice 3 rInt)) [v4] r3.1.2.2, Ch.blk g2 [.int .i64 r3.1.1, v3, v4] 27, Ch.blk g4 [.int .i64 r5.1.1, v7, v8] 27, Ch.own (rSlice 4 rBool) [v1] r2.2.1, Ch.own (rSlice 34 (rSlice 3 rInt)) [v2] r2.2.2, F] := S29
      obtain ⟨v9, ea1⟩ : ∃ x, x = (vg (vs 2) [1]) := ⟨_, rfl⟩
      try rw [← ea1] at A29
      try rw [← ea1] at S29
      clear ea1
      obtain ⟨v10, ea2⟩ : ∃ x, x = (vg (vs 2) [2]) := ⟨_, rfl⟩
      try rw [← ea2] at A29
      try rw [← ea2] at S29
      clear ea2
      clear hf vs
      refine nrm ?_
      rcases two (r8) with hb4 | hb4
      · replace hm := ifFe hb4 hm
        refine cnd_true (b := !r8) A29 rfl rfl (notT hb4) ?_
        refine wp_seq (wp_region_lit (rn A29 S29 (sv (opT_assign (v := .bool false) rfl rfl) rfl rfl (enR (L' := [(2, .bool false)]) rfl ?_))))
        clear A29 S29 a29 w29;intro a30 w30 A30 S30
        refine nrm (wp_ret (thenR ?_))
        obtain rfl := Option.some.inj hm
        exact ret_1 A30 rfl (res_tmp A30 rfl) ⟨_, rfl, rfl, _, Hp.le.rfl, St.sel (S30) 15 [14] rfl rfl⟩
      replace hm := ifTe hb4 hm
      refine cnd_false (b := !r8) A29 rfl rfl (notF hb4) ?_
      refine wp_skip (nrm (wp_seq (wp_region_lit (rn A29 S29 (sv (opT_assign (v := .int .i64 1) rfl rfl) rfl rfl (enR (L' := [(1, .pointer (some ⟨g1, 0, none⟩)), (4, .pointer (some ⟨g2, 0, none⟩)), (5, .bool r3.2), (6, .pointer (some ⟨g3, 0, none⟩)), (7, .pointer (some ⟨g4, 0, none⟩)), (8, .bool r5.2), (9, .int .i64 1)]) rfl ?_))))))
      clear A29 S29 a29 w29;intro a31 w31 A31 S31
      refine nrm (wp_seq (wp_region_lit (rn A31 S31 (sop (opT_load_blk (g := g3) (off := 0) (E := 27) (l := [.int .i64 r4.1, v5, v6]) (d := [.int .i64 r4.1, v5, v6]) (u := .agg #[.int .i64 r4.1, v5, v6]) ti27 rfl rfl rfl rfl rfl rfl) (perm_front (i := 0) rfl) rfl rfl ?_))))
      rintro u a32 w32 hf A32 (S32 : St I w0 w32 [Ch.blk g3 [.int .i64 r4.1, v5, v6] 27, Ch.blk g1 [.int .i64 p0.1, va0, va1] 25, Ch.own (rSlice 4 rBool) [v5] r4.2.1, Ch.own (rSlice 34 (rSlice 3 rInt)) [v6] r4.2.2, Ch.own (rSlice 4 rBool) [v9] r7.2.1, Ch.own (rSlice 34 (rSlice 3 rInt)) [v10] r7.2.2, Ch.own (rSlice 4 rBool) [v7] r5.1.2.1, Ch.own (rSlice 34 (rSlice 3 rInt)) [v8] r5.1.2.2, Ch.own (rSlice 4 rBool) [v3] r3.1.2.1, Ch.own (rSlice 34 (rSlice 3 rInt)) [v4] r3.1.2.2, Ch.blk g2 [.int .i64 r3.1.1, v3, v4] 27, Ch.blk g4 [.int .i64 r5.1.1, v7, v8] 27, Ch.own (rSlice 4 rBool) [v1] r2.2.1, Ch.own (rSlice 34 (rSlice 3 rInt)) [v2] r2.2.2, F])
      obtain rfl := Eq.symm hf
      clear A31 S31 a31 w31
      refine rn A32 S32 (sv (opT_move (v := .int .i64 1) rfl rfl) rfl rfl ?_)
      obtain ⟨r9, e9, hm⟩ := bind_some hm
      refine sop (opT_call (args := #[.agg #[.int .i64 r4.1, v5, v6], .int .i64 1]) (first := #[]) (captured := #[]) en17 rfl rfl rfl (c_w_markAutomaton (r4.1, r4.2.1, r4.2.2) 1 _ e9 v5 v6)) (perm_sel [2, 3, 0, 1, 4, 5, 6, 7, 8, 9, 10, 11, 12, 13, 14] (m := 15) rfl rfl) rfl rfl ?_
      rintro u a33 w33 hf A33 (S33 : St I w0 w33 [Ch.own (rSlice 4 rBool) [v5] r9.2.1, Ch.own (rSlice 34 (rSlice 3 rInt)) [v6] r9.2.2, Ch.blk g3 [.int .i64 r4.1, v5, v6] 27, Ch.blk g1 [.int .i64 p0.1, va0, va1] 25, Ch.own (rSlice 4 rBool) [v9] r7.2.1, Ch.own (rSlice 34 (rSlice 3 rInt)) [v10] r7.2.2, Ch.own (rSlice 4 rBool) [v7] r5.1.2.1, Ch.own (rSlice 34 (rSlice 3 rInt)) [v8] r5.1.2.2, Ch.own (rSlice 4 rBool) [v3] r3.1.2.1, Ch.own (rSlice 34 (rSlice 3 rInt)) [v4] r3.1.2.2, Ch.blk g2 [.int .i64 r3.1.1, v3, v4] 27, Ch.blk g4 [.int .i64 r5.1.1, v7, v8] 27, Ch.own (rSlice 4 rBool) [v1] r2.2.1, Ch.own (rSlice 34 (rSlice 3 rInt)) [v2] r2.2.2, F])
      obtain rfl := Eq.symm hf
      clear A32 S32 a32 w32
      refine rn A33 S33 (sv (opT_assign (v := .int .i64 r9.1) rfl rfl) rfl rfl (enR (L' := [(1, .pointer (some ⟨g1, 0, none⟩)), (4, .pointer (some ⟨g2, 0, none⟩)), (5, .bool r3.2), (7, .pointer (some ⟨g4, 0, none⟩)), (8, .bool r5.2), (9, .int .i64 r9.1)]) rfl ?_))
      clear A33 S33 a33 w33;intro a34 w34 A34 S34
      refine nrm (wp_seq (wp_seq (wp_region_lit (rn A34 S34 (sv (opT_move (v := .int .i64 r9.1) rfl rfl) rfl rfl (sv (opT_cmp (k := .i64) (m := r9.1) (n := 0) (c := decide (r9.1 < 0)) rfl rfl rfl rfl rfl) rfl rfl (sv (opT_move (v := .bool (decide (r9.1 < 0))) rfl rfl) rfl rfl ?_)))))))
      rcases two (decide (r9.1 < 0)) with hb5 | hb5
      · replace hm := ifFe hb5 hm
        refine sopg (g := 2) (d := 51) (want := false) (b := decide (r9.1 < 0)) rfl rfl rfl hb5 (opT_load_blk (g := g4) (off := 0) (E := 27) (l := [.int .i64 r5.1.1, v7, v8]) (d := [.int .i64 r5.1.1, v7, v8]) (u := .agg #[.int .i64 r5.1.1, v7, v8]) ti27 rfl rfl rfl rfl rfl rfl) (perm_front (i := 11) rfl) rfl ?_
        rintro u a35 w35 hf A35 (S35 : St I w0 w35 [Ch.blk g4 [.int .i64 r5.1.1, v7, v8] 27, Ch.own (rSlice 4 rBool) [v5] r9.2.1, Ch.own (rSlice 34 (rSlice 3 rInt)) [v6] r9.2.2, Ch.blk g3 [.int .i64 r4.1, v5, v6] 27, Ch.blk g1 [.int .i64 p0.1, va0, va1] 25, Ch.own (rSlice 4 rBool) [v9] r7.2.1, Ch.own (rSlice 34 (rSlice 3 rInt)) [v10] r7.2.2, Ch.own (rSlice 4 rBool) [v7] r5.1.2.1, Ch.own (rSlice 34 (rSlice 3 rInt)) [v8] r5.1.2.2, Ch.own (rSlice 4 rBool) [v3] r3.1.2.1, Ch.own (rSlice 34 (rSlice 3 rInt)) [v4] r3.1.2.2, Ch.blk g2 [.int .i64 r3.1.1, v3, v4] 27, Ch.own (rSlice 4 rBool) [v1] r2.2.1, Ch.own (rSlice 34 (rSlice 3 rInt)) [v2] r2.2.2, F])
        obtain rfl := Eq.symm hf
        clear A34 S34 a34 w34
        refine rn A35 S35 (sopg (g := 2) (d := 51) (want := false) (b := decide (r9.1 < 0)) rfl rfl rfl hb5 (opT_load_blk (g := g2) (off := 0) (E := 27) (l := [.int .i64 r3.1.1, v3, v4]) (d := [.int .i64 r3.1.1, v3, v4]) (u := .agg #[.int .i64 r3.1.1, v3, v4]) ti27 rfl rfl rfl rfl rfl rfl) (perm_front (i := 11) rfl) rfl ?_)
        rintro u a36 w36 hf A36 (S36 : St I w0 w36 [Ch.blk g2 [.int .i64 r3.1.1, v3, v4] 27, Ch.blk g4 [.int .i64 r5.1.1, v7, v8] 27, Ch.own (rSlice 4 rBool) [v5] r9.2.1, Ch.own (rSlice 34 (rSlice 3 rInt)) [v6] r9.2.2, Ch.blk g3 [.int .i64 r4.1, v5, v6] 27, Ch.blk g1 [.int .i64 p0.1, va0, va1] 25, Ch.own (rSlice 4 rBool) [v9] r7.2.1, Ch.own (rSlice 34 (rSlice 3 rInt)) [v10] r7.2.2, Ch.own (rSlice 4 rBool) [v7] r5.1.2.1, Ch.own (rSlice 34 (rSlice 3 rInt)) [v8] r5.1.2.2, Ch.own (rSlice 4 rBool) [v3] r3.1.2.1, Ch.own (rSlice 34 (rSlice 3 rInt)) [v4] r3.1.2.2, Ch.own (rSlice 4 rBool) [v1] r2.2.1, Ch.own (rSlice 34 (rSlice 3 rInt)) [v2] r2.2.2, F])
        obtain rfl := Eq.symm hf
        clear A35 S35 a35 w35
        obtain ⟨r10, e10, hm⟩ := bind_some hm
        refine rn A36 S36 (sopg (g := 2) (d := 51) (want := false) (b := decide (r9.1 < 0)) rfl rfl rfl hb5 (OpT.lend (ls := [Ch.own (rSlice 4 rBool) [v7] r5.1.2.1, Ch.own (rSlice 34 (rSlice 3 rInt)) [v8] r5.1.2.2, Ch.own (rSlice 4 rBool) [v3] r3.1.2.1, Ch.own (rSlice 34 (rSlice 3 rInt)) [v4] r3.1.2.2]) (gv := fun v => []) (fun _ => trivial) fun J hJ hl hb => opT_call (args := #[.agg #[.int .i64 r5.1.1, v7, v8], .agg #[.int .i64 r3.1.1, v3, v4]]) (first := #[]) (captured := #[]) en16 rfl rfl rfl (c_w_eqAutomaton (r5.1.1, r5.1.2.1, r5.1.2.2) (r3.1.1, r3.1.2.1, r3.1.2.2) _ e10 v7 v8 v3 v4 (hl _ _ _ (List.Mem.head _)) (hl _ _ _ (List.Mem.tail _ (List.Mem.head _))) (hl _ _ _ (List.Mem.tail _ (List.Mem.tail _ (List.Mem.head _)))) (hl _ _ _ (List.Mem.tail _ (List.Mem.tail _ (List.Mem.tail _ (List.Mem.head _))))))) (perm_sel [8, 9, 10, 11, 0, 1, 2, 3, 4, 5, 6, 7, 12, 13, 14] (m := 15) rfl rfl) rfl ?_)
        rintro u a37 w37 hf A37 (S37 : St I w0 w37 [Ch.own (rSlice 4 rBool) [v7] r5.1.2.1, Ch.own (rSlice 34 (rSlice 3 rInt)) [v8] r5.1.2.2, Ch.own (rSlice 4 rBool) [v3] r3.1.2.1, Ch.own (rSlice 34 (rSlice 3 rInt)) [v4] r3.1.2.2, Ch.blk g2 [.int .i64 r3.1.1, v3, v4] 27, Ch.blk g4 [.int .i64 r5.1.1, v7, v8] 27, Ch.own (rSlice 4 rBool) [v5] r9.2.1, Ch.own (rSlice 34 (rSlice 3 rInt)) [v6] r9.2.2, Ch.blk g3 [.int .i64 r4.1, v5, v6] 27, Ch.blk g1 [.int .i64 p0.1, va0, va1] 25, Ch.own (rSlice 4 rBool) [v9] r7.2.1, Ch.own (rSlice 34 (rSlice 3 rInt)) [v10] r7.2.2, Ch.own (rSlice 4 rBool) [v1] r2.2.1, Ch.own (rSlice 34 (rSlice 3 rInt)) [v2] r2.2.2, F])
        obtain rfl := Eq.symm hf
        clear A36 S36 a36 w36
        refine rn A37 S37 (svg (g := 2) (d := 51) (want := false) (b := decide (r9.1 < 0)) rfl rfl rfl hb5 (opT_not (b := r10) rfl rfl) rfl (sv (opT_pick (b := decide (r9.1 < 0)) (v := .bool (!r10)) rfl rfl (ifF hb5)) rfl rfl (sv (opT_move (v := .bool (!r10)) rfl rfl) rfl rfl ?_)))
        rcases two (r10) with hb6 | hb6
        · replace hm := ifFe hb6 hm
          refine ssk (g := 8) (d := 57) (want := false) (b := !r10) rfl rfl rfl (notT hb6) rfl (ssk (g := 8) (d := 57) (want := false) (b := !r10) rfl rfl rfl (notT hb6) rfl (ssk (g := 8) (d := 57) (want := false) (b := !r10) rfl rfl rfl (notT hb6) rfl (sv (opT_pick (b := !r10) (v := .bool true) rfl rfl (ifT (notT hb6))) rfl rfl (enR (L' := [(1, .pointer (some ⟨g1, 0, none⟩)), (4, .pointer (some ⟨g2, 0, none⟩)), (5, .bool r3.2), (7, .pointer (some ⟨g4, 0, none⟩)), (61, .bool true)]) rfl ?_))))
          clear A37 S37 a37 w37;intro a38 w38 A38 S38
          refine nrm (cnd_true (b := true) A38 rfl rfl rfl ?_)
          refine wp_seq (wp_region_lit (rn A38 S38 (sv (opT_assign (v := .bool false) rfl rfl) rfl rfl (enR (L' := [(2, .bool false)]) rfl ?_))))
          clear A38 S38 a38 w38;intro a39 w39 A39 S39
          refine nrm (wp_ret (thenR ?_))
          obtain rfl := Option.some.inj hm
          exact ret_1 A39 rfl (res_tmp A39 rfl) ⟨_, rfl, rfl, _, Hp.le.rfl, St.sel (S39) 15 [14] rfl rfl⟩
        replace hm := ifTe hb6 hm
        refine svg (g := 8) (d := 57) (want := false) (b := !r10) rfl rfl rfl (notF hb6) (opT_move (v := .bool r5.2) rfl rfl) rfl (svg (g := 8) (d := 57) (want := false) (b := !r10) rfl rfl rfl (notF hb6) (opT_move (v := .bool r3.2) rfl rfl) rfl (svg (g := 8) (d := 57) (want := false) (b := !r10) rfl rfl rfl (notF hb6) (opT_neb (b := r5.2) (c := r3.2) Try.underlying4 rfl rfl rfl) rfl (sv (opT_pick (b := !r10) (v := .bool (r5.2 != r3.2)) rfl rfl (ifF (notF hb6))) rfl rfl (enR (L' := [(1, .pointer (some ⟨g1, 0, none⟩)), (4, .pointer (some ⟨g2, 0, none⟩)), (5, .bool r3.2), (7, .pointer (some ⟨g4, 0, none⟩)), (61, .bool (r5.2 != r3.2))]) rfl ?_))))
        clear A37 S37 a37 w37;intro a40 w40 A40 S40
        refine nrm (cnd_false (b := r5.2 != r3.2) A40 rfl rfl hb3 ?_)
        refine wp_skip (nrm (wp_seq (wp_region_lit (rn A40 S40 (sv (opT_assign (v := .int .i64 1) rfl rfl) rfl rfl (enR (L' := [(1, .pointer (some ⟨g1, 0, none⟩)), (4, .pointer (some ⟨g2, 0, none⟩)), (5, .bool r3.2), (7, .pointer (some ⟨g4, 0, none⟩)), (10, .int .i64 1)]) rfl ?_))))))
        clear A40 S40 a40 w40;intro a41 w41 A41 S41
        refine nrm (wp_seq (wp_region_lit (rn A41 S41 (sop (opT_load_blk (g := g4) (off := 0) (E := 27) (l := [.int .i64 r5.1.1, v7, v8]) (d := [.int .i64 r5.1.1, v7, v8]) (u := .agg #[.int .i64 r5.1.1, v7, v8]) ti27 rfl rfl rfl rfl rfl rfl) (perm_front (i := 5) rfl) rfl rfl ?_))))
        rintro u a42 w42 hf A42 (S42 : St I w0 w42 [Ch.blk g4 [.int .i64 r5.1.1, v7, v8] 27, Ch.own (rSlice 4 rBool) [v7] r5.1.2.1, Ch.own (rSlice 34 (rSlice 3 rInt)) [v8] r5.1.2.2, Ch.own (rSlice 4 rBool) [v3] r3.1.2.1, Ch.own (rSlice 34 (rSlice 3 rInt)) [v4] r3.1.2.2, Ch.blk g2 [.int .i64 r3.1.1, v3, v4] 27, Ch.own (rSlice 4 rBool) [v5] r9.2.1, Ch.own (rSlice 34 (rSlice 3 rInt)) [v6] r9.2.2, Ch.blk g3 [.int .i64 r4.1, v5, v6] 27, Ch.blk g1 [.int .i64 p0.1, va0, va1] 25, Ch.own (rSlice 4 rBool) [v9] r7.2.1, Ch.own (rSlice 34 (rSlice 3 rInt)) [v10] r7.2.2, Ch.own (rSlice 4 rBool) [v1] r2.2.1, Ch.own (rSlice 34 (rSlice 3 rInt)) [v2] r2.2.2, F])
        obtain rfl := Eq.symm hf
        clear A41 S41 a41 w41
        refine rn A42 S42 (sv (opT_move (v := .int .i64 1) rfl rfl) rfl rfl ?_)
        obtain ⟨r11, e11, hm⟩ := bind_some hm
        refine sop (opT_call (args := #[.agg #[.int .i64 r5.1.1, v7, v8], .int .i64 1]) (first := #[]) (captured := #[]) en17 rfl rfl rfl (c_w_markAutomaton (r5.1.1, r5.1.2.1, r5.1.2.2) 1 _ e11 v7 v8)) (perm_sel [1, 2, 0, 3, 4, 5, 6, 7, 8, 9, 10, 11, 12, 13, 14] (m := 15) rfl rfl) rfl rfl ?_
        rintro u a43 w43 hf A43 (S43 : St I w0 w43 [Ch.own (rSlice 4 rBool) [v7] r11.2.1, Ch.own (rSlice 34 (rSlice 3 rInt)) [v8] r11.2.2, Ch.blk g4 [.int .i64 r5.1.1, v7, v8] 27, Ch.own (rSlice 4 rBool) [v3] r3.1.2.1, Ch.own (rSlice 34 (rSlice 3 rInt)) [v4] r3.1.2.2, Ch.blk g2 [.int .i64 r3.1.1, v3, v4] 27, Ch.own (rSlice 4 rBool) [v5] r9.2.1, Ch.own (rSlice 34 (rSlice 3 rInt)) [v6] r9.2.2, Ch.blk g3 [.int .i64 r4.1, v5, v6] 27, Ch.blk g1 [.int .i64 p0.1, va0, va1] 25, Ch.own (rSlice 4 rBool) [v9] r7.2.1, Ch.own (rSlice 34 (rSlice 3 rInt)) [v10] r7.2.2, Ch.own (rSlice 4 rBool) [v1] r2.2.1, Ch.own (rSlice 34 (rSlice 3 rInt)) [v2] r2.2.2, F])
        obtain rfl := Eq.symm hf
        clear A42 S42 a42 w42
        refine rn A43 S43 (sv (opT_assign (v := .int .i64 r11.1) rfl rfl) rfl rfl (enR (L' := [(1, .pointer (some ⟨g1, 0, none⟩)), (4, .pointer (some ⟨g2, 0, none⟩)), (5, .bool r3.2), (7, .pointer (some ⟨g4, 0, none⟩)), (10, .int .i64 r11.1)]) rfl ?_))
        clear A43 S43 a43 w43;intro a44 w44 A44 S44
        refine nrm (wp_seq (wp_region_lit (rn A44 S44 (sv (opT_assign (v := .int .i64 1) rfl rfl) rfl rfl (enR (L' := [(1, .pointer (some ⟨g1, 0, none⟩)), (4, .pointer (some ⟨g2, 0, none⟩)), (5, .bool r3.2), (7, .pointer (some ⟨g4, 0, none⟩)), (10, .int .i64 r11.1), (11, .int .i64 1)]) rfl ?_)))))
        clear A44 S44 a44 w44;intro a45 w45 A45 S45
        refine nrm (wp_seq (wp_region_lit (rn A45 S45 (sop (opT_load_blk (g := g4) (off := 0) (E := 27) (l := [.int .i64 r5.1.1, v7, v8]) (d := [.int .i64 r5.1.1, v7, v8]) (u := .agg #[.int .i64 r5.1.1, v7, v8]) ti27 rfl rfl rfl rfl rfl rfl) (perm_front (i := 2) rfl) rfl rfl ?_))))
        rintro u a46 w46 hf A46 (S46 : St I w0 w46 [Ch.blk g4 [.int .i64 r5.1.1, v7, v8] 27, Ch.own (rSlice 4 rBool) [v7] r11.2.1, Ch.own (rSlice 34 (rSlice 3 rInt)) [v8] r11.2.2, Ch.own (rSlice 4 rBool) [v3] r3.1.2.1, Ch.own (rSlice 34 (rSlice 3 rInt)) [v4] r3.1.2.2, Ch.blk g2 [.int .i64 r3.1.1, v3, v4] 27, Ch.own (rSlice 4 rBool) [v5] r9.2.1, Ch.own (rSlice 34 (rSlice 3 rInt)) [v6] r9.2.2, Ch.blk g3 [.int .i64 r4.1, v5, v6] 27, Ch.blk g1 [.int .i64 p0.1, va0, va1] 25, Ch.own (rSlice 4 rBool) [v9] r7.2.1, Ch.own (rSlice 34 (rSlice 3 rInt)) [v10] r7.2.2, Ch.own (rSlice 4 rBool) [v1] r2.2.1, Ch.own (rSlice 34 (rSlice 3 rInt)) [v2] r2.2.2, F])
        obtain rfl := Eq.symm hf
        clear A45 S45 a45 w45
        refine rn A46 S46 (sv (opT_move (v := .int .i64 1) rfl rfl) rfl rfl ?_)
        obtain ⟨r12, e12, hm⟩ := bind_some hm
        refine sop (OpT.lend (ls := [Ch.own (rSlice 4 rBool) [v7] r11.2.1, Ch.own (rSlice 34 (rSlice 3 rInt)) [v8] r11.2.2]) (gv := fun v => []) (fun _ => trivial) fun J hJ hl hb => opT_call (args := #[.agg #[.int .i64 r5.1.1, v7, v8], .int .i64 1]) (first := #[]) (captured := #[]) en18 rfl rfl rfl (c_w_heldAutomaton (r5.1.1, r11.2.1, r11.2.2) 1 _ e12 v7 v8 (hl _ _ _ (List.Mem.head _)) (hl _ _ _ (List.Mem.tail _ (List.Mem.head _))))) (perm_sel [1, 2, 0, 3, 4, 5, 6, 7, 8, 9, 10, 11, 12, 13, 14] (m := 15) rfl rfl) rfl rfl ?_
        rintro u a47 w47 hf A47 (S47 : St I w0 w47 [Ch.own (rSlice 4 rBool) [v7] r11.2.1, Ch.own (rSlice 34 (rSlice 3 rInt)) [v8] r11.2.2, Ch.blk g4 [.int .i64 r5.1.1, v7, v8] 27, Ch.own (rSlice 4 rBool) [v3] r3.1.2.1, Ch.own (rSlice 34 (rSlice 3 rInt)) [v4] r3.1.2.2, Ch.blk g2 [.int .i64 r3.1.1, v3, v4] 27, Ch.own (rSlice 4 rBool) [v5] r9.2.1, Ch.own (rSlice 34 (rSlice 3 rInt)) [v6] r9.2.2, Ch.blk g3 [.int .i64 r4.1, v5, v6] 27, Ch.blk g1 [.int .i64 p0.1, va0, va1] 25, Ch.own (rSlice 4 rBool) [v9] r7.2.1, Ch.own (rSlice 34 (rSlice 3 rInt)) [v10] r7.2.2, Ch.own (rSlice 4 rBool) [v1] r2.2.1, Ch.own (rSlice 34 (rSlice 3 rInt)) [v2] r2.2.2, F])
        obtain rfl := Eq.symm hf
        clear A46 S46 a46 w46
        refine rn A47 S47 (sv (opT_assign (v := .int .i64 r12) rfl rfl) rfl rfl (enR (L' := [(1, .pointer (some ⟨g1, 0, none⟩)), (4, .pointer (some ⟨g2, 0, none⟩)), (5, .bool r3.2), (7, .pointer (some ⟨g4, 0, none⟩)), (10, .int .i64 r11.1), (11, .int .i64 r12)]) rfl ?_))
        clear A47 S47 a47 w47;intro a48 w48 A48 S48
        refine nrm (wp_seq (wp_seq (wp_region_lit (rn A48 S48 (sv (opT_move (v := .int .i64 r12) rfl rfl) rfl rfl (sv (opT_cmp (k := .i64) (m := r12) (n := 0) (c := decide (r12 < 0)) rfl rfl rfl rfl rfl) rfl rfl (enR (L' := [(1, .pointer (some ⟨g1, 0, none⟩)), (4, .pointer (some ⟨g2, 0, none⟩)), (5, .bool r3.2), (7, .pointer (some ⟨g4, 0, none⟩)), (10, .int .i64 r11.1), (11, .int .i64 r12), (69, .bool (decide (r12 < 0)))]) rfl ?_)))))))
        clear A48 S48 a48 w48;intro a49 w49 A49 S49
        refine nrm ?_
        rcases two (decide (r12 < 0)) with hb7 | hb7
        · replace hm := ifFe hb7 hm
          refine cnd_false (b := decide (r12 < 0)) A49 rfl rfl hb7 ?_
          refine wp_skip (nrm (wp_seq (wp_seq (wp_region_lit (rn A49 S49 (sv (opT_move (v := .int .i64 r12) rfl rfl) rfl rfl (sv (opT_move (v := .int .i64 r11.1) rfl rfl) rfl rfl (sv (opT_cmp (k := .i64) (m := r12) (n := r11.1) (c := r12 != r11.1) rfl rfl rfl rfl rfl) rfl rfl (enR (L' := [(1, .pointer (some ⟨g1, 0, none⟩)), (4, .pointer (some ⟨g2, 0, none⟩)), (5, .bool r3.2), (7, .pointer (some ⟨g4, 0, none⟩)), (10, .int .i64 r11.1), (72, .bool (r12 != r11.1))]) rfl ?_)))))))))
          clear A49 S49 a49 w49;intro a50 w50 A50 S50
          refine nrm ?_
          rcases two (r12 != r11.1) with hb8 | hb8
          · replace hm := ifFe hb8 hm
            refine cnd_false (b := r12 != r11.1) A50 rfl rfl hb8 ?_
            refine wp_skip (nrm (wp_seq (wp_region_lit (rn A50 S50 (sop (opT_load_blk (g := g1) (off := 0) (E := 25) (l := [.int .i64 p0.1, va0, va1]) (d := [.int .i64 p0.1, va0, va1]) (u := .agg #[.int .i64 p0.1, va0, va1]) ti25 rfl rfl rfl rfl rfl rfl) (perm_front (i := 9) rfl) rfl rfl ?_)))))
            rintro u a51 w51 hf A51 (S51 : St I w0 w51 [Ch.blk g1 [.int .i64 p0.1, va0, va1] 25, Ch.own (rSlice 4 rBool) [v7] r11.2.1, Ch.own (rSlice 34 (rSlice 3 rInt)) [v8] r11.2.2, Ch.blk g4 [.int .i64 r5.1.1, v7, v8] 27, Ch.own (rSlice 4 rBool) [v3] r3.1.2.1, Ch.own (rSlice 34 (rSlice 3 rInt)) [v4] r3.1.2.2, Ch.blk g2 [.int .i64 r3.1.1, v3, v4] 27, Ch.own (rSlice 4 rBool) [v5] r9.2.1, Ch.own (rSlice 34 (rSlice 3 rInt)) [v6] r9.2.2, Ch.blk g3 [.int .i64 r4.1, v5, v6] 27, Ch.own (rSlice 4 rBool) [v9] r7.2.1, Ch.own (rSlice 34 (rSlice 3 rInt)) [v10] r7.2.2, Ch.own (rSlice 4 rBool) [v1] r2.2.1, Ch.own (rSlice 34 (rSlice 3 rInt)) [v2] r2.2.2, F])
            obtain rfl := Eq.symm hf
            clear A50 S50 a50 w50
            obtain ⟨r13, e13, hm⟩ := bind_some hm
            refine rn A51 S51 (sop (opT_call (args := #[.agg #[.int .i64 p0.1, va0, va1]]) (first := #[]) (captured := #[]) en14 rfl rfl rfl (c_w_toAutomaton (p0.1, p0.2.1, p0.2.2) _ e13 va0 va1 ra0 ra1)) (List.Perm.refl _) rfl rfl ?_)
            rintro u a52 w52 ⟨v11, v12, rfl⟩ A52 (S52 : St I w0 w52 [Ch.own (rSlice 4 rBool) [v11] r13.2.1, Ch.own (rSlice 34 (rSlice 3 rInt)) [v12] r13.2.2, Ch.blk g1 [.int .i64 p0.1, va0, va1] 25, Ch.own (rSlice 4 rBool) [v7] r11.2.1, Ch.own (rSlice 34 (rSlice 3 rInt)) [v8] r11.2.2, Ch.blk g4 [.int .i64 r5.1.1, v7, v8] 27, Ch.own (rSlice 4 rBool) [v3] r3.1.2.1, Ch.own (rSlice 34 (rSlice 3 rInt)) [v4] r3.1.2.2, Ch.blk g2 [.int .i64 r3.1.1, v3, v4] 27, Ch.own (rSlice 4 rBool) [v5] r9.2.1, Ch.own (rSlice 34 (rSlice 3 rInt)) [v6] r9.2.2, Ch.blk g3 [.int .i64 r4.1, v5, v6] 27, Ch.own (rSlice 4 rBool) [v9] r7.2.1, Ch.own (rSlice 34 (rSlice 3 rInt)) [v10] r7.2.2, Ch.own (rSlice 4 rBool) [v1] r2.2.1, Ch.own (rSlice 34 (rSlice 3 rInt)) [v2] r2.2.2, F])
            clear A51 S51 a51 w51
            obtain ⟨r14, e14, hm⟩ := bind_some hm
            refine rn A52 S52 (sop (OpT.lend (ls := [Ch.own (rSlice 4 rBool) [v11] r13.2.1, Ch.own (rSlice 34 (rSlice 3 rInt)) [v12] r13.2.2]) (gv := fun v => [Ch.own (rSlice 4 rBool) [vg v [0, 1]] r14.1.2.1, Ch.own (rSlice 34 (rSlice 3 rInt)) [vg v [0, 2]] r14.1.2.2]) (fun _ => ⟨dp_own (dp_slice dp_bool), dp_own (dp_slice (dp_slice dp_int)), trivial⟩) fun J hJ hl hb => opT_call (args := #[.agg #[.int .i64 r13.1, v11, v12]]) (first := #[]) (captured := #[]) en38 rfl rfl rfl (c_i_ComplementAutomaton (r13.1, r13.2.1, r13.2.2) _ e14 v11 v12 (hl _ _ _ (List.Mem.head _)) (hl _ _ _ (List.Mem.tail _ (List.Mem.head _))))) (perm_sel [0, 1, 2, 3, 4, 5, 6, 7, 8, 9, 10, 11, 12, 13, 14, 15, 16] (m := 17) rfl rfl) rfl rfl ?_)
            rintro u a53 w53 ⟨v13, v14, rfl⟩ A53 (S53 : St I w0 w53 [Ch.own (rSlice 4 rBool) [v13] r14.1.2.1, Ch.own (rSlice 34 (rSlice 3 rInt)) [v14] r14.1.2.2, Ch.own (rSlice 4 rBool) [v11] r13.2.1, Ch.own (rSlice 34 (rSlice 3 rInt)) [v12] r13.2.2, Ch.blk g1 [.int .i64 p0.1, va0, va1] 25, Ch.own (rSlice 4 rBool) [v7] r11.2.1, Ch.own (rSlice 34 (rSlice 3 rInt)) [v8] r11.2.2, Ch.blk g4 [.int .i64 r5.1.1, v7, v8] 27, Ch.own (rSlice 4 rBool) [v3] r3.1.2.1, Ch.own (rSlice 34 (rSlice 3 rInt)) [v4] r3.1.2.2, Ch.blk g2 [.int .i64 r3.1.1, v3, v4] 27, Ch.own (rSlice 4 rBool) [v5] r9.2.1, Ch.own (rSlice 34 (rSlice 3 rInt)) [v6] r9.2.2, Ch.blk g3 [.int .i64 r4.1, v5, v6] 27, Ch.own (rSlice 4 rBool) [v9] r7.2.1, Ch.own (rSlice 34 (rSlice 3 rInt)) [v10] r7.2.2, Ch.own (rSlice 4 rBool) [v1] r2.2.1, Ch.own (rSlice 34 (rSlice 3 rInt)) [v2] r2.2.2, F])
            clear A52 S52 a52 w52
            refine rn A53 S53 (sv (opT_move (v := .tuple #[.agg #[.int .i64 r14.1.1, v13, v14], .bool r14.2]) rfl rfl) rfl rfl (sv (opT_extract (vs := #[.agg #[.int .i64 r14.1.1, v13, v14], .bool r14.2]) (v := .agg #[.int .i64 r14.1.1, v13, v14]) rfl rfl rfl) rfl rfl (sv (opT_extract (vs := #[.agg #[.int .i64 r14.1.1, v13, v14], .bool r14.2]) (v := .bool r14.2) rfl rfl rfl) rfl rfl (sop (opT_alloc (l := [.int .i64 0, .slice none 0 0, .slice none 0 0]) tz27 rfl rfl) (List.Perm.refl _) rfl rfl ?_))))
            rintro _ a54 w54 ⟨g5, rfl⟩ A54 (S54 : St I w0 w54 [Ch.blk g5 [.int .i64 0, .slice none 0 0, .slice none 0 0] 27, Ch.own (rSlice 4 rBool) [v13] r14.1.2.1, Ch.own (rSlice 34 (rSlice 3 rInt)) [v14] r14.1.2.2, Ch.own (rSlice 4 rBool) [v11] r13.2.1, Ch.own (rSlice 34 (rSlice 3 rInt)) [v12] r13.2.2, Ch.blk g1 [.int .i64 p0.1, va0, va1] 25, Ch.own (rSlice 4 rBool) [v7] r11.2.1, Ch.own (rSlice 34 (rSlice 3 rInt)) [v8] r11.2.2, Ch.blk g4 [.int .i64 r5.1.1, v7, v8] 27, Ch.own (rSlice 4 rBool) [v3] r3.1.2.1, Ch.own (rSlice 34 (rSlice 3 rInt)) [v4] r3.1.2.2, Ch.blk g2 [.int .i64 r3.1.1, v3, v4] 27, Ch.own (rSlice 4 rBool) [v5] r9.2.1, Ch.own (rSlice 34 (rSlice 3 rInt)) [v6] r9.2.2, Ch.blk g3 [.int .i64 r4.1, v5, v6] 27, Ch.own (rSlice 4 rBool) [v9] r7.2.1, Ch.own (rSlice 34 (rSlice 3 rInt)) [v10] r7.2.2, Ch.own (rSlice 4 rBool) [v1] r2.2.1, Ch.own (rSlice 34 (rSlice 3 rInt)) [v2] r2.2.2, F])
            clear A53 S53 a53 w53
            refine rn A54 S54 (sop (opT_store_blk (g := g5) (off := 0) (l := [.int .i64 0, .slice none 0 0, .slice none 0 0]) (d := [.int .i64 r14.1.1, v13, v14]) (E := 27) (u := .agg #[.int .i64 r14.1.1, v13, v14]) ti27 rfl rfl rfl rfl rfl (allC rfl (allC (Hd.one (St.hd S54 1 rfl).1) (allC (Hd.one (St.hd S54 2 rfl).1) allN))) (Nat.le_of_ble_eq_true rfl)) (perm_front (i := 0) rfl) rfl rfl ?_)
            rintro _ a55 w55 - A55 (S55 : St I w0 w55 [Ch.blk g5 [.int .i64 r14.1.1, v13, v14] 27, Ch.own (rSlice 4 rBool) [v13] r14.1.2.1, Ch.own (rSlice 34 (rSlice 3 rInt)) [v14] r14.1.2.2, Ch.own (rSlice 4 rBool) [v11] r13.2.1, Ch.own (rSlice 34 (rSlice 3 rInt)) [v12] r13.2.2, Ch.blk g1 [.int .i64 p0.1, va0, va1] 25, Ch.own (rSlice 4 rBool) [v7] r11.2.1, Ch.own (rSlice 34 (rSlice 3 rInt)) [v8] r11.2.2, Ch.blk g4 [.int .i64 r5.1.1, v7, v8] 27, Ch.own (rSlice 4 rBool) [v3] r3.1.2.1, Ch.own (rSlice 34 (rSlice 3 rInt)) [v4] r3.1.2.2, Ch.blk g2 [.int .i64 r3.1.1, v3, v4] 27, Ch.own (rSlice 4 rBool) [v5] r9.2.1, Ch.own (rSlice 34 (rSlice 3 rInt)) [v6] r9.2.2, Ch.blk g3 [.int .i64 r4.1, v5, v6] 27, Ch.own (rSlice 4 rBool) [v9] r7.2.1, Ch.own (rSlice 34 (rSlice 3 rInt)) [v10] r7.2.2, Ch.own (rSlice 4 rBool) [v1] r2.2.1, Ch.own (rSlice 34 (rSlice 3 rInt)) [v2] r2.2.2, F])
            clear A54 S54 a54 w54
            refine rn A55 S55 (sv (opT_assign (v := .bool r14.2) rfl rfl) rfl rfl (enR (L' := [(4, .pointer (some ⟨g2, 0, none⟩)), (5, .bool r3.2), (7, .pointer (some ⟨g4, 0, none⟩)), (10, .int .i64 r11.1), (12, .pointer (some ⟨g5, 0, none⟩)), (13, .bool r14.2)]) rfl ?_))
            clear A55 S55 a55 w55;intro a56 w56 A56 S56
            refine nrm (wp_seq (wp_seq (wp_region_lit (rn A56 S56 (sop (opT_load_blk (g := g5) (off := 0) (E := 27) (l := [.int .i64 r14.1.1, v13, v14]) (d := [.int .i64 r14.1.1, v13, v14]) (u := .agg #[.int .i64 r14.1.1, v13, v14]) ti27 rfl rfl rfl rfl rfl rfl) (perm_front (i := 0) rfl) rfl rfl ?_)))))
            rintro u a57 w57 hf A57 (S57 : St I w0 w57 [Ch.blk g5 [.int .i64 r14.1.1, v13, v14] 27, Ch.own (rSlice 4 rBool) [v13] r14.1.2.1, Ch.own (rSlice 34 (rSlice 3 rInt)) [v14] r14.1.2.2, Ch.own (rSlice 4 rBool) [v11] r13.2.1, Ch.own (rSlice 34 (rSlice 3 rInt)) [v12] r13.2.2, Ch.blk g1 [.int .i64 p0.1, va0, va1] 25, Ch.own (rSlice 4 rBool) [v7] r11.2.1, Ch.own (rSlice 34 (rSlice 3 rInt)) [v8] r11.2.2, Ch.blk g4 [.int .i64 r5.1.1, v7, v8] 27, Ch.own (rSlice 4 rBool) [v3] r3.1.2.1, Ch.own (rSlice 34 (rSlice 3 rInt)) [v4] r3.1.2.2, Ch.blk g2 [.int .i64 r3.1.1, v3, v4] 27, Ch.own (rSlice 4 rBool) [v5] r9.2.1, Ch.own (rSlice 34 (rSlice 3 rInt)) [v6] r9.2.2, Ch.blk g3 [.int .i64 r4.1, v5, v6] 27, Ch.own (rSlice 4 rBool) [v9] r7.2.1, Ch.own (rSlice 34 (rSlice 3 rInt)) [v10] r7.2.2, Ch.own (rSlice 4 rBool) [v1] r2.2.1, Ch.own (rSlice 34 (rSlice 3 rInt)) [v2] r2.2.2, F])
            obtain rfl := Eq.symm hf
            clear A56 S56 a56 w56
            refine rn A57 S57 (sop (opT_load_blk (g := g2) (off := 0) (E := 27) (l := [.int .i64 r3.1.1, v3, v4]) (d := [.int .i64 r3.1.1, v3, v4]) (u := .agg #[.int .i64 r3.1.1, v3, v4]) ti27 rfl rfl rfl rfl rfl rfl) (perm_front (i := 11) rfl) rfl rfl ?_)
            rintro u a58 w58 hf A58 (S58 : St I w0 w58 [Ch.blk g2 [.int .i64 r3.1.1, v3, v4] 27, Ch.blk g5 [.int .i64 r14.1.1, v13, v14] 27, Ch.own (rSlice 4 rBool) [v13] r14.1.2.1, Ch.own (rSlice 34 (rSlice 3 rInt)) [v14] r14.1.2.2, Ch.own (rSlice 4 rBool) [v11] r13.2.1, Ch.own (rSlice 34 (rSlice 3 rInt)) [v12] r13.2.2, Ch.blk g1 [.int .i64 p0.1, va0, va1] 25, Ch.own (rSlice 4 rBool) [v7] r11.2.1, Ch.own (rSlice 34 (rSlice 3 rInt)) [v8] r11.2.2, Ch.blk g4 [.int .i64 r5.1.1, v7, v8] 27, Ch.own (rSlice 4 rBool) [v3] r3.1.2.1, Ch.own (rSlice 34 (rSlice 3 rInt)) [v4] r3.1.2.2, Ch.own (rSlice 4 rBool) [v5] r9.2.1, Ch.own (rSlice 34 (rSlice 3 rInt)) [v6] r9.2.2, Ch.blk g3 [.int .i64 r4.1, v5, v6] 27, Ch.own (rSlice 4 rBool) [v9] r7.2.1, Ch.own (rSlice 34 (rSlice 3 rInt)) [v10] r7.2.2, Ch.own (rSlice 4 rBool) [v1] r2.2.1, Ch.own (rSlice 34 (rSlice 3 rInt)) [v2] r2.2.2, F])
            obtain rfl := Eq.symm hf
            clear A57 S57 a57 w57
            obtain ⟨r15, e15, hm⟩ := bind_some hm
            refine rn A58 S58 (sop (OpT.lend (ls := [Ch.own (rSlice 4 rBool) [v13] r14.1.2.1, Ch.own (rSlice 34 (rSlice 3 rInt)) [v14] r14.1.2.2, Ch.own (rSlice 4 rBool) [v3] r3.1.2.1, Ch.own (rSlice 34 (rSlice 3 rInt)) [v4] r3.1.2.2]) (gv := fun v => []) (fun _ => trivial) fun J hJ hl hb => opT_call (args := #[.agg #[.int .i64 r14.1.1, v13, v14], .agg #[.int .i64 r3.1.1, v3, v4]]) (first := #[]) (captured := #[]) en16 rfl rfl rfl (c_w_eqAutomaton (r14.1.1, r14.1.2.1, r14.1.2.2) (r3.1.1, r3.1.2.1, r3.1.2.2) _ e15 v13 v14 v3 v4 (hl _ _ _ (List.Mem.head _)) (hl _ _ _ (List.Mem.tail _ (List.Mem.head _))) (hl _ _ _ (List.Mem.tail _ (List.Mem.tail _ (List.Mem.head _)))) (hl _ _ _ (List.Mem.tail _ (List.Mem.tail _ (List.Mem.tail _ (List.Mem.head _))))))) (perm_sel [2, 3, 10, 11, 0, 1, 4, 5, 6, 7, 8, 9, 12, 13, 14, 15, 16, 17, 18, 19] (m := 20) rfl rfl) rfl rfl ?_)
            rintro u a59 w59 hf A59 (S59 : St I w0 w59 [Ch.own (rSlice 4 rBool) [v13] r14.1.2.1, Ch.own (rSlice 34 (rSlice 3 rInt)) [v14] r14.1.2.2, Ch.own (rSlice 4 rBool) [v3] r3.1.2.1, Ch.own (rSlice 34 (rSlice 3 rInt)) [v4] r3.1.2.2, Ch.blk g2 [.int .i64 r3.1.1, v3, v4] 27, Ch.blk g5 [.int .i64 r14.1.1, v13, v14] 27, Ch.own (rSlice 4 rBool) [v11] r13.2.1, Ch.own (rSlice 34 (rSlice 3 rInt)) [v12] r13.2.2, Ch.blk g1 [.int .i64 p0.1, va0, va1] 25, Ch.own (rSlice 4 rBool) [v7] r11.2.1, Ch.own (rSlice 34 (rSlice 3 rInt)) [v8] r11.2.2, Ch.blk g4 [.int .i64 r5.1.1, v7, v8] 27, Ch.own (rSlice 4 rBool) [v5] r9.2.1, Ch.own (rSlice 34 (rSlice 3 rInt)) [v6] r9.2.2, Ch.blk g3 [.int .i64 r4.1, v5, v6] 27, Ch.own (rSlice 4 rBool) [v9] r7.2.1, Ch.own (rSlice 34 (rSlice 3 rInt)) [v10] r7.2.2, Ch.own (rSlice 4 rBool) [v1] r2.2.1, Ch.own (rSlice 34 (rSlice 3 rInt)) [v2] r2.2.2, F])
            obtain rfl := Eq.symm hf
            clear A58 S58 a58 w58
            refine rn A59 S59 (sv (opT_not (b := r15) rfl rfl) rfl rfl (sv (opT_move (v := .bool (!r15)) rfl rfl) rfl rfl ?_))
            rcases two (r15) with hb9 | hb9
            · replace hm := ifFe hb9 hm
              refine ssk (g := 4) (d := 83) (want := false) (b := !r15) rfl rfl rfl (notT hb9) rfl (ssk (g := 4) (d := 83) (want := false) (b := !r15) rfl rfl rfl (notT hb9) rfl (ssk (g := 4) (d := 83) (want := false) (b := !r15) rfl rfl rfl (notT hb9) rfl (sv (opT_pick (b := !r15) (v := .bool true) rfl rfl (ifT (notT hb9))) rfl rfl (enR (L' := [(7, .pointer (some ⟨g4, 0, none⟩)), (10, .int .i64 r11.1), (87, .bool true)]) rfl ?_))))
              clear A59 S59 a59 w59;intro a60 w60 A60 S60
              refine nrm (cnd_true (b := true) A60 rfl rfl rfl ?_)
              refine wp_seq (wp_region_lit (rn A60 S60 (sv (opT_assign (v := .bool false) rfl rfl) rfl rfl (enR (L' := [(2, .bool false)]) rfl ?_))))
              clear A60 S60 a60 w60;intro a61 w61 A61 S61
              refine nrm (wp_ret (thenR ?_))
              obtain rfl := Option.some.inj hm
              exact ret_1 A61 rfl (res_tmp A61 rfl) ⟨_, rfl, rfl, _, Hp.le.rfl, St.sel (S61) 20 [19] rfl rfl⟩
            replace hm := ifTe hb9 hm
            refine svg (g := 4) (d := 83) (want := false) (b := !r15) rfl rfl rfl (notF hb9) (opT_move (v := .bool r14.2) rfl rfl) rfl (svg (g := 4) (d := 83) (want := false) (b := !r15) rfl rfl rfl (notF hb9) (opT_move (v := .bool r3.2) rfl rfl) rfl (svg (g := 4) (d := 83) (want := false) (b := !r15) rfl rfl rfl (notF hb9) (opT_neb (b := r14.2) (c := r3.2) Try.underlying4 rfl rfl rfl) rfl (sv (opT_pick (b := !r15) (v := .bool (r14.2 != r3.2)) rfl rfl (ifF (notF hb9))) rfl rfl (enR (L' := [(7, .pointer (some ⟨g4, 0, none⟩)), (10, .int .i64 r11.1), (87, .bool (r14.2 != r3.2))]) rfl ?_))))
            clear A59 S59 a59 w59;intro a62 w62 A62 S62
            refine nrm ?_
            rcases two (r14.2 != r3.2) with hb10 | hb10
            · replace hm := ifFe hb10 hm
              refine cnd_false (b := r14.2 != r3.2) A62 rfl rfl hb10 ?_
              refine wp_skip (nrm (wp_seq (wp_region_lit (rn A62 S62 (sv (opT_assign (v := .int .i64 1) rfl rfl) rfl rfl (enR (L' := [(7, .pointer (some ⟨g4, 0, none⟩)), (10, .int .i64 r11.1), (11, .int .i64 1)]) rfl ?_))))))
              clear A62 S62 a62 w62;intro a63 w63 A63 S63
              refine nrm (wp_seq (wp_region_lit (rn A63 S63 (sop (opT_load_blk (g := g4) (off := 0) (E := 27) (l := [.int .i64 r5.1.1, v7, v8]) (d := [.int .i64 r5.1.1, v7, v8]) (u := .agg #[.int .i64 r5.1.1, v7, v8]) ti27 rfl rfl rfl rfl rfl rfl) (perm_front (i := 11) rfl) rfl rfl ?_))))
              rintro u a64 w64 hf A64 (S64 : St I w0 w64 [Ch.blk g4 [.int .i64 r5.1.1, v7, v8] 27, Ch.own (rSlice 4 rBool) [v13] r14.1.2.1, Ch.own (rSlice 34 (rSlice 3 rInt)) [v14] r14.1.2.2, Ch.own (rSlice 4 rBool) [v3] r3.1.2.1, Ch.own (rSlice 34 (rSlice 3 rInt)) [v4] r3.1.2.2, Ch.blk g2 [.int .i64 r3.1.1, v3, v4] 27, Ch.blk g5 [.int .i64 r14.1.1, v13, v14] 27, Ch.own (rSlice 4 rBool) [v11] r13.2.1, Ch.own (rSlice 34 (rSlice 3 rInt)) [v12] r13.2.2, Ch.blk g1 [.int .i64 p0.1, va0, va1] 25, Ch.own (rSlice 4 rBool) [v7] r11.2.1, Ch.own (rSlice 34 (rSlice 3 rInt)) [v8] r11.2.2, Ch.own (rSlice 4 rBool) [v5] r9.2.1, Ch.own (rSlice 34 (rSlice 3 rInt)) [v6] r9.2.2, Ch.blk g3 [.int .i64 r4.1, v5, v6] 27, Ch.own (rSlice 4 rBool) [v9] r7.2.1, Ch.own (rSlice 34 (rSlice 3 rInt)) [v10] r7.2.2, Ch.own (rSlice 4 rBool) [v1] r2.2.1, Ch.own (rSlice 34 (rSlice 3 rInt)) [v2] r2.2.2, F])
              obtain rfl := Eq.symm hf
              clear A63 S63 a63 w63
              refine rn A64 S64 (sv (opT_move (v := .int .i64 1) rfl rfl) rfl rfl ?_)
              obtain ⟨r16, e16, hm⟩ := bind_some hm
              refine sop (OpT.lend (ls := [Ch.own (rSlice 4 rBool) [v7] r11.2.1, Ch.own (rSlice 34 (rSlice 3 rInt)) [v8] r11.2.2]) (gv := fun v => []) (fun _ => trivial) fun J hJ hl hb => opT_call (args := #[.agg #[.int .i64 r5.1.1, v7, v8], .int .i64 1]) (first := #[]) (captured := #[]) en18 rfl rfl rfl (c_w_heldAutomaton (r5.1.1, r11.2.1, r11.2.2) 1 _ e16 v7 v8 (hl _ _ _ (List.Mem.head _)) (hl _ _ _ (List.Mem.tail _ (List.Mem.head _))))) (perm_sel [10, 11, 0, 1, 2, 3, 4, 5, 6, 7, 8, 9, 12, 13, 14, 15, 16, 17, 18, 19] (m := 20) rfl rfl) rfl rfl ?_
              rintro u a65 w65 hf A65 (S65 : St I w0 w65 [Ch.own (rSlice 4 rBool) [v7] r11.2.1, Ch.own (rSlice 34 (rSlice 3 rInt)) [v8] r11.2.2, Ch.blk g4 [.int .i64 r5.1.1, v7, v8] 27, Ch.own (rSlice 4 rBool) [v13] r14.1.2.1, Ch.own (rSlice 34 (rSlice 3 rInt)) [v14] r14.1.2.2, Ch.own (rSlice 4 rBool) [v3] r3.1.2.1, Ch.own (rSlice 34 (rSlice 3 rInt)) [v4] r3.1.2.2, Ch.blk g2 [.int .i64 r3.1.1, v3, v4] 27, Ch.blk g5 [.int .i64 r14.1.1, v13, v14] 27, Ch.own (rSlice 4 rBool) [v11] r13.2.1, Ch.own (rSlice 34 (rSlice 3 rInt)) [v12] r13.2.2, Ch.blk g1 [.int .i64 p0.1, va0, va1] 25, Ch.own (rSlice 4 rBool) [v5] r9.2.1, Ch.own (rSlice 34 (rSlice 3 rInt)) [v6] r9.2.2, Ch.blk g3 [.int .i64 r4.1, v5, v6] 27, Ch.own (rSlice 4 rBool) [v9] r7.2.1, Ch.own (rSlice 34 (rSlice 3 rInt)) [v10] r7.2.2, Ch.own (rSlice 4 rBool) [v1] r2.2.1, Ch.own (rSlice 34 (rSlice 3 rInt)) [v2] r2.2.2, F])
              obtain rfl := Eq.symm hf
              clear A64 S64 a64 w64
              refine rn A65 S65 (sv (opT_assign (v := .int .i64 r16) rfl rfl) rfl rfl (enR (L' := [(10, .int .i64 r11.1), (11, .int .i64 r16)]) rfl ?_))
              clear A65 S65 a65 w65;intro a66 w66 A66 S66
              refine nrm (wp_seq (wp_seq (wp_region_lit (rn A66 S66 (sv (opT_move (v := .int .i64 r16) rfl rfl) rfl rfl (sv (opT_cmp (k := .i64) (m := r16) (n := 0) (c := decide (r16 < 0)) rfl rfl rfl rfl rfl) rfl rfl (enR (L' := [(10, .int .i64 r11.1), (11, .int .i64 r16), (92, .bool (decide (r16 < 0)))]) rfl ?_)))))))
              clear A66 S66 a66 w66;intro a67 w67 A67 S67
              refine nrm ?_
              rcases two (decide (r16 < 0)) with hb11 | hb11
              · replace hm := ifFe hb11 hm
                refine cnd_false (b := decide (r16 < 0)) A67 rfl rfl hb11 ?_
                refine wp_skip (nrm (wp_seq (wp_seq (wp_region_lit (rn A67 S67 (sv (opT_move (v := .int .i64 r16) rfl rfl) rfl rfl (sv (opT_move (v := .int .i64 r11.1) rfl rfl) rfl rfl (sv (opT_cmp (k := .i64) (m := r16) (n := r11.1) (c := r16 != r11.1) rfl rfl rfl rfl rfl) rfl rfl (enR (L' := [(95, .bool (r16 != r11.1))]) rfl ?_)))))))))
                clear A67 S67 a67 w67;intro a68 w68 A68 S68
                refine nrm ?_
                rcases two (r16 != r11.1) with hb12 | hb12
                · replace hm := ifFe hb12 hm
                  refine cnd_false (b := r16 != r11.1) A68 rfl rfl hb12 ?_
                  refine wp_skip (nrm (wp_seq (wp_region_lit (rn A68 S68 (sv (opT_assign (v := .bool true) rfl rfl) rfl rfl (enR (L' := [(2, .bool true)]) rfl ?_))))))
                  clear A68 S68 a68 w68;intro a69 w69 A69 S69
                  refine nrm (wp_ret ?_)
                  obtain rfl := Option.some.inj hm
                  exact ret_1 A69 rfl (res_tmp A69 rfl) ⟨_, rfl, rfl, _, Hp.le.rfl, St.sel (S69) 20 [19] rfl rfl⟩
                replace hm := ifTe hb12 hm
                refine cnd_true (b := r16 != r11.1) A68 rfl rfl hb12 ?_
                refine wp_seq (wp_region_lit (rn A68 S68 (sv (opT_assign (v := .bool false) rfl rfl) rfl rfl (enR (L' := [(2, .bool false)]) rfl ?_))))
                clear A68 S68 a68 w68;intro a70 w70 A70 S70
                refine nrm (wp_ret (thenR ?_))
                obtain rfl := Option.some.inj hm
                exact ret_1 A70 rfl (res_tmp A70 rfl) ⟨_, rfl, rfl, _, Hp.le.rfl, St.sel (S70) 20 [19] rfl rfl⟩
              replace hm := ifTe hb11 hm
              refine cnd_true (b := decide (r16 < 0)) A67 rfl rfl hb11 ?_
              refine wp_seq (wp_region_lit (rn A67 S67 (sv (opT_assign (v := .bool false) rfl rfl) rfl rfl (enR (L' := [(2, .bool false)]) rfl ?_))))
              clear A67 S67 a67 w67;intro a71 w71 A71 S71
              refine nrm (wp_ret (thenR ?_))
              obtain rfl := Option.some.inj hm
              exact ret_1 A71 rfl (res_tmp A71 rfl) ⟨_, rfl, rfl, _, Hp.le.rfl, St.sel (S71) 20 [19] rfl rfl⟩
            replace hm := ifTe hb10 hm
            refine cnd_true (b := r14.2 != r3.2) A62 rfl rfl hb10 ?_
            refine wp_seq (wp_region_lit (rn A62 S62 (sv (opT_assign (v := .bool false) rfl rfl) rfl rfl (enR (L' := [(2, .bool false)]) rfl ?_))))
            clear A62 S62 a62 w62;intro a72 w72 A72 S72
            refine nrm (wp_ret (thenR ?_))
            obtain rfl := Option.some.inj hm
            exact ret_1 A72 rfl (res_tmp A72 rfl) ⟨_, rfl, rfl, _, Hp.le.rfl, St.sel (S72) 20 [19] rfl rfl⟩
          replace hm := ifTe hb8 hm
          refine cnd_true (b := r12 != r11.1) A50 rfl rfl hb8 ?_
          refine wp_seq (wp_region_lit (rn A50 S50 (sv (opT_assign (v := .bool false) rfl rfl) rfl rfl (enR (L' := [(2, .bool false)]) rfl ?_))))
          clear A50 S50 a50 w50;intro a73 w73 A73 S73
          refine nrm (wp_ret (thenR ?_))
          obtain rfl := Option.some.inj hm
          exact ret_1 A73 rfl (res_tmp A73 rfl) ⟨_, rfl, rfl, _, Hp.le.rfl, St.sel (S73) 15 [14] rfl rfl⟩
        replace hm := ifTe hb7 hm
        refine cnd_true (b := decide (r12 < 0)) A49 rfl rfl hb7 ?_
        refine wp_seq (wp_region_lit (rn A49 S49 (sv (opT_assign (v := .bool false) rfl rfl) rfl rfl (enR (L' := [(2, .bool false)]) rfl ?_))))
        clear A49 S49 a49 w49;intro a74 w74 A74 S74
        refine nrm (wp_ret (thenR ?_))
        obtain rfl := Option.some.inj hm
        exact ret_1 A74 rfl (res_tmp A74 rfl) ⟨_, rfl, rfl, _, Hp.le.rfl, St.sel (S74) 15 [14] rfl rfl⟩
      replace hm := ifTe hb5 hm
      refine ssk (g := 2) (d := 51) (want := false) (b := decide (r9.1 < 0)) rfl rfl rfl hb5 rfl (ssk (g := 2) (d := 51) (want := false) (b := decide (r9.1 < 0)) rfl rfl rfl hb5 rfl (ssk (g := 2) (d := 51) (want := false) (b := decide (r9.1 < 0)) rfl rfl rfl hb5 rfl (ssk (g := 2) (d := 51) (want := false) (b := decide (r9.1 < 0)) rfl rfl rfl hb5 rfl (sv (opT_pick (b := decide (r9.1 < 0)) (v := .bool true) rfl rfl (ifT hb5)) rfl rfl (sv (opT_move (v := .bool true) rfl rfl) rfl rfl (ssk (g := 8) (d := 57) (want := false) (b := true) rfl rfl rfl rfl rfl (ssk (g := 8) (d := 57) (want := false) (b := true) rfl rfl rfl rfl rfl (ssk (g := 8) (d := 57) (want := false) (b := true) rfl rfl rfl rfl rfl (sv (opT_pick (b := true) (v := .bool true) rfl rfl (ifT rfl)) rfl rfl (enR (L' := [(1, .pointer (some ⟨g1, 0, none⟩)), (4, .pointer (some ⟨g2, 0, none⟩)), (5, .bool r3.2), (7, .pointer (some ⟨g4, 0, none⟩)), (61, .bool true)]) rfl ?_))))))))))
      clear A34 S34 a34 w34;intro a75 w75 A75 S75
      refine nrm (cnd_true (b := true) A75 rfl rfl rfl ?_)
      refine wp_seq (wp_region_lit (rn A75 S75 (sv (opT_assign (v := .bool false) rfl rfl) rfl rfl (enR (L' := [(2, .bool false)]) rfl ?_))))
      clear A75 S75 a75 w75;intro a76 w76 A76 S76
      refine nrm (wp_ret (thenR ?_))
      obtain rfl := Option.some.inj hm
      exact ret_1 A76 rfl (res_tmp A76 rfl) ⟨_, rfl, rfl, _, Hp.le.rfl, St.sel (S76) 15 [14] rfl rfl⟩
    replace hm := ifTe hb3 hm
    refine cnd_true (b := r5.2 != r3.2) A28 rfl rfl hb3 ?_
    refine wp_seq (wp_region_lit (rn A28 S28 (sv (opT_assign (v := .bool false) rfl rfl) rfl rfl (enR (L' := [(2, .bool false)]) rfl ?_))))
    clear A28 S28 a28 w28;intro a77 w77 A77 S77
    refine nrm (wp_ret (thenR ?_))
    obtain rfl := Option.some.inj hm
    exact ret_1 A77 rfl (res_tmp A77 rfl) ⟨_, rfl, rfl, _, Hp.le.rfl, St.sel (S77) 13 [12] rfl rfl⟩
  replace hm := ifTe hb1 hm
  refine cnd_true (b := decide (r1 < 0)) A7 rfl rfl hb1 ?_
  refine wp_seq (wp_region_lit (rn A7 S7 (sv (opT_assign (v := .bool true) rfl rfl) rfl rfl (enR (L' := [(2, .bool true)]) rfl ?_))))
  clear A7 S7 a7 w7;intro a78 w78 A78 S78
  refine nrm (wp_ret (thenR ?_))
  obtain rfl := Option.some.inj hm
  exact ret_1 A78 rfl (res_tmp A78 rfl) ⟨_, rfl, rfl, _, Hp.le.rfl, St.sel (S78) 2 [1] rfl rfl⟩
end Go.Proofs.Ytcihbmdppgpmjaa.D
