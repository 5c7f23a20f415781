/- Printed by dec.py: models of functions and the walks that show them. -/
import Derived.Test.YtcihbmdppgpmjaaCw1_0
import Derived.Test.YtcihbmdppgpmjaaCw2_1
import Derived.Test.YtcihbmdppgpmjaaCw2_3
set_option linter.unusedVariables false
set_option linter.unusedSimpArgs false
set_option linter.unnecessarySimpa false
set_option maxRecDepth 100000
set_option maxHeartbeats 8000000
namespace Go.Proofs.Ytcihbmdppgpmjaa.D
open Go.RowKit
theorem c_s_l13Make (p0a : Int × (List Bool) × (List (List Int))) (p1b : Int × (List Bool) × (List (List Int))) (p2op : Int) (r : (Int × (List Bool) × (List (List Int))) × Bool) (hm : m_s_l13Make p0a p1b p2op = some r) {I : Hp} {w0 : World} (va0 : Value) (va1 : Value) (va2 : Value) (va3 : Value) (ra0 : (rSlice 4 rBool).rd I [va0] p0a.2.1) (ra1 : (rSlice 34 (rSlice 3 rInt)).rd I [va1] p0a.2.2) (ra2 : (rSlice 4 rBool).rd I [va2] p1b.2.1) (ra3 : (rSlice 34 (rSlice 3 rInt)).rd I [va3] p1b.2.2) : Con Try.prog 71 #[.agg #[.int .i64 p0a.1, va0, va1], .agg #[.int .i64 p1b.1, va2, va3], .int .i64 p2op] I w0 [] (fun v => ∃ h0 h1 : Value, v = .tuple #[.agg #[.int .i64 r.1.1, h0, h1], .bool r.2]) (fun v => [Ch.own (rSlice 4 rBool) [vg v [0, 1]] r.1.2.1, Ch.own (rSlice 34 (rSlice 3 rInt)) [vg v [0, 2]] r.1.2.2]) := by
  refine con_of_wp (n := 29) [(0, .agg #[.int .i64 p0a.1, va0, va1]), (1, .agg #[.int .i64 p1b.1, va2, va3]), (2, .int .i64 p2op)] Try.func71 rfl rfl (Nat.le_of_ble_eq_true rfl) (args_all ⟨rfl, rfl, rfl, trivial⟩) (fun F w a ha hs => ?_) (fun v => ⟨dp_own (dp_slice dp_bool), dp_own (dp_slice (dp_slice dp_int)), trivial⟩)
  unfold m_s_l13Make at hm
  refine wp_seq (wp_region_lit (rn ha hs (sop (opT_box (u := .agg #[.int .i64 p0a.1, va0, va1]) (l := [.int .i64 p0a.1, va0, va1]) rfl rfl rfl) (List.Perm.refl _) rfl rfl ?_)))
  rintro _ a1 w1 ⟨g1, rfl⟩ A1 (S1 : St I w0 w1 [Ch.blk g1 [.int .i64 p0a.1, va0, va1] 27, F])
  clear ha hs a w
  refine rn A1 S1 (sop (opT_box (u := .agg #[.int .i64 p1b.1, va2, va3]) (l := [.int .i64 p1b.1, va2, va3]) rfl rfl rfl) (List.Perm.refl _) rfl rfl ?_)
  rintro _ a2 w2 ⟨g2, rfl⟩ A2 (S2 : St I w0 w2 [Ch.blk g2 [.int .i64 p1b.1, va2, va3] 27, Ch.blk g1 [.int .i64 p0a.1, va0, va1] 27, F])
  clear A1 S1 a1 w1
  refine rn A2 S2 (sop (opT_alloc (l := [.int .i64 0, .slice none 0 0, .slice none 0 0]) tz27 rfl rfl) (List.Perm.refl _) rfl rfl ?_)
  rintro _ a3 w3 ⟨g3, rfl⟩ A3 (S3 : St I w0 w3 [Ch.blk g3 [.int .i64 0, .slice none 0 0, .slice none 0 0] 27, Ch.blk g2 [.int .i64 p1b.1, va2, va3] 27, Ch.blk g1 [.int .i64 p0a.1, va0, va1] 27, F])
  clear A2 S2 a2 w2
  refine rn A3 S3 (sv (opT_assign (v := .bool false) rfl rfl) rfl rfl (enR (L' := [(2, .int .i64 p2op), (3, .pointer (some ⟨g1, 0, none⟩)), (4, .pointer (some ⟨g2, 0, none⟩)), (6, .pointer (some ⟨g3, 0, none⟩))]) rfl ?_))
  clear A3 S3 a3 w3;intro a4 w4 A4 S4
  refine nrm (wp_seq (wp_seq (wp_region_lit (rn A4 S4 (sop (opT_load_blk (g := g1) (off := 0) (E := 27) (l := [.int .i64 p0a.1, va0, va1]) (d := [.int .i64 p0a.1, va0, va1]) (u := .agg #[.int .i64 p0a.1, va0, va1]) ti27 rfl rfl rfl rfl rfl rfl) (perm_front (i := 2) rfl) rfl rfl ?_)))))
  rintro u a5 w5 hf A5 (S5 : St I w0 w5 [Ch.blk g1 [.int .i64 p0a.1, va0, va1] 27, Ch.blk g3 [.int .i64 0, .slice none 0 0, .slice none 0 0] 27, Ch.blk g2 [.int .i64 p1b.1, va2, va3] 27, F])
  obtain rfl := Eq.symm hf
  clear A4 S4 a4 w4
  obtain ⟨r1, e1, hm⟩ := bind_some hm
  refine rn A5 S5 (so0 (opT_call (args := #[.agg #[.int .i64 p0a.1, va0, va1]]) (first := #[]) (captured := #[]) en46 rfl rfl rfl (c_s_IsValidAutomaton (p0a.1, p0a.2.1, p0a.2.2) _ e1 va0 va1 ra0 ra1)) rfl rfl ?_)
  rintro u a6 w6 hf A6 S6
  obtain rfl := Eq.symm hf
  clear A5 S5 a5 w5
  refine rn A6 S6 (sv (opT_not (b := r1) rfl rfl) rfl rfl (sv (opT_move (v := .bool (!r1)) rfl rfl) rfl rfl ?_))
  rcases two (r1) with hb1 | hb1
  · replace hm := ifFe hb1 hm
    refine ssk (g := 3) (d := 12) (want := false) (b := !r1) rfl rfl rfl (notT hb1) rfl (ssk (g := 3) (d := 12) (want := false) (b := !r1) rfl rfl rfl (notT hb1) rfl (ssk (g := 3) (d := 12) (want := false) (b := !r1) rfl rfl rfl (notT hb1) rfl (sv (opT_pick (b := !r1) (v := .bool true) rfl rfl (ifT (notT hb1))) rfl rfl (enR (L' := [(2, .int .i64 p2op), (3, .pointer (some ⟨g1, 0, none⟩)), (4, .pointer (some ⟨g2, 0, none⟩)), (6, .pointer (some ⟨g3, 0, none⟩)), (16, .bool true)]) rfl ?_))))
    clear A6 S6 a6 w6;intro a7 w7 A7 S7
    refine nrm (cnd_true (b := true) A7 rfl rfl rfl ?_)
    refine wp_seq (wp_region_lit (rn A7 S7 (sv (opT_build (zl := [.int .i64 0, .slice none 0 0, .slice none 0 0]) (r := [.int .i64 0, .slice none 0 0, .slice none 0 0]) [] tb27 tz27 rfl rfl trivial rfl) rfl rfl (sop (opT_store_blk (g := g3) (off := 0) (l := [.int .i64 0, .slice none 0 0, .slice none 0 0]) (d := [.int .i64 0, .slice none 0 0, .slice none 0 0]) (E := 27) (u := .agg #[.int .i64 0, .slice none 0 0, .slice none 0 0]) ti27 rfl rfl rfl rfl rfl (allC rfl (allC rfl (allC rfl allN))) (Nat.le_of_ble_eq_true rfl)) (perm_front (i := 1) rfl) rfl rfl ?_))))
    rintro _ a8 w8 - A8 (S8 : St I w0 w8 [Ch.blk g3 [.int .i64 0, .slice none 0 0, .slice none 0 0] 27, Ch.blk g1 [.int .i64 p0a.1, va0, va1] 27, Ch.blk g2 [.int .i64 p1b.1, va2, va3] 27, F])
    clear A7 S7 a7 w7
    refine rn A8 S8 (sv (opT_assign (v := .bool false) rfl rfl) rfl rfl (enR (L' := [(6, .pointer (some ⟨g3, 0, none⟩)), (7, .bool false)]) rfl ?_))
    clear A8 S8 a8 w8;intro a9 w9 A9 S9
    refine nrm (wp_ret (thenR ?_))
    obtain rfl := Option.some.inj hm
    exact ret_2 A9 rfl (res_cell (g := g3) A9 rfl S9 0 rfl ti27 rfl) (res_tmp A9 rfl) ⟨_, rfl, ⟨_, _, rfl⟩, _, Hp.le.rfl, St.sel ((St.nil (St.nil S9))) 6 [1, 0, 5] rfl rfl⟩
  replace hm := ifTe hb1 hm
  refine sopg (g := 3) (d := 12) (want := false) (b := !r1) rfl rfl rfl (notF hb1) (opT_load_blk (g := g2) (off := 0) (E := 27) (l := [.int .i64 p1b.1, va2, va3]) (d := [.int .i64 p1b.1, va2, va3]) (u := .agg #[.int .i64 p1b.1, va2, va3]) ti27 rfl rfl rfl rfl rfl rfl) (perm_front (i := 2) rfl) rfl ?_
  rintro u a10 w10 hf A10 (S10 : St I w0 w10 [Ch.blk g2 [.int .i64 p1b.1, va2, va3] 27, Ch.blk g1 [.int .i64 p0a.1, va0, va1] 27, Ch.blk g3 [.int .i64 0, .slice none 0 0, .slice none 0 0] 27, F])
  obtain rfl := Eq.symm hf
  clear A6 S6 a6 w6
  obtain ⟨r2, e2, hm⟩ := bind_some hm
  refine rn A10 S10 (so0g (g := 3) (d := 12) (want := false) (b := !r1) rfl rfl rfl (notF hb1) (opT_call (args := #[.agg #[.int .i64 p1b.1, va2, va3]]) (first := #[]) (captured := #[]) en46 rfl rfl rfl (c_s_IsValidAutomaton (p1b.1, p1b.2.1, p1b.2.2) _ e2 va2 va3 ra2 ra3)) rfl ?_)
  rintro u a11 w11 hf A11 S11
  obtain rfl := Eq.symm hf
  clear A10 S10 a10 w10
  refine rn A11 S11 (svg (g := 3) (d := 12) (want := false) (b := !r1) rfl rfl rfl (notF hb1) (opT_not (b := r2) rfl rfl) rfl (sv (opT_pick (b := !r1) (v := .bool (!r2)) rfl rfl (ifF (notF hb1))) rfl rfl (enR (L' := [(2, .int .i64 p2op), (3, .pointer (some ⟨g1, 0, none⟩)), (4, .pointer (some ⟨g2, 0, none⟩)), (6, .pointer (some ⟨g3, 0, none⟩)), (16, .bool (!r2))]) rfl ?_)))
  clear A11 S11 a11 w11;intro a12 w12 A12 S12
  refine nrm ?_
  rcases two (r2) with hb2 | hb2
  · replace hm := ifFe hb2 hm
    refine cnd_true (b := !r2) A12 rfl rfl (notT hb2) ?_
    refine wp_seq (wp_region_lit (rn A12 S12 (sv (opT_build (zl := [.int .i64 0, .slice none 0 0, .slice none 0 0]) (r := [.int .i64 0, .slice none 0 0, .slice none 0 0]) [] tb27 tz27 rfl rfl trivial rfl) rfl rfl (sop (opT_store_blk (g := g3) (off := 0) (l := [.int .i64 0, .slice none 0 0, .slice none 0 0]) (d := [.int .i64 0, .slice none 0 0, .slice none 0 0]) (E := 27) (u := .agg #[.int .i64 0, .slice none 0 0, .slice none 0 0]) ti27 rfl rfl rfl rfl rfl (allC rfl (allC rfl (allC rfl allN))) (Nat.le_of_ble_eq_true rfl)) (perm_front (i := 2) rfl) rfl rfl ?_))))
    rintro _ a13 w13 - A13 (S13 : St I w0 w13 [Ch.blk g3 [.int .i64 0, .slice none 0 0, .slice none 0 0] 27, Ch.blk g2 [.int .i64 p1b.1, va2, va3] 27, Ch.blk g1 [.int .i64 p0a.1, va0, va1] 27, F])
    clear A12 S12 a12 w12
    refine rn A13 S13 (sv (opT_assign (v := .bool false) rfl rfl) rfl rfl (enR (L' := [(6, .pointer (some ⟨g3, 0, none⟩)), (7, .bool false)]) rfl ?_))
    clear A13 S13 a13 w13;intro a14 w14 A14 S14
    refine nrm (wp_ret (thenR ?_))
    obtain rfl := Option.some.inj hm
    exact ret_2 A14 rfl (res_cell (g := g3) A14 rfl S14 0 rfl ti27 rfl) (res_tmp A14 rfl) ⟨_, rfl, ⟨_, _, rfl⟩, _, Hp.le.rfl, St.sel ((St.nil (St.nil S14))) 6 [1, 0, 5] rfl rfl⟩
  replace hm := ifTe hb2 hm
  refine cnd_false (b := !r2) A12 rfl rfl (notF hb2) ?_
  refine wp_skip (nrm (wp_seq (wp_region_lit (rn A12 S12 (sop (opT_load_blk (g := g1) (off := 0) (E := 27) (l := [.int .i64 p0a.1, va0, va1]) (d := [.int .i64 p0a.1, va0, va1]) (u := .agg #[.int .i64 p0a.1, va0, va1]) ti27 rfl rfl rfl rfl rfl rfl) (perm_front (i := 1) rfl) rfl rfl ?_)))))
  rintro u a15 w15 hf A15 (S15 : St I w0 w15 [Ch.blk g1 [.int .i64 p0a.1, va0, va1] 27, Ch.blk g2 [.int .i64 p1b.1, va2, va3] 27, Ch.blk g3 [.int .i64 0, .slice none 0 0, .slice none 0 0] 27, F])
  obtain rfl := Eq.symm hf
  clear A12 S12 a12 w12
  refine rn A15 S15 (sop (opT_load_blk (g := g2) (off := 0) (E := 27) (l := [.int .i64 p1b.1, va2, va3]) (d := [.int .i64 p1b.1, va2, va3]) (u := .agg #[.int .i64 p1b.1, va2, va3]) ti27 rfl rfl rfl rfl rfl rfl) (perm_front (i := 1) rfl) rfl rfl ?_)
  rintro u a16 w16 hf A16 (S16 : St I w0 w16 [Ch.blk g2 [.int .i64 p1b.1, va2, va3] 27, Ch.blk g1 [.int .i64 p0a.1, va0, va1] 27, Ch.blk g3 [.int .i64 0, .slice none 0 0, .slice none 0 0] 27, F])
  obtain rfl := Eq.symm hf
  clear A15 S15 a15 w15
  refine rn A16 S16 (sv (opT_move (v := .int .i64 p2op) rfl rfl) rfl rfl ?_)
  obtain ⟨r3, e3, hm⟩ := bind_some hm
  refine sop (opT_call (args := #[.agg #[.int .i64 p0a.1, va0, va1], .agg #[.int .i64 p1b.1, va2, va3], .int .i64 p2op]) (first := #[]) (captured := #[]) en122 rfl rfl rfl (c_s_l13Pairs (p0a.1, p0a.2.1, p0a.2.2) (p1b.1, p1b.2.1, p1b.2.2) p2op _ e3 va0 va1 va2 va3 ra0 ra1 ra2 ra3)) (List.Perm.refl _) rfl rfl ?_
  rintro u a17 w17 ⟨v1, v2, rfl⟩ A17 (S17 : St I w0 w17 [Ch.own (rSlice 4 rBool) [v1] r3.2.1, Ch.own (rSlice 34 (rSlice 3 rInt)) [v2] r3.2.2, Ch.blk g2 [.int .i64 p1b.1, va2, va3] 27, Ch.blk g1 [.int .i64 p0a.1, va0, va1] 27, Ch.blk g3 [.int .i64 0, .slice none 0 0, .slice none 0 0] 27, F])
  clear A16 S16 a16 w16
  obtain ⟨r4, e4, hm⟩ := bind_some hm
  refine rn A17 S17 (sop (OpT.lend (ls := [Ch.own (rSlice 4 rBool) [v1] r3.2.1, Ch.own (rSlice 34 (rSlice 3 rInt)) [v2] r3.2.2]) (gv := fun v => [Ch.own (rSlice 4 rBool) [vg v [1]] r4.2.1, Ch.own (rSlice 34 (rSlice 3 rInt)) [vg v [2]] r4.2.2]) (fun _ => ⟨dp_own (dp_slice dp_bool), dp_own (dp_slice (dp_slice dp_int)), trivial⟩) fun J hJ hl hb => opT_call (args := #[.agg #[.int .i64 r3.1, v1, v2]]) (first := #[]) (captured := #[]) en60 rfl rfl rfl (c_s_l12Minimize (r3.1, r3.2.1, r3.2.2) _ e4 v1 v2 (hl _ _ _ (List.Mem.head _)) (hl _ _ _ (List.Mem.tail _ (List.Mem.head _))))) (perm_sel [0, 1, 2, 3, 4, 5] (m := 6) rfl rfl) rfl rfl ?_)
  rintro u a18 w18 ⟨v3, v4, rfl⟩ A18 (S18 : St I w0 w18 [Ch.own (rSlice 4 rBool) [v3] r4.2.1, Ch.own (rSlice 34 (rSlice 3 rInt)) [v4] r4.2.2, Ch.own (rSlice 4 rBool) [v1] r3.2.1, Ch.own (rSlice 34 (rSlice 3 rInt)) [v2] r3.2.2, Ch.blk g2 [.int .i64 p1b.1, va2, va3] 27, Ch.blk g1 [.int .i64 p0a.1, va0, va1] 27, Ch.blk g3 [.int .i64 0, .slice none 0 0, .slice none 0 0] 27, F])
  clear A17 S17 a17 w17
  refine rn A18 S18 (sop (opT_alloc (l := [.int .i64 0, .slice none 0 0, .slice none 0 0]) tz27 rfl rfl) (List.Perm.refl _) rfl rfl ?_)
  rintro _ a19 w19 ⟨g4, rfl⟩ A19 (S19 : St I w0 w19 [Ch.blk g4 [.int .i64 0, .slice none 0 0, .slice none 0 0] 27, Ch.own (rSlice 4 rBool) [v3] r4.2.1, Ch.own (rSlice 34 (rSlice 3 rInt)) [v4] r4.2.2, Ch.own (rSlice 4 rBool) [v1] r3.2.1, Ch.own (rSlice 34 (rSlice 3 rInt)) [v2] r3.2.2, Ch.blk g2 [.int .i64 p1b.1, va2, va3] 27, Ch.blk g1 [.int .i64 p0a.1, va0, va1] 27, Ch.blk g3 [.int .i64 0, .slice none 0 0, .slice none 0 0] 27, F])
  clear A18 S18 a18 w18
  refine rn A19 S19 (sop (opT_store_blk (g := g4) (off := 0) (l := [.int .i64 0, .slice none 0 0, .slice none 0 0]) (d := [.int .i64 r4.1, v3, v4]) (E := 27) (u := .agg #[.int .i64 r4.1, v3, v4]) ti27 rfl rfl rfl rfl rfl (allC rfl (allC (Hd.one (St.hd S19 1 rfl).1) (allC (Hd.one (St.hd S19 2 rfl).1) allN))) (Nat.le_of_ble_eq_true rfl)) (perm_front (i := 0) rfl) rfl rfl ?_)
  rintro _ a20 w20 - A20 (S20 : St I w0 w20 [Ch.blk g4 [.int .i64 r4.1, v3, v4] 27, Ch.own (rSlice 4 rBool) [v3] r4.2.1, Ch.own (rSlice 34 (rSlice 3 rInt)) [v4] r4.2.2, Ch.own (rSlice 4 rBool) [v1] r3.2.1, Ch.own (rSlice 34 (rSlice 3 rInt)) [v2] r3.2.2, Ch.blk g2 [.int .i64 p1b.1, va2, va3] 27, Ch.blk g1 [.int .i64 p0a.1, va0, va1] 27, Ch.blk g3 [.int .i64 0, .slice none 0 0, .slice none 0 0] 27, F])
  clear A19 S19 a19 w19
  replace A20 := A20.pk (L' := [(6, .pointer (some ⟨g3, 0, none⟩)), (8, .pointer (some ⟨g4, 0, none⟩))]) rfl
  refine wpList_nil (nrm (wp_seq (wp_seq (wp_region_lit (rn A20 S20 (sv (opT_field_addr (g := g4) (b := 0) tf27_1 rfl rfl) rfl rfl (sop (opT_load_blk (g := g4) (off := 1) (E := 27) (l := [.int .i64 r4.1, v3, v4]) (d := [v3]) (u := v3) ti22 rfl rfl rfl rfl rfl rfl) (perm_front (i := 0) rfl) rfl rfl ?_)))))))
  rintro u a21 w21 hf A21 (S21 : St I w0 w21 [Ch.blk g4 [.int .i64 r4.1, v3, v4] 27, Ch.own (rSlice 4 rBool) [v3] r4.2.1, Ch.own (rSlice 34 (rSlice 3 rInt)) [v4] r4.2.2, Ch.own (rSlice 4 rBool) [v1] r3.2.1, Ch.own (rSlice 34 (rSlice 3 rInt)) [v2] r3.2.2, Ch.blk g2 [.int .i64 p1b.1, va2, va3] 27, Ch.blk g1 [.int .i64 p0a.1, va0, va1] 27, Ch.blk g3 [.int .i64 0, .slice none 0 0, .slice none 0 0] 27, F])
  obtain rfl := Eq.symm hf
  clear A20 S20 a20 w20
  refine rn A21 S21 (sv (opT_len_hd (v := v3) (n := r4.2.1.length) (St.hd S21 1 rfl).1 Try.underlying22 rfl rfl) rfl rfl (sv (opT_cmp (k := .i64) (m := (r4.2.1.length : Int)) (n := 12) (c := decide ((r4.2.1.length : Int) > 12)) rfl rfl rfl rfl rfl) rfl rfl (enR (L' := [(6, .pointer (some ⟨g3, 0, none⟩)), (8, .pointer (some ⟨g4, 0, none⟩)), (26, .bool (decide ((r4.2.1.length : Int) > 12)))]) rfl ?_)))
  clear A21 S21 a21 w21;intro a22 w22 A22 S22
  refine nrm ?_
  rcases two (decide ((r4.2.1.length : Int) > 12)) with hb3 | hb3
  · replace hm := ifFe hb3 hm
    refine cnd_false (b := decide ((r4.2.1.length : Int) > 12)) A22 rfl rfl hb3 ?_
    refine wp_skip (nrm (wp_seq (wp_region_lit (rn A22 S22 (sop (opT_load_blk (g := g4) (off := 0) (E := 27) (l := [.int .i64 r4.1, v3, v4]) (d := [.int .i64 r4.1, v3, v4]) (u := .agg #[.int .i64 r4.1, v3, v4]) ti27 rfl rfl rfl rfl rfl rfl) (perm_front (i := 0) rfl) rfl rfl ?_)))))
    rintro u a23 w23 hf A23 (S23 : St I w0 w23 [Ch.blk g4 [.int .i64 r4.1, v3, v4] 27, Ch.own (rSlice 4 rBool) [v3] r4.2.1, Ch.own (rSlice 34 (rSlice 3 rInt)) [v4] r4.2.2, Ch.own (rSlice 4 rBool) [v1] r3.2.1, Ch.own (rSlice 34 (rSlice 3 rInt)) [v2] r3.2.2, Ch.blk g2 [.int .i64 p1b.1, va2, va3] 27, Ch.blk g1 [.int .i64 p0a.1, va0, va1] 27, Ch.blk g3 [.int .i64 0, .slice none 0 0, .slice none 0 0] 27, F])
    obtain rfl := Eq.symm hf
    clear A22 S22 a22 w22
    refine rn A23 S23 (sop (opT_store_blk (g := g3) (off := 0) (l := [.int .i64 0, .slice none 0 0, .slice none 0 0]) (d := [.int .i64 r4.1, v3, v4]) (E := 27) (u := .agg #[.int .i64 r4.1, v3, v4]) ti27 rfl rfl rfl rfl rfl (allC rfl (allC (Hd.one (St.hd S23 1 rfl).1) (allC (Hd.one (St.hd S23 2 rfl).1) allN))) (Nat.le_of_ble_eq_true rfl)) (perm_front (i := 7) rfl) rfl rfl ?_)
    rintro _ a24 w24 - A24 (S24 : St I w0 w24 [Ch.blk g3 [.int .i64 r4.1, v3, v4] 27, Ch.blk g4 [.int .i64 r4.1, v3, v4] 27, Ch.own (rSlice 4 rBool) [v3] r4.2.1, Ch.own (rSlice 34 (rSlice 3 rInt)) [v4] r4.2.2, Ch.own (rSlice 4 rBool) [v1] r3.2.1, Ch.own (rSlice 34 (rSlice 3 rInt)) [v2] r3.2.2, Ch.blk g2 [.int .i64 p1b.1, va2, va3] 27, Ch.blk g1 [.int .i64 p0a.1, va0, va1] 27, F])
    clear A23 S23 a23 w23
    refine rn A24 S24 (sv (opT_assign (v := .bool true) rfl rfl) rfl rfl (enR (L' := [(6, .pointer (some ⟨g3, 0, none⟩)), (7, .bool true)]) rfl ?_))
    clear A24 S24 a24 w24;intro a25 w25 A25 S25
    refine nrm (wp_ret ?_)
    obtain rfl := Option.some.inj hm
    exact ret_2 A25 rfl (res_cell (g := g3) A25 rfl S25 0 rfl ti27 rfl) (res_tmp A25 rfl) ⟨_, rfl, ⟨_, _, rfl⟩, _, Hp.le.rfl, St.sel (S25) 9 [2, 3, 8] rfl rfl⟩
  replace hm := ifTe hb3 hm
  refine cnd_true (b := decide ((r4.2.1.length : Int) > 12)) A22 rfl rfl hb3 ?_
  refine wp_seq (wp_region_lit (rn A22 S22 (sv (opT_build (zl := [.int .i64 0, .slice none 0 0, .slice none 0 0]) (r := [.int .i64 0, .slice none 0 0, .slice none 0 0]) [] tb27 tz27 rfl rfl trivial rfl) rfl rfl (sop (opT_store_blk (g := g3) (off := 0) (l := [.int .i64 0, .slice none 0 0, .slice none 0 0]) (d := [.int .i64 0, .slice none 0 0, .slice none 0 0]) (E := 27) (u := .agg #[.int .i64 0, .slice none 0 0, .slice none 0 0]) ti27 rfl rfl rfl rfl rfl (allC rfl (allC rfl (allC rfl allN))) (Nat.le_of_ble_eq_true rfl)) (perm_front (i := 7) rfl) rfl rfl ?_))))
  rintro _ a26 w26 - A26 (S26 : St I w0 w26 [Ch.blk g3 [.int .i64 0, .slice none 0 0, .slice none 0 0] 27, Ch.blk g4 [.int .i64 r4.1, v3, v4] 27, Ch.own (rSlice 4 rBool) [v3] r4.2.1, Ch.own (rSlice 34 (rSlice 3 rInt)) [v4] r4.2.2, Ch.own (rSlice 4 rBool) [v1] r3.2.1, Ch.own (rSlice 34 (rSlice 3 rInt)) [v2] r3.2.2, Ch.blk g2 [.int .i64 p1b.1, va2, va3] 27, Ch.blk g1 [.int .i64 p0a.1, va0, va1] 27, F])
  clear A22 S22 a22 w22
  refine rn A26 S26 (sv (opT_assign (v := .bool false) rfl rfl) rfl rfl (enR (L' := [(6, .pointer (some ⟨g3, 0, none⟩)), (7, .bool false)]) rfl ?_))
  clear A26 S26 a26 w26;intro a27 w27 A27 S27
  refine nrm (wp_ret (thenR ?_))
  obtain rfl := Option.some.inj hm
  exact ret_2 A27 rfl (res_cell (g := g3) A27 rfl S27 0 rfl ti27 rfl) (res_tmp A27 rfl) ⟨_, rfl, ⟨_, _, rfl⟩, _, Hp.le.rfl, St.sel ((St.nil (St.nil S27))) 11 [1, 0, 10] rfl rfl⟩
end Go.Proofs.Ytcihbmdppgpmjaa.D
