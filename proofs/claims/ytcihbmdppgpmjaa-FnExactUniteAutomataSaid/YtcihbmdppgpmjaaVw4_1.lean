/- Printed by dec.py: models of functions and the walks that show them. -/
import Derived.Test.YtcihbmdppgpmjaaVw3_1
set_option linter.unusedVariables false
set_option linter.unusedSimpArgs false
set_option linter.unnecessarySimpa false
set_option maxRecDepth 100000
set_option maxHeartbeats 8000000
namespace Go.Proofs.Ytcihbmdppgpmjaa.D
open Go.RowKit
theorem c_s_UniteAutomata (p0a : Int × (List Bool) × (List (List Int))) (p1b : Int × (List Bool) × (List (List Int))) (r : (Int × (List Bool) × (List (List Int))) × Bool) (hm : m_s_UniteAutomata p0a p1b = some r) {I : Hp} {w0 : World} (va0 : Value) (va1 : Value) (va2 : Value) (va3 : Value) (ra0 : (rSlice 4 rBool).rd I [va0] p0a.2.1) (ra1 : (rSlice 34 (rSlice 3 rInt)).rd I [va1] p0a.2.2) (ra2 : (rSlice 4 rBool).rd I [va2] p1b.2.1) (ra3 : (rSlice 34 (rSlice 3 rInt)).rd I [va3] p1b.2.2) : Con Try.prog 35 #[.agg #[.int .i64 p0a.1, va0, va1], .agg #[.int .i64 p1b.1, va2, va3]] I w0 [] (fun v => ∃ h0 h1 : Value, v = .tuple #[.agg #[.int .i64 r.1.1, h0, h1], .bool r.2]) (fun v => [Ch.own (rSlice 4 rBool) [vg v [0, 1]] r.1.2.1, Ch.own (rSlice 34 (rSlice 3 rInt)) [vg v [0, 2]] r.1.2.2]) := by
  refine con_of_wp (n := 16) [(0, .agg #[.int .i64 p0a.1, va0, va1]), (1, .agg #[.int .i64 p1b.1, va2, va3])] Try.func35 rfl rfl (Nat.le_of_ble_eq_true rfl) (args_all ⟨rfl, rfl, trivial⟩) (fun F w a ha hs => ?_) (fun v => ⟨dp_own (dp_slice dp_bool), dp_own (dp_slice (dp_slice dp_int)), trivial⟩)
  unfold m_s_UniteAutomata at hm
  refine wp_seq (wp_region_lit (rn ha hs (sop (opT_box (u := .agg #[.int .i64 p0a.1, va0, va1]) (l := [.int .i64 p0a.1, va0, va1]) rfl rfl rfl) (List.Perm.refl _) rfl rfl ?_)))
  rintro _ a1 w1 ⟨g1, rfl⟩ A1 (S1 : St I w0 w1 [Ch.blk g1 [.int .i64 p0a.1, va0, va1] 27, F])
  clear ha hs a w
  refine rn A1 S1 (sop (opT_box (u := .agg #[.int .i64 p1b.1, va2, va3]) (l := [.int .i64 p1b.1, va2, va3]) rfl rfl rfl) (List.Perm.refl _) rfl rfl ?_)
  rintro _ a2 w2 ⟨g2, rfl⟩ A2 (S2 : St I w0 w2 [Ch.blk g2 [.int .i64 p1b.1, va2, va3] 27, Ch.blk g1 [.int .i64 p0a.1, va0, va1] 27, F])
  clear A1 S1 a1 w1
  refine rn A2 S2 (sop (opT_alloc (l := [.int .i64 0, .slice none 0 0, .slice none 0 0]) tz27 rfl rfl) (List.Perm.refl _) rfl rfl ?_)
  rintro _ a3 w3 ⟨g3, rfl⟩ A3 (S3 : St I w0 w3 [Ch.blk g3 [.int .i64 0, .slice none 0 0, .slice none 0 0] 27, Ch.blk g2 [.int .i64 p1b.1, va2, va3] 27, Ch.blk g1 [.int .i64 p0a.1, va0, va1] 27, F])
  clear A2 S2 a2 w2
  refine rn A3 S3 (sv (opT_assign (v := .bool false) rfl rfl) rfl rfl (enR (L' := [(2, .pointer (some ⟨g1, 0, none⟩)), (3, .pointer (some ⟨g2, 0, none⟩)), (4, .pointer (some ⟨g3, 0, none⟩))]) rfl ?_))
  clear A3 S3 a3 w3;intro a4 w4 A4 S4
  refine nrm (wp_seq (wp_region_lit (rn A4 S4 (sop (opT_load_blk (g := g1) (off := 0) (E := 27) (l := [.int .i64 p0a.1, va0, va1]) (d := [.int .i64 p0a.1, va0, va1]) (u := .agg #[.int .i64 p0a.1, va0, va1]) ti27 rfl rfl rfl rfl rfl rfl) (perm_front (i := 2) rfl) rfl rfl ?_))))
  rintro u a5 w5 hf A5 (S5 : St I w0 w5 [Ch.blk g1 [.int .i64 p0a.1, va0, va1] 27, Ch.blk g3 [.int .i64 0, .slice none 0 0, .slice none 0 0] 27, Ch.blk g2 [.int .i64 p1b.1, va2, va3] 27, F])
  obtain rfl := Eq.symm hf
  clear A4 S4 a4 w4
  refine rn A5 S5 (sop (opT_load_blk (g := g2) (off := 0) (E := 27) (l := [.int .i64 p1b.1, va2, va3]) (d := [.int .i64 p1b.1, va2, va3]) (u := .agg #[.int .i64 p1b.1, va2, va3]) ti27 rfl rfl rfl rfl rfl rfl) (perm_front (i := 2) rfl) rfl rfl ?_)
  rintro u a6 w6 hf A6 (S6 : St I w0 w6 [Ch.blk g2 [.int .i64 p1b.1, va2, va3] 27, Ch.blk g1 [.int .i64 p0a.1, va0, va1] 27, Ch.blk g3 [.int .i64 0, .slice none 0 0, .slice none 0 0] 27, F])
  obtain rfl := Eq.symm hf
  clear A5 S5 a5 w5
  obtain ⟨r1, e1, hm⟩ := bind_some hm
  refine rn A6 S6 (sop (opT_call (args := #[.agg #[.int .i64 p0a.1, va0, va1], .agg #[.int .i64 p1b.1, va2, va3], .int .i64 2]) (first := #[]) (captured := #[]) en71 rfl rfl rfl (c_s_l13Make (p0a.1, p0a.2.1, p0a.2.2) (p1b.1, p1b.2.1, p1b.2.2) 2 _ e1 va0 va1 va2 va3 ra0 ra1 ra2 ra3)) (List.Perm.refl _) rfl rfl ?_)
  rintro u a7 w7 ⟨v1, v2, rfl⟩ A7 (S7 : St I w0 w7 [Ch.own (rSlice 4 rBool) [v1] r1.1.2.1, Ch.own (rSlice 34 (rSlice 3 rInt)) [v2] r1.1.2.2, Ch.blk g2 [.int .i64 p1b.1, va2, va3] 27, Ch.blk g1 [.int .i64 p0a.1, va0, va1] 27, Ch.blk g3 [.int .i64 0, .slice none 0 0, .slice none 0 0] 27, F])
  clear A6 S6 a6 w6
  refine rn A7 S7 (sv (opT_move (v := .tuple #[.agg #[.int .i64 r1.1.1, v1, v2], .bool r1.2]) rfl rfl) rfl rfl (sv (opT_extract (vs := #[.agg #[.int .i64 r1.1.1, v1, v2], .bool r1.2]) (v := .agg #[.int .i64 r1.1.1, v1, v2]) rfl rfl rfl) rfl rfl (sv (opT_extract (vs := #[.agg #[.int .i64 r1.1.1, v1, v2], .bool r1.2]) (v := .bool r1.2) rfl rfl rfl) rfl rfl (sop (opT_alloc (l := [.int .i64 0, .slice none 0 0, .slice none 0 0]) tz27 rfl rfl) (List.Perm.refl _) rfl rfl ?_))))
  rintro _ a8 w8 ⟨g4, rfl⟩ A8 (S8 : St I w0 w8 [Ch.blk g4 [.int .i64 0, .slice none 0 0, .slice none 0 0] 27, Ch.own (rSlice 4 rBool) [v1] r1.1.2.1, Ch.own (rSlice 34 (rSlice 3 rInt)) [v2] r1.1.2.2, Ch.blk g2 [.int .i64 p1b.1, va2, va3] 27, Ch.blk g1 [.int .i64 p0a.1, va0, va1] 27, Ch.blk g3 [.int .i64 0, .slice none 0 0, .slice none 0 0] 27, F])
  clear A7 S7 a7 w7
  refine rn A8 S8 (sop (opT_store_blk (g := g4) (off := 0) (l := [.int .i64 0, .slice none 0 0, .slice none 0 0]) (d := [.int .i64 r1.1.1, v1, v2]) (E := 27) (u := .agg #[.int .i64 r1.1.1, v1, v2]) ti27 rfl rfl rfl rfl rfl (allC rfl (allC (Hd.one (St.hd S8 1 rfl).1) (allC (Hd.one (St.hd S8 2 rfl).1) allN))) (Nat.le_of_ble_eq_true rfl)) (perm_front (i := 0) rfl) rfl rfl ?_)
  rintro _ a9 w9 - A9 (S9 : St I w0 w9 [Ch.blk g4 [.int .i64 r1.1.1, v1, v2] 27, Ch.own (rSlice 4 rBool) [v1] r1.1.2.1, Ch.own (rSlice 34 (rSlice 3 rInt)) [v2] r1.1.2.2, Ch.blk g2 [.int .i64 p1b.1, va2, va3] 27, Ch.blk g1 [.int .i64 p0a.1, va0, va1] 27, Ch.blk g3 [.int .i64 0, .slice none 0 0, .slice none 0 0] 27, F])
  clear A8 S8 a8 w8
  refine rn A9 S9 (sv (opT_assign (v := .bool r1.2) rfl rfl) rfl rfl (enR (L' := [(4, .pointer (some ⟨g3, 0, none⟩)), (6, .pointer (some ⟨g4, 0, none⟩)), (7, .bool r1.2)]) rfl ?_))
  clear A9 S9 a9 w9;intro a10 w10 A10 S10
  refine nrm (wp_seq (wp_region_lit (rn A10 S10 (sop (opT_load_blk (g := g4) (off := 0) (E := 27) (l := [.int .i64 r1.1.1, v1, v2]) (d := [.int .i64 r1.1.1, v1, v2]) (u := .agg #[.int .i64 r1.1.1, v1, v2]) ti27 rfl rfl rfl rfl rfl rfl) (perm_front (i := 0) rfl) rfl rfl ?_))))
  rintro u a11 w11 hf A11 (S11 : St I w0 w11 [Ch.blk g4 [.int .i64 r1.1.1, v1, v2] 27, Ch.own (rSlice 4 rBool) [v1] r1.1.2.1, Ch.own (rSlice 34 (rSlice 3 rInt)) [v2] r1.1.2.2, Ch.blk g2 [.int .i64 p1b.1, va2, va3] 27, Ch.blk g1 [.int .i64 p0a.1, va0, va1] 27, Ch.blk g3 [.int .i64 0, .slice none 0 0, .slice none 0 0] 27, F])
  obtain rfl := Eq.symm hf
  clear A10 S10 a10 w10
  refine rn A11 S11 (sv (opT_move (v := .bool r1.2) rfl rfl) rfl rfl (sop (opT_store_blk (g := g3) (off := 0) (l := [.int .i64 0, .slice none 0 0, .slice none 0 0]) (d := [.int .i64 r1.1.1, v1, v2]) (E := 27) (u := .agg #[.int .i64 r1.1.1, v1, v2]) ti27 rfl rfl rfl rfl rfl (allC rfl (allC (Hd.one (St.hd S11 1 rfl).1) (allC (Hd.one (St.hd S11 2 rfl).1) allN))) (Nat.le_of_ble_eq_true rfl)) (perm_front (i := 5) rfl) rfl rfl ?_))
  rintro _ a12 w12 - A12 (S12 : St I w0 w12 [Ch.blk g3 [.int .i64 r1.1.1, v1, v2] 27, Ch.blk g4 [.int .i64 r1.1.1, v1, v2] 27, Ch.own (rSlice 4 rBool) [v1] r1.1.2.1, Ch.own (rSlice 34 (rSlice 3 rInt)) [v2] r1.1.2.2, Ch.blk g2 [.int .i64 p1b.1, va2, va3] 27, Ch.blk g1 [.int .i64 p0a.1, va0, va1] 27, F])
  clear A11 S11 a11 w11
  refine rn A12 S12 (sv (opT_assign (v := .bool r1.2) rfl rfl) rfl rfl (enR (L' := [(4, .pointer (some ⟨g3, 0, none⟩)), (5, .bool r1.2)]) rfl ?_))
  clear A12 S12 a12 w12;intro a13 w13 A13 S13
  refine nrm (wp_ret ?_)
  obtain rfl := Option.some.inj hm
  exact ret_2 A13 rfl (res_cell (g := g3) A13 rfl S13 0 rfl ti27 rfl) (res_tmp A13 rfl) ⟨_, rfl, ⟨_, _, rfl⟩, _, Hp.le.rfl, St.sel (S13) 7 [2, 3, 6] rfl rfl⟩
end Go.Proofs.Ytcihbmdppgpmjaa.D
