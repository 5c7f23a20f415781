/- Printed by dec.py: models of functions and the walks that show them. -/
import Derived.Test.YtcihbmdppgpmjaaCw4_0
set_option linter.unusedVariables false
set_option linter.unusedSimpArgs false
set_option linter.unnecessarySimpa false
set_option maxRecDepth 100000
set_option maxHeartbeats 8000000
namespace Go.Proofs.Ytcihbmdppgpmjaa.D
open Go.RowKit
theorem c_i_small (p0a : Int × (List Bool) × (List (List Int))) (r : (Int × (List Bool) × (List (List Int))) × Bool) (hm : m_i_small p0a = some r) {I : Hp} {w0 : World} (va0 : Value) (va1 : Value) (ra0 : (rSlice 4 rBool).rd I [va0] p0a.2.1) (ra1 : (rSlice 34 (rSlice 3 rInt)).rd I [va1] p0a.2.2) : Con Try.prog 127 #[.agg #[.int .i64 p0a.1, va0, va1]] I w0 [] (fun v => ∃ h0 h1 : Value, v = .tuple #[.agg #[.int .i64 r.1.1, h0, h1], .bool r.2]) (fun v => [Ch.own (rSlice 4 rBool) [vg v [0, 1]] r.1.2.1, Ch.own (rSlice 34 (rSlice 3 rInt)) [vg v [0, 2]] r.1.2.2]) := by
  refine con_of_wp (n := 13) [(0, .agg #[.int .i64 p0a.1, va0, va1])] Try.func127 rfl rfl (Nat.le_of_ble_eq_true rfl) (args_all ⟨rfl, trivial⟩) (fun F w a ha hs => ?_) (fun v => ⟨dp_own (dp_slice dp_bool), dp_own (dp_slice (dp_slice dp_int)), trivial⟩)
  unfold m_i_small at hm
  refine wp_seq (wp_region_lit (rn ha hs (sop (opT_box (u := .agg #[.int .i64 p0a.1, va0, va1]) (l := [.int .i64 p0a.1, va0, va1]) rfl rfl rfl) (List.Perm.refl _) rfl rfl ?_)))
  rintro _ a1 w1 ⟨g1, rfl⟩ A1 (S1 : St I w0 w1 [Ch.blk g1 [.int .i64 p0a.1, va0, va1] 27, F])
  clear ha hs a w
  refine rn A1 S1 (sop (opT_alloc (l := [.int .i64 0, .slice none 0 0, .slice none 0 0]) tz27 rfl rfl) (List.Perm.refl _) rfl rfl ?_)
  rintro _ a2 w2 ⟨g2, rfl⟩ A2 (S2 : St I w0 w2 [Ch.blk g2 [.int .i64 0, .slice none 0 0, .slice none 0 0] 27, Ch.blk g1 [.int .i64 p0a.1, va0, va1] 27, F])
  clear A1 S1 a1 w1
  refine rn A2 S2 (sv (opT_assign (v := .bool false) rfl rfl) rfl rfl (enR (L' := [(1, .pointer (some ⟨g1, 0, none⟩)), (2, .pointer (some ⟨g2, 0, none⟩))]) rfl ?_))
  clear A2 S2 a2 w2;intro a3 w3 A3 S3
  refine nrm (wp_seq (wp_region_lit (rn A3 S3 (sop (opT_load_blk (g := g1) (off := 0) (E := 27) (l := [.int .i64 p0a.1, va0, va1]) (d := [.int .i64 p0a.1, va0, va1]) (u := .agg #[.int .i64 p0a.1, va0, va1]) ti27 rfl rfl rfl rfl rfl rfl) (perm_front (i := 1) rfl) rfl rfl ?_))))
  rintro u a4 w4 hf A4 (S4 : St I w0 w4 [Ch.blk g1 [.int .i64 p0a.1, va0, va1] 27, Ch.blk g2 [.int .i64 0, .slice none 0 0, .slice none 0 0] 27, F])
  obtain rfl := Eq.symm hf
  clear A3 S3 a3 w3
  obtain ⟨r1, e1, hm⟩ := bind_some hm
  refine rn A4 S4 (sop (opT_call (args := #[.agg #[.int .i64 p0a.1, va0, va1]]) (first := #[]) (captured := #[]) en62 rfl rfl rfl (c_i_Automaton_minimize (p0a.1, p0a.2.1, p0a.2.2) _ e1 va0 va1 ra0 ra1)) (List.Perm.refl _) rfl rfl ?_)
  rintro u a5 w5 ⟨v1, v2, rfl⟩ A5 (S5 : St I w0 w5 [Ch.own (rSlice 4 rBool) [v1] r1.2.1, Ch.own (rSlice 34 (rSlice 3 rInt)) [v2] r1.2.2, Ch.blk g1 [.int .i64 p0a.1, va0, va1] 27, Ch.blk g2 [.int .i64 0, .slice none 0 0, .slice none 0 0] 27, F])
  clear A4 S4 a4 w4
  refine rn A5 S5 (sop (opT_alloc (l := [.int .i64 0, .slice none 0 0, .slice none 0 0]) tz27 rfl rfl) (List.Perm.refl _) rfl rfl ?_)
  rintro _ a6 w6 ⟨g3, rfl⟩ A6 (S6 : St I w0 w6 [Ch.blk g3 [.int .i64 0, .slice none 0 0, .slice none 0 0] 27, Ch.own (rSlice 4 rBool) [v1] r1.2.1, Ch.own (rSlice 34 (rSlice 3 rInt)) [v2] r1.2.2, Ch.blk g1 [.int .i64 p0a.1, va0, va1] 27, Ch.blk g2 [.int .i64 0, .slice none 0 0, .slice none 0 0] 27, F])
  clear A5 S5 a5 w5
  refine rn A6 S6 (sop (opT_store_blk (g := g3) (off := 0) (l := [.int .i64 0, .slice none 0 0, .slice none 0 0]) (d := [.int .i64 r1.1, v1, v2]) (E := 27) (u := .agg #[.int .i64 r1.1, v1, v2]) ti27 rfl rfl rfl rfl rfl (allC rfl (allC (Hd.one (St.hd S6 1 rfl).1) (allC (Hd.one (St.hd S6 2 rfl).1) allN))) (Nat.le_of_ble_eq_true rfl)) (perm_front (i := 0) rfl) rfl rfl ?_)
  rintro _ a7 w7 - A7 (S7 : St I w0 w7 [Ch.blk g3 [.int .i64 r1.1, v1, v2] 27, Ch.own (rSlice 4 rBool) [v1] r1.2.1, Ch.own (rSlice 34 (rSlice 3 rInt)) [v2] r1.2.2, Ch.blk g1 [.int .i64 p0a.1, va0, va1] 27, Ch.blk g2 [.int .i64 0, .slice none 0 0, .slice none 0 0] 27, F])
  clear A6 S6 a6 w6
  replace A7 := A7.pk (L' := [(2, .pointer (some ⟨g2, 0, none⟩)), (4, .pointer (some ⟨g3, 0, none⟩))]) rfl
  refine wpList_nil (nrm (wp_seq (wp_seq (wp_region_lit (rn A7 S7 (sv (opT_field_addr (g := g3) (b := 0) tf27_1 rfl rfl) rfl rfl (sop (opT_load_blk (g := g3) (off := 1) (E := 27) (l := [.int .i64 r1.1, v1, v2]) (d := [v1]) (u := v1) ti22 rfl rfl rfl rfl rfl rfl) (perm_front (i := 0) rfl) rfl rfl ?_)))))))
  rintro u a8 w8 hf A8 (S8 : St I w0 w8 [Ch.blk g3 [.int .i64 r1.1, v1, v2] 27, Ch.own (rSlice 4 rBool) [v1] r1.2.1, Ch.own (rSlice 34 (rSlice 3 rInt)) [v2] r1.2.2, Ch.blk g1 [.int .i64 p0a.1, va0, va1] 27, Ch.blk g2 [.int .i64 0, .slice none 0 0, .slice none 0 0] 27, F])
  obtain rfl := Eq.symm hf
  clear A7 S7 a7 w7
  refine rn A8 S8 (sv (opT_len_hd (v := v1) (n := r1.2.1.length) (St.hd S8 1 rfl).1 Try.underlying22 rfl rfl) rfl rfl (sv (opT_cmp (k := .i64) (m := (r1.2.1.length : Int)) (n := 12) (c := decide ((r1.2.1.length : Int) > 12)) rfl rfl rfl rfl rfl) rfl rfl (enR (L' := [(2, .pointer (some ⟨g2, 0, none⟩)), (4, .pointer (some ⟨g3, 0, none⟩)), (10, .bool (decide ((r1.2.1.length : Int) > 12)))]) rfl ?_)))
  clear A8 S8 a8 w8;intro a9 w9 A9 S9
  refine nrm ?_
  rcases two (decide ((r1.2.1.length : Int) > 12)) with hb1 | hb1
  · replace hm := ifFe hb1 hm
    refine cnd_false (b := decide ((r1.2.1.length : Int) > 12)) A9 rfl rfl hb1 ?_
    refine wp_skip (nrm (wp_seq (wp_region_lit (rn A9 S9 (sop (opT_load_blk (g := g3) (off := 0) (E := 27) (l := [.int .i64 r1.1, v1, v2]) (d := [.int .i64 r1.1, v1, v2]) (u := .agg #[.int .i64 r1.1, v1, v2]) ti27 rfl rfl rfl rfl rfl rfl) (perm_front (i := 0) rfl) rfl rfl ?_)))))
    rintro u a10 w10 hf A10 (S10 : St I w0 w10 [Ch.blk g3 [.int .i64 r1.1, v1, v2] 27, Ch.own (rSlice 4 rBool) [v1] r1.2.1, Ch.own (rSlice 34 (rSlice 3 rInt)) [v2] r1.2.2, Ch.blk g1 [.int .i64 p0a.1, va0, va1] 27, Ch.blk g2 [.int .i64 0, .slice none 0 0, .slice none 0 0] 27, F])
    obtain rfl := Eq.symm hf
    clear A9 S9 a9 w9
    refine rn A10 S10 (sop (opT_store_blk (g := g2) (off := 0) (l := [.int .i64 0, .slice none 0 0, .slice none 0 0]) (d := [.int .i64 r1.1, v1, v2]) (E := 27) (u := .agg #[.int .i64 r1.1, v1, v2]) ti27 rfl rfl rfl rfl rfl (allC rfl (allC (Hd.one (St.hd S10 1 rfl).1) (allC (Hd.one (St.hd S10 2 rfl).1) allN))) (Nat.le_of_ble_eq_true rfl)) (perm_front (i := 4) rfl) rfl rfl ?_)
    rintro _ a11 w11 - A11 (S11 : St I w0 w11 [Ch.blk g2 [.int .i64 r1.1, v1, v2] 27, Ch.blk g3 [.int .i64 r1.1, v1, v2] 27, Ch.own (rSlice 4 rBool) [v1] r1.2.1, Ch.own (rSlice 34 (rSlice 3 rInt)) [v2] r1.2.2, Ch.blk g1 [.int .i64 p0a.1, va0, va1] 27, F])
    clear A10 S10 a10 w10
    refine rn A11 S11 (sv (opT_assign (v := .bool true) rfl rfl) rfl rfl (enR (L' := [(2, .pointer (some ⟨g2, 0, none⟩)), (3, .bool true)]) rfl ?_))
    clear A11 S11 a11 w11;intro a12 w12 A12 S12
    refine nrm (wp_ret ?_)
    obtain rfl := Option.some.inj hm
    exact ret_2 A12 rfl (res_cell (g := g2) A12 rfl S12 0 rfl ti27 rfl) (res_tmp A12 rfl) ⟨_, rfl, ⟨_, _, rfl⟩, _, Hp.le.rfl, St.sel (S12) 6 [2, 3, 5] rfl rfl⟩
  replace hm := ifTe hb1 hm
  refine cnd_true (b := decide ((r1.2.1.length : Int) > 12)) A9 rfl rfl hb1 ?_
  refine wp_seq (wp_region_lit (rn A9 S9 (sv (opT_build (zl := [.int .i64 0, .slice none 0 0, .slice none 0 0]) (r := [.int .i64 0, .slice none 0 0, .slice none 0 0]) [] tb27 tz27 rfl rfl trivial rfl) rfl rfl (sop (opT_store_blk (g := g2) (off := 0) (l := [.int .i64 0, .slice none 0 0, .slice none 0 0]) (d := [.int .i64 0, .slice none 0 0, .slice none 0 0]) (E := 27) (u := .agg #[.int .i64 0, .slice none 0 0, .slice none 0 0]) ti27 rfl rfl rfl rfl rfl (allC rfl (allC rfl (allC rfl allN))) (Nat.le_of_ble_eq_true rfl)) (perm_front (i := 4) rfl) rfl rfl ?_))))
  rintro _ a13 w13 - A13 (S13 : St I w0 w13 [Ch.blk g2 [.int .i64 0, .slice none 0 0, .slice none 0 0] 27, Ch.blk g3 [.int .i64 r1.1, v1, v2] 27, Ch.own (rSlice 4 rBool) [v1] r1.2.1, Ch.own (rSlice 34 (rSlice 3 rInt)) [v2] r1.2.2, Ch.blk g1 [.int .i64 p0a.1, va0, va1] 27, F])
  clear A9 S9 a9 w9
  refine rn A13 S13 (sv (opT_assign (v := .bool false) rfl rfl) rfl rfl (enR (L' := [(2, .pointer (some ⟨g2, 0, none⟩)), (3, .bool false)]) rfl ?_))
  clear A13 S13 a13 w13;intro a14 w14 A14 S14
  refine nrm (wp_ret (thenR ?_))
  obtain rfl := Option.some.inj hm
  exact ret_2 A14 rfl (res_cell (g := g2) A14 rfl S14 0 rfl ti27 rfl) (res_tmp A14 rfl) ⟨_, rfl, ⟨_, _, rfl⟩, _, Hp.le.rfl, St.sel ((St.nil (St.nil S14))) 8 [1, 0, 7] rfl rfl⟩
end Go.Proofs.Ytcihbmdppgpmjaa.D
