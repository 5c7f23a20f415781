/- Printed by dec.py: models of functions and the walks that show them. -/
import Derived.Test.YtcihbmdppgpmjaaCm
set_option linter.unusedVariables false
set_option linter.unusedSimpArgs false
set_option linter.unnecessarySimpa false
set_option maxRecDepth 100000
set_option maxHeartbeats 8000000
namespace Go.Proofs.Ytcihbmdppgpmjaa.D
open Go.RowKit
theorem c_i_numbered_states (p0 : Int × Int) (p1 : Int) (p2 : (Int × Int) → Option Bool) (p3 : (Int × Int) → Int → Option ((Int × Int) × Bool)) (r : (Int × (List Bool) × (List (List Int))) × Bool) (hm : m_i_numbered_states p0 p1 p2 p3 = some r) {I : Hp} {w0 : World} (va0 : Value) (va1 : Value) (ra0 : fn138 w0 I va0 p2) (ra1 : fn139 w0 I va1 p3) : Con Try.prog 124 #[.agg #[.int .i64 p0.1, .int .i64 p0.2], .int .i64 p1, va0, va1] I w0 [] (fun v => ∃ h0 h1 : Value, v = .tuple #[.agg #[.int .i64 r.1.1, h0, h1], .bool r.2]) (fun v => [Ch.own (rSlice 4 rBool) [vg v [0, 1]] r.1.2.1, Ch.own (rSlice 34 (rSlice 3 rInt)) [vg v [0, 2]] r.1.2.2]) := by
  refine con_of_wp (n := 96) [(0, .agg #[.int .i64 p0.1, .int .i64 p0.2]), (1, .int .i64 p1), (2, va0), (3, va1)] Try.func124 rfl rfl (Nat.le_of_ble_eq_true rfl) (args_all ⟨rfl, rfl, rfl, rfl, trivial⟩) (fun F w a ha hs => ?_) (fun v => ⟨dp_own (dp_slice dp_bool), dp_own (dp_slice (dp_slice dp_int)), trivial⟩)
  unfold m_i_numbered_states at hm
  refine wp_seq (wp_region_lit (rn ha hs (sop (opT_box (u := .agg #[.int .i64 p0.1, .int .i64 p0.2]) (l := [.int .i64 p0.1, .int .i64 p0.2]) rfl rfl rfl) (List.Perm.refl _) rfl rfl ?_)))
  rintro _ a1 w1 ⟨g1, rfl⟩ A1 (S1 : St I w0 w1 [Ch.blk g1 [.int .i64 p0.1, .int .i64 p0.2] 137, F])
  clear ha hs a w
  refine rn A1 S1 (sop (opT_alloc (l := [.int .i64 0, .slice none 0 0, .slice none 0 0]) tz27 rfl rfl) (List.Perm.refl _) rfl rfl ?_)
  rintro _ a2 w2 ⟨g2, rfl⟩ A2 (S2 : St I w0 w2 [Ch.blk g2 [.int .i64 0, .slice none 0 0, .slice none 0 0] 27, Ch.blk g1 [.int .i64 p0.1, .int .i64 p0.2] 137, F])
  clear A1 S1 a1 w1
  refine rn A2 S2 (sv (opT_assign (v := .bool false) rfl rfl) rfl rfl (enR (L' := [(1, .int .i64 p1), (2, va0), (3, va1), (4, .pointer (some ⟨g1, 0, none⟩)), (8, .pointer (some ⟨g2, 0, none⟩))]) rfl ?_))
  clear A2 S2 a2 w2;intro a3 w3 A3 S3
  refine nrm (wp_seq (wp_region_lit (rn A3 S3 (sop (opT_load_blk (g := g1) (off := 0) (E := 137) (l := [.int .i64 p0.1, .int .i64 p0.2]) (d := [.int .i64 p0.1, .int .i64 p0.2]) (u := .agg #[.int .i64 p0.1, .int .i64 p0.2]) ti137 rfl rfl rfl rfl rfl rfl) (perm_front (i := 1) rfl) rfl rfl ?_))))
  rintro u a4 w4 hf A4 (S4 : St I w0 w4 [Ch.blk g1 [.int .i64 p0.1, .int .i64 p0.2] 137, Ch.blk g2 [.int .i64 0, .slice none 0 0, .slice none 0 0] 27, F])
  obtain rfl := Eq.symm hf
  clear A3 S3 a3 w3
  refine rn A4 S4 (sop (opT_lit_cpy (E := 137) (R := rProd rInt rInt) (S := rProd rInt rInt) [(.agg #[.int .i64 p0.1, .int .i64 p0.2], [.int .i64 p0.1, .int .i64 p0.2])] [(p0.1, p0.2)] (cpy_prod cpy_int cpy_int) (rd_all ⟨⟨_, _, rfl, rfl, rfl⟩, trivial⟩) Try.underlying187 tz137 (by decide) rfl (by decide) (by decide) rfl rfl rfl rfl (us_all ⟨⟨rfl, rfl⟩, trivial⟩)) (List.Perm.refl _) rfl rfl ?_)
  rintro v1 a5 w5 - A5 (S5 : St I w0 w5 [Ch.own (rSlice 137 (rProd rInt rInt)) [v1] ([(p0.1, p0.2)]), Ch.blk g1 [.int .i64 p0.1, .int .i64 p0.2] 137, Ch.blk g2 [.int .i64 0, .slice none 0 0, .slice none 0 0] 27, F])
  clear A4 S4 a4 w4
  refine rn A5 S5 (sv (opT_assign (v := v1) rfl rfl) rfl rfl (enR (L' := [(1, .int .i64 p1), (2, va0), (3, va1), (4, .pointer (some ⟨g1, 0, none⟩)), (8, .pointer (some ⟨g2, 0, none⟩)), (10, v1)]) rfl ?_))
  clear A5 S5 a5 w5;intro a6 w6 A6 S6
  refine nrm (wp_seq (wp_region_lit (rn A6 S6 (sop (opT_makeMap (k := 137) (e := 3) (lit := iiLit) (ok := iiOk) (elit := iLit) (z := 0) rfl) (List.Perm.refl _) rfl rfl ?_))))
  rintro v2 a7 w7 - A7 (S7 : St I w0 w7 [Ch.mp Try.prog 137 3 iiLit iiOk iLit 0 v2 ([] : List ((Int × Int) × Int)), Ch.own (rSlice 137 (rProd rInt rInt)) [v1] ([(p0.1, p0.2)]), Ch.blk g1 [.int .i64 p0.1, .int .i64 p0.2] 137, Ch.blk g2 [.int .i64 0, .slice none 0 0, .slice none 0 0] 27, F])
  clear A6 S6 a6 w6
  refine rn A7 S7 (sop (opT_load_blk (g := g1) (off := 0) (E := 137) (l := [.int .i64 p0.1, .int .i64 p0.2]) (d := [.int .i64 p0.1, .int .i64 p0.2]) (u := .agg #[.int .i64 p0.1, .int .i64 p0.2]) ti137 rfl rfl rfl rfl rfl rfl) (perm_front (i := 2) rfl) rfl rfl ?_)
  rintro u a8 w8 hf A8 (S8 : St I w0 w8 [Ch.blk g1 [.int .i64 p0.1, .int .i64 p0.2] 137, Ch.mp Try.prog 137 3 iiLit iiOk iLit 0 v2 ([] : List ((Int × Int) × Int)), Ch.own (rSlice 137 (rProd rInt rInt)) [v1] ([(p0.1, p0.2)]), Ch.blk g2 [.int .i64 0, .slice none 0 0, .slice none 0 0] 27, F])
  obtain rfl := Eq.symm hf
  clear A7 S7 a7 w7
  obtain ⟨m1, hk1, hm⟩ := bind_some hm
  refine rn A8 S8 (sop (opT_putMap (v := v2) (q := (p0.1, p0.2)) (i := 0) kk137 ek3 Try.underlying188 (.inr rfl) rfl rfl rfl hk1) (perm_front (i := 1) rfl) rfl rfl ?_)
  rintro _ a9 w9 - A9 (S9 : St I w0 w9 [Ch.mp Try.prog 137 3 iiLit iiOk iLit 0 v2 m1, Ch.blk g1 [.int .i64 p0.1, .int .i64 p0.2] 137, Ch.own (rSlice 137 (rProd rInt rInt)) [v1] ([(p0.1, p0.2)]), Ch.blk g2 [.int .i64 0, .slice none 0 0, .slice none 0 0] 27, F])
  clear A8 S8 a8 w8
  refine rn A9 S9 (sv (opT_move (v := v2) rfl rfl) rfl rfl (sv (opT_assign (v := v2) rfl rfl) rfl rfl (enR (L' := [(1, .int .i64 p1), (2, va0), (3, va1), (8, .pointer (some ⟨g2, 0, none⟩)), (10, v1), (11, v2)]) rfl ?_)))
  clear A9 S9 a9 w9;intro a10 w10 A10 S10
  refine nrm (wp_seq (wp_region_lit (rn A10 S10 (sv (opT_build (zl := [.int .i64 0, .slice none 0 0, .slice none 0 0]) (r := [.int .i64 0, .slice none 0 0, .slice none 0 0]) [] tb27 tz27 rfl rfl trivial rfl) rfl rfl (sop (opT_alloc (l := [.int .i64 0, .slice none 0 0, .slice none 0 0]) tz27 rfl rfl) (List.Perm.refl _) rfl rfl ?_)))))
  rintro _ a11 w11 ⟨g3, rfl⟩ A11 (S11 : St I w0 w11 [Ch.blk g3 [.int .i64 0, .slice none 0 0, .slice none 0 0] 27, Ch.mp Try.prog 137 3 iiLit iiOk iLit 0 v2 m1, Ch.blk g1 [.int .i64 p0.1, .int .i64 p0.2] 137, Ch.own (rSlice 137 (rProd rInt rInt)) [v1] ([(p0.1, p0.2)]), Ch.blk g2 [.int .i64 0, .slice none 0 0, .slice none 0 0] 27, F])
  clear A10 S10 a10 w10
  refine rn A11 S11 (sop (opT_store_blk (g := g3) (off := 0) (l := [.int .i64 0, .slice none 0 0, .slice none 0 0]) (d := [.int .i64 0, .slice none 0 0, .slice none 0 0]) (E := 27) (u := .agg #[.int .i64 0, .slice none 0 0, .slice none 0 0]) ti27 rfl rfl rfl rfl rfl (allC rfl (allC rfl (allC rfl allN))) (Nat.le_of_ble_eq_true rfl)) (perm_front (i := 0) rfl) rfl rfl ?_)
  rintro _ a12 w12 - A12 (S12 : St I w0 w12 [Ch.blk g3 [.int .i64 0, .slice none 0 0, .slice none 0 0] 27, Ch.mp Try.prog 137 3 iiLit iiOk iLit 0 v2 m1, Ch.blk g1 [.int .i64 p0.1, .int .i64 p0.2] 137, Ch.own (rSlice 137 (rProd rInt rInt)) [v1] ([(p0.1, p0.2)]), Ch.blk g2 [.int .i64 0, .slice none 0 0, .slice none 0 0] 27, F])
  clear A11 S11 a11 w11
  replace A12 := A12.pk (L' := [(1, .int .i64 p1), (2, va0), (3, va1), (8, .pointer (some ⟨g2, 0, none⟩)), (10, v1), (11, v2), (12, .pointer (some ⟨g3, 0, none⟩))]) rfl
  refine wpList_nil (nrm (wp_seq (wp_seq (wp_region_lit (rn A12 S12 (sv (opT_assign (v := .int .i64 0) rfl rfl) rfl rfl (enR (L' := [(1, .int .i64 p1), (2, va0), (3, va1), (8, .pointer (some ⟨g2, 0, none⟩)), (10, v1), (11, v2), (12, .pointer (some ⟨g3, 0, none⟩)), (13, .int .i64 0)]) rfl ?_)))))))
  clear A12 S12 a12 w12;intro a13 w13 A13 S13
  refine nrm ?_
  obtain ⟨o23, hl3, hc21⟩ := bindL_some hm
  refine wp_cut (fun a w => ∃ s30 : (List (Int × Int)) × (List ((Int × Int) × Int)) × Int × (List Bool) × (List (List Int)), o23 = .brk s30 ∧ ∃ v148 v149 : Value, Agr 96 a [(8, .pointer (some ⟨g2, 0, none⟩)), (12, .pointer (some ⟨g3, 0, none⟩))] ∧ St I w0 w [Ch.own (rSlice 4 rBool) [v148] s30.2.2.2.1, Ch.own (rSlice 34 (rSlice 3 rInt)) [v149] s30.2.2.2.2, Ch.blk g2 [.int .i64 0, .slice none 0 0, .slice none 0 0] 27, Ch.blk g3 [.int .i64 0, v148, v149] 27, F]) ?_ ?_
  · refine wp_block (wp_loopM (R := (Int × (List Bool) × (List (List Int))) × Bool) (S := (List (Int × Int)) × (List ((Int × Int) × Int)) × Int × (List Bool) × (List (List Int))) (fun s29 a w => ∃ v150 v151 v152 : Value, Agr 96 a [(1, .int .i64 p1), (2, va0), (3, va1), (8, .pointer (some ⟨g2, 0, none⟩)), (10, v150), (11, v2), (12, .pointer (some ⟨g3, 0, none⟩)), (13, .int .i64 s29.2.2.1)] ∧ St I w0 w [Ch.own (rSlice 137 (rProd rInt rInt)) [v150] s29.1, Ch.mp Try.prog 137 3 iiLit iiOk iLit 0 v2 s29.2.1, Ch.own (rSlice 4 rBool) [v151] s29.2.2.2.1, Ch.own (rSlice 34 (rSlice 3 rInt)) [v152] s29.2.2.2.2, Ch.blk g2 [.int .i64 0, .slice none 0 0, .slice none 0 0] 27, Ch.blk g3 [.int .i64 0, v151, v152] 27, F]) hl3 ?_ ?_)
    · exact ⟨v1, (.slice none 0 0), (.slice none 0 0), A13.pick' ⟨rfl, rfl, rfl, rfl, rfl, rfl, rfl, rfl, trivial⟩, St.sel (St.nil (St.nil S13)) 8 [5, 3, 1, 0, 6, 2, 7] rfl rfl⟩
    rintro s29 o24 hm hf3 a444 w444 ⟨v150, v151, v152, A444, S444⟩
    unfold m_i_numbered_states_l0 at hm
    refine wp_seq (wp_seq (wp_region_lit (rn A444 S444 (sv (opT_move (v := .int .i64 s29.2.2.1) rfl rfl) rfl rfl (sv (opT_move (v := v150) rfl rfl) rfl rfl (sv (opT_len_hd (v := v150) (n := s29.1.length) (St.hd S444 0 rfl).1 Try.underlying187 rfl rfl) rfl rfl (sv (opT_cmp (k := .i64) (m := s29.2.2.1) (n := (s29.1.length : Int)) (c := decide (s29.2.2.1 < (s29.1.length : Int))) rfl rfl rfl rfl rfl) rfl rfl (enR (L' := [(1, .int .i64 p1), (2, va0), (3, va1), (8, .pointer (some ⟨g2, 0, none⟩)), (10, v150), (11, v2), (12, .pointer (some ⟨g3, 0, none⟩)), (13, .int .i64 s29.2.2.1), (29, .bool (decide (s29.2.2.1 < (s29.1.length : Int))))]) rfl ?_))))))))
    clear A444 S444 a444 w444;intro a445 w445 A445 S445
    refine nrm ?_
    rcases two (decide (s29.2.2.1 < (s29.1.length : Int))) with hb47 | hb47
    · replace hm := ifFe hb47 hm
      refine cnd_false (b := decide (s29.2.2.1 < (s29.1.length : Int))) A445 rfl rfl hb47 ?_
      exact wp_exit (thenX (thenX (ex_in (nrm (⟨_, loopBrk hm hf3, ⟨v151, v152, A445.pick' ⟨rfl, rfl, trivial⟩, St.sel S445 7 [2, 3, 4, 5, 6] rfl rfl⟩⟩)))))
    replace hm := ifTe hb47 hm
    refine cnd_true (b := decide (s29.2.2.1 < (s29.1.length : Int))) A445 rfl rfl hb47 ?_
    refine wp_skip (nrm (wp_seq (wp_block (wp_seq (wp_region_lit (rn A445 S445 (sop (opT_lit0 (E := 3) (R := rInt) Try.underlying34 ti3 rfl) (List.Perm.refl _) rfl rfl ?_)))))))
    rintro v153 a446 w446 - A446 (S446 : St I w0 w446 [Ch.own (rSlice 3 rInt) [v153] ([] : List Int), Ch.own (rSlice 137 (rProd rInt rInt)) [v150] s29.1, Ch.mp Try.prog 137 3 iiLit iiOk iLit 0 v2 s29.2.1, Ch.own (rSlice 4 rBool) [v151] s29.2.2.2.1, Ch.own (rSlice 34 (rSlice 3 rInt)) [v152] s29.2.2.2.2, Ch.blk g2 [.int .i64 0, .slice none 0 0, .slice none 0 0] 27, Ch.blk g3 [.int .i64 0, v151, v152] 27, F])
    clear A445 S445 a445 w445
    refine rn A446 S446 (sv (opT_assign (v := v153) rfl rfl) rfl rfl (enR (L' := [(1, .int .i64 p1), (2, va0), (3, va1), (8, .pointer (some ⟨g2, 0, none⟩)), (10, v150), (11, v2), (12, .pointer (some ⟨g3, 0, none⟩)), (13, .int .i64 s29.2.2.1), (14, v153)]) rfl ?_))
    clear A446 S446 a446 w446;intro a447 w447 A447 S447
    refine nrm (wp_seq (wp_seq (wp_region_lit (rn A447 S447 (sv (opT_assign (v := .int .i64 0) rfl rfl) rfl rfl (enR (L' := [(1, .int .i64 p1), (2, va0), (3, va1), (8, .pointer (some ⟨g2, 0, none⟩)), (10, v150), (11, v2), (12, .pointer (some ⟨g3, 0, none⟩)), (13, .int .i64 s29.2.2.1), (14, v153), (15, .int .i64 0)]) rfl ?_))))))
    clear A447 S447 a447 w447;intro a448 w448 A448 S448
    refine nrm ?_
    obtain ⟨o31, hl4, hc28⟩ := bindL_some hm
    refine wp_cut (fun a w => ∃ s40 : (List (Int × Int)) × (List ((Int × Int) × Int)) × (List Int) × Int, o31 = .brk s40 ∧ ∃ v196 v197 : Value, Agr 96 a [(1, .int .i64 p1), (2, va0), (3, va1), (8, .pointer (some ⟨g2, 0, none⟩)), (10, v196), (11, v2), (12, .pointer (some ⟨g3, 0, none⟩)), (13, .int .i64 s29.2.2.1), (14, v197)] ∧ St I w0 w [Ch.own (rSlice 137 (rProd rInt rInt)) [v196] s40.1, Ch.mp Try.prog 137 3 iiLit iiOk iLit 0 v2 s40.2.1, Ch.own (rSlice 3 rInt) [v197] s40.2.2.1, Ch.blk g2 [.int .i64 0, .slice none 0 0, .slice none 0 0] 27, Ch.blk g3 [.int .i64 0, v151, v152] 27, Ch.own (rSlice 4 rBool) [v151] s29.2.2.2.1, Ch.own (rSlice 34 (rSlice 3 rInt)) [v152] s29.2.2.2.2, F]) ?_ ?_
    · refine wp_block (wp_loopM (R := (Int × (List Bool) × (List (List Int))) × Bool) (S := (List (Int × Int)) × (List ((Int × Int) × Int)) × (List Int) × Int) (fun s39 a w => ∃ v198 v199 : Value, Agr 96 a [(1, .int .i64 p1), (2, va0), (3, va1), (8, .pointer (some ⟨g2, 0, none⟩)), (10, v198), (11, v2), (12, .pointer (some ⟨g3, 0, none⟩)), (13, .int .i64 s29.2.2.1), (14, v199), (15, .int .i64 s39.2.2.2)] ∧ St I w0 w [Ch.own (rSlice 137 (rProd rInt rInt)) [v198] s39.1, Ch.mp Try.prog 137 3 iiLit iiOk iLit 0 v2 s39.2.1, Ch.own (rSlice 3 rInt) [v199] s39.2.2.1, Ch.blk g2 [.int .i64 0, .slice none 0 0, .slice none 0 0] 27, Ch.blk g3 [.int .i64 0, v151, v152] 27, Ch.own (rSlice 4 rBool) [v151] s29.2.2.2.1, Ch.own (rSlice 34 (rSlice 3 rInt)) [v152] s29.2.2.2.2, F]) hl4 ?_ ?_)
      · exact ⟨v150, v153, A448.pick' ⟨rfl, rfl, rfl, rfl, rfl, rfl, rfl, rfl, rfl, rfl, trivial⟩, St.sel S448 8 [1, 2, 0, 5, 6, 3, 4, 7] rfl rfl⟩
      rintro s39 o32 hm hf4 a583 w583 ⟨v198, v199, A583, S583⟩
      unfold m_i_numbered_states_l1 at hm
      refine wp_seq (wp_seq (wp_region_lit (rn A583 S583 (sv (opT_move (v := .int .i64 s39.2.2.2) rfl rfl) rfl rfl (sv (opT_cmp (k := .i64) (m := s39.2.2.2) (n := 9) (c := decide (s39.2.2.2 < 9)) rfl rfl rfl rfl rfl) rfl rfl (enR (L' := [(1, .int .i64 p1), (2, va0), (3, va1), (8, .pointer (some ⟨g2, 0, none⟩)), (10, v198), (11, v2), (12, .pointer (some ⟨g3, 0, none⟩)), (13, .int .i64 s29.2.2.1), (14, v199), (15, .int .i64 s39.2.2.2), (34, .bool (decide (s39.2.2.2 < 9)))]) rfl ?_))))))
      clear A583 S583 a583 w583;intro a584 w584 A584 S584
      refine nrm ?_
      rcases two (decide (s39.2.2.2 < 9)) with hb62 | hb62
      · replace hm := ifFe hb62 hm
        refine cnd_false (b := decide (s39.2.2.2 < 9)) A584 rfl rfl hb62 ?_
        exact wp_exit (thenX (thenX (ex_in (nrm (⟨_, loopBrk hm hf4, ⟨v198, v199, A584.pick' ⟨rfl, rfl, rfl, rfl, rfl, rfl, rfl, rfl, rfl, trivial⟩, St.sel S584 8 [0, 1, 2, 3, 4, 5, 6, 7] rfl rfl⟩⟩)))))
      replace hm := ifTe hb62 hm
      refine cnd_true (b := decide (s39.2.2.2 < 9)) A584 rfl rfl hb62 ?_
      refine wp_skip (nrm ?_)
      obtain ⟨s42, hj26, hm⟩ := bind_some hm
      refine wp_seq_cut (fun a w => ∃ v209 v210 : Value, Agr 96 a [(1, .int .i64 p1), (2, va0), (3, va1), (8, .pointer (some ⟨g2, 0, none⟩)), (10, v209), (11, v2), (12, .pointer (some ⟨g3, 0, none⟩)), (13, .int .i64 s29.2.2.1), (14, v210), (15, .int .i64 s39.2.2.2)] ∧ St I w0 w [Ch.own (rSlice 137 (rProd rInt rInt)) [v209] s42.1, Ch.mp Try.prog 137 3 iiLit iiOk iLit 0 v2 s42.2.1, Ch.own (rSlice 3 rInt) [v210] s42.2.2, Ch.blk g2 [.int .i64 0, .slice none 0 0, .slice none 0 0] 27, Ch.blk g3 [.int .i64 0, v151, v152] 27, Ch.own (rSlice 4 rBool) [v151] s29.2.2.2.1, Ch.own (rSlice 34 (rSlice 3 rInt)) [v152] s29.2.2.2.2, F]) ?_ ?_
      · replace hm := hj26
        refine wp_block (wp_seq (wp_region_lit (rn A584 S584 (sv (opT_move (v := va1) rfl rfl) rfl rfl (sv (opT_move (v := v198) rfl rfl) rfl rfl (sv (opT_move (v := .int .i64 s29.2.2.1) rfl rfl) rfl rfl ?_))))))
        obtain ⟨x20, e111, hm⟩ := bind_some hm
        refine sv (opT_index_hd (xs := s39.1) (i := s29.2.2.1) (n := 2) (St.hd S584 0 rfl).1 Try.underlying187 ti137 rfl rfl rfl (getI_in e111)) rfl rfl (sop (opT_load_own (E := 137) (R := rProd rInt rInt) (S := rProd rInt rInt) (xs := s39.1) (a := x20) (i := s29.2.2.1) (k := 2) (off := 0) (f := fun (x : Int × Int) => x) (sh_prod sh_int sh_int) e111 Fld.self ti137 rfl rfl rfl rfl rfl) (perm_front (i := 0) rfl) rfl rfl ?_)
        rintro u a617 w617 ⟨d, hd, hf⟩ A617 (S617 : St I w0 w617 [Ch.own (rSlice 137 (rProd rInt rInt)) [v198] s39.1, Ch.mp Try.prog 137 3 iiLit iiOk iLit 0 v2 s39.2.1, Ch.own (rSlice 3 rInt) [v199] s39.2.2.1, Ch.blk g2 [.int .i64 0, .slice none 0 0, .slice none 0 0] 27, Ch.blk g3 [.int .i64 0, v151, v152] 27, Ch.own (rSlice 4 rBool) [v151] s29.2.2.2.1, Ch.own (rSlice 34 (rSlice 3 rInt)) [v152] s29.2.2.2.2, F])
        obtain ⟨_, _, rfl, rfl, rfl⟩ := hd
        obtain rfl : u = .agg #[.int .i64 x20.1, .int .i64 x20.2] := hf
        clear A584 S584 a584 w584
        refine rn A617 S617 (sv (opT_move (v := .int .i64 s39.2.2.2) rfl rfl) rfl rfl ?_)
        obtain ⟨r20, e112, hm⟩ := bind_some hm
        refine so0 (opT_call_clo (v := va1) (args := [.agg #[.int .i64 x20.1, .int .i64 x20.2], .int .i64 s39.2.2.2]) (ra1.2 _ Hp.le.rfl (x20.1, x20.2) s39.2.2.2 _ e112  ) rfl rfl rfl) rfl rfl ?_
        rintro u a618 w618 hf A618 S618
        obtain rfl := Eq.symm hf
        clear A617 S617 a617 w617
        refine rn A618 S618 (sv (opT_move (v := .tuple #[.agg #[.int .i64 r20.1.1, .int .i64 r20.1.2], .bool r20.2]) rfl rfl) rfl rfl (sv (opT_extract (vs := #[.agg #[.int .i64 r20.1.1, .int .i64 r20.1.2], .bool r20.2]) (v := .agg #[.int .i64 r20.1.1, .int .i64 r20.1.2]) rfl rfl rfl) rfl rfl (sv (opT_extract (vs := #[.agg #[.int .i64 r20.1.1, .int .i64 r20.1.2], .bool r20.2]) (v := .bool r20.2) rfl rfl rfl) rfl rfl (sop (opT_alloc (l := [.int .i64 0, .int .i64 0]) tz137 rfl rfl) (List.Perm.refl _) rfl rfl ?_))))
        rintro _ a619 w619 ⟨g21, rfl⟩ A619 (S619 : St I w0 w619 [Ch.blk g21 [.int .i64 0, .int .i64 0] 137, Ch.own (rSlice 137 (rProd rInt rInt)) [v198] s39.1, Ch.mp Try.prog 137 3 iiLit iiOk iLit 0 v2 s39.2.1, Ch.own (rSlice 3 rInt) [v199] s39.2.2.1, Ch.blk g2 [.int .i64 0, .slice none 0 0, .slice none 0 0] 27, Ch.blk g3 [.int .i64 0, v151, v152] 27, Ch.own (rSlice 4 rBool) [v151] s29.2.2.2.1, Ch.own (rSlice 34 (rSlice 3 rInt)) [v152] s29.2.2.2.2, F])
        clear A618 S618 a618 w618
        refine rn A619 S619 (sop (opT_store_blk (g := g21) (off := 0) (l := [.int .i64 0, .int .i64 0]) (d := [.int .i64 r20.1.1, .int .i64 r20.1.2]) (E := 137) (u := .agg #[.int .i64 r20.1.1, .int .i64 r20.1.2]) ti137 rfl rfl rfl rfl rfl (allC rfl (allC rfl allN)) (Nat.le_of_ble_eq_true rfl)) (perm_front (i := 0) rfl) rfl rfl ?_)
        rintro _ a620 w620 - A620 (S620 : St I w0 w620 [Ch.blk g21 [.int .i64 r20.1.1, .int .i64 r20.1.2] 137, Ch.own (rSlice 137 (rProd rInt rInt)) [v198] s39.1, Ch.mp Try.prog 137 3 iiLit iiOk iLit 0 v2 s39.2.1, Ch.own (rSlice 3 rInt) [v199] s39.2.2.1, Ch.blk g2 [.int .i64 0, .slice none 0 0, .slice none 0 0] 27, Ch.blk g3 [.int .i64 0, v151, v152] 27, Ch.own (rSlice 4 rBool) [v151] s29.2.2.2.1, Ch.own (rSlice 34 (rSlice 3 rInt)) [v152] s29.2.2.2.2, F])
        clear A619 S619 a619 w619
        refine rn A620 S620 (sv (opT_assign (v := .bool r20.2) rfl rfl) rfl rfl (enR (L' := [(1, .int .i64 p1), (2, va0), (3, va1), (8, .pointer (some ⟨g2, 0, none⟩)), (10, v198), (11, v2), (12, .pointer (some ⟨g3, 0, none⟩)), (13, .int .i64 s29.2.2.1), (14, v199), (15, .int .i64 s39.2.2.2), (16, .pointer (some ⟨g21, 0, none⟩)), (17, .bool r20.2)]) rfl ?_))
        clear A620 S620 a620 w620;intro a621 w621 A621 S621
        refine nrm (wp_seq (wp_seq (wp_region_lit (rn A621 S621 (sv (opT_move (v := .bool r20.2) rfl rfl) rfl rfl (sv (opT_not (b := r20.2) rfl rfl) rfl rfl (enR (L' := [(1, .int .i64 p1), (2, va0), (3, va1), (8, .pointer (some ⟨g2, 0, none⟩)), (10, v198), (11, v2), (12, .pointer (some ⟨g3, 0, none⟩)), (13, .int .i64 s29.2.2.1), (14, v199), (15, .int .i64 s39.2.2.2), (16, .pointer (some ⟨g21, 0, none⟩)), (48, .bool (!r20.2))]) rfl ?_)))))))
        clear A621 S621 a621 w621;intro a622 w622 A622 S622
        refine nrm ?_
        rcases two (r20.2) with hb66 | hb66
        · replace hm := ifFe hb66 hm
          refine cnd_true (b := !r20.2) A622 rfl rfl (notT hb66) ?_
          refine wp_seq (wp_region_lit (rn A622 S622 (sv (opT_move (v := v199) rfl rfl) rfl rfl (sop (opT_lit_cpy (E := 3) (R := rInt) (S := rInt) [(.int .i64 (-1), [.int .i64 (-1)])] [-1] cpy_int (rd_all ⟨rfl, trivial⟩) Try.underlying34 tz3 (by decide) rfl (by decide) (by decide) rfl rfl rfl rfl (us_all ⟨⟨rfl, rfl⟩, trivial⟩)) (List.Perm.refl _) rfl rfl ?_))))
          rintro v211 a623 w623 - A623 (S623 : St I w0 w623 [Ch.own (rSlice 3 rInt) [v211] ([-1]), Ch.blk g21 [.int .i64 r20.1.1, .int .i64 r20.1.2] 137, Ch.own (rSlice 137 (rProd rInt rInt)) [v198] s39.1, Ch.mp Try.prog 137 3 iiLit iiOk iLit 0 v2 s39.2.1, Ch.own (rSlice 3 rInt) [v199] s39.2.2.1, Ch.blk g2 [.int .i64 0, .slice none 0 0, .slice none 0 0] 27, Ch.blk g3 [.int .i64 0, v151, v152] 27, Ch.own (rSlice 4 rBool) [v151] s29.2.2.2.1, Ch.own (rSlice 34 (rSlice 3 rInt)) [v152] s29.2.2.2.2, F])
          clear A622 S622 a622 w622
          obtain ⟨z73, e113, hm⟩ := bind_some hm
          refine rn A623 S623 (sop (opT_app (E := 3) (R := rInt) (s := v199) (u := v211) e113 Try.underlying34 tz3 rfl (by decide) rfl (by decide) rfl rfl rfl) (perm_sel [4, 0, 1, 2, 3, 5, 6, 7, 8, 9] (m := 10) rfl rfl) rfl rfl ?_)
          rintro v212 a624 w624 - A624 (S624 : St I w0 w624 [Ch.own (rSlice 3 rInt) [v212] z73, Ch.blk g21 [.int .i64 r20.1.1, .int .i64 r20.1.2] 137, Ch.own (rSlice 137 (rProd rInt rInt)) [v198] s39.1, Ch.mp Try.prog 137 3 iiLit iiOk iLit 0 v2 s39.2.1, Ch.blk g2 [.int .i64 0, .slice none 0 0, .slice none 0 0] 27, Ch.blk g3 [.int .i64 0, v151, v152] 27, Ch.own (rSlice 4 rBool) [v151] s29.2.2.2.1, Ch.own (rSlice 34 (rSlice 3 rInt)) [v152] s29.2.2.2.2, F])
          clear A623 S623 a623 w623
          refine rn A624 S624 (sv (opT_assign (v := v212) rfl rfl) rfl rfl (enR (L' := [(1, .int .i64 p1), (2, va0), (3, va1), (8, .pointer (some ⟨g2, 0, none⟩)), (10, v198), (11, v2), (12, .pointer (some ⟨g3, 0, none⟩)), (13, .int .i64 s29.2.2.1), (14, v212), (15, .int .i64 s39.2.2.2)]) rfl ?_))
          clear A624 S624 a624 w624;intro a625 w625 A625 S625
          refine nrm (wp_exit (thenX (ex_in (nrm ?_))))
          obtain rfl := Option.some.inj hm
          exact ⟨v198, v212, A625.pick' ⟨rfl, rfl, rfl, rfl, rfl, rfl, rfl, rfl, rfl, rfl, trivial⟩, St.sel S625 9 [2, 3, 0, 4, 5, 6, 7, 8] rfl rfl⟩
        replace hm := ifTe hb66 hm
        refine cnd_false (b := !r20.2) A622 rfl rfl (notF hb66) ?_
        refine wp_skip (nrm (wp_seq (wp_region_lit (rn A622 S622 (sv (opT_move (v := v2) rfl rfl) rfl rfl (sop (opT_load_blk (g := g21) (off := 0) (E := 137) (l := [.int .i64 r20.1.1, .int .i64 r20.1.2]) (d := [.int .i64 r20.1.1, .int .i64 r20.1.2]) (u := .agg #[.int .i64 r20.1.1, .int .i64 r20.1.2]) ti137 rfl rfl rfl rfl rfl rfl) (perm_front (i := 0) rfl) rfl rfl ?_))))))
        rintro u a626 w626 hf A626 (S626 : St I w0 w626 [Ch.blk g21 [.int .i64 r20.1.1, .int .i64 r20.1.2] 137, Ch.own (rSlice 137 (rProd rInt rInt)) [v198] s39.1, Ch.mp Try.prog 137 3 iiLit iiOk iLit 0 v2 s39.2.1, Ch.own (rSlice 3 rInt) [v199] s39.2.2.1, Ch.blk g2 [.int .i64 0, .slice none 0 0, .slice none 0 0] 27, Ch.blk g3 [.int .i64 0, v151, v152] 27, Ch.own (rSlice 4 rBool) [v151] s29.2.2.2.1, Ch.own (rSlice 34 (rSlice 3 rInt)) [v152] s29.2.2.2.2, F])
        obtain rfl := Eq.symm hf
        clear A622 S622 a622 w622
        obtain ⟨_, hk53, hm⟩ := bind_some hm
        refine rn A626 S626 (sop (opT_lookMap (v := v2) (q := (r20.1.1, r20.1.2)) (M := s39.2.1) kk137 ek3 (chk_some hk53) Try.underlying188 rfl rfl rfl) (perm_front (i := 2) rfl) rfl rfl ?_)
        rintro u a627 w627 hf A627 (S627 : St I w0 w627 [Ch.mp Try.prog 137 3 iiLit iiOk iLit 0 v2 s39.2.1, Ch.blk g21 [.int .i64 r20.1.1, .int .i64 r20.1.2] 137, Ch.own (rSlice 137 (rProd rInt rInt)) [v198] s39.1, Ch.own (rSlice 3 rInt) [v199] s39.2.2.1, Ch.blk g2 [.int .i64 0, .slice none 0 0, .slice none 0 0] 27, Ch.blk g3 [.int .i64 0, v151, v152] 27, Ch.own (rSlice 4 rBool) [v151] s29.2.2.2.1, Ch.own (rSlice 34 (rSlice 3 rInt)) [v152] s29.2.2.2.2, F])
        obtain rfl := Eq.symm hf
        clear A626 S626 a626 w626
        refine rn A627 S627 (sv (opT_move (v := .tuple #[.int .i64 ((lkM s39.2.1 (r20.1.1, r20.1.2)).getD 0), .bool ((lkM s39.2.1 (r20.1.1, r20.1.2)).isSome)]) rfl rfl) rfl rfl (sv (opT_extract (vs := #[.int .i64 ((lkM s39.2.1 (r20.1.1, r20.1.2)).getD 0), .bool ((lkM s39.2.1 (r20.1.1, r20.1.2)).isSome)]) (v := .int .i64 ((lkM s39.2.1 (r20.1.1, r20.1.2)).getD 0)) rfl rfl rfl) rfl rfl (sv (opT_extract (vs := #[.int .i64 ((lkM s39.2.1 (r20.1.1, r20.1.2)).getD 0), .bool ((lkM s39.2.1 (r20.1.1, r20.1.2)).isSome)]) (v := .bool ((lkM s39.2.1 (r20.1.1, r20.1.2)).isSome)) rfl rfl rfl) rfl rfl (sv (opT_assign (v := .int .i64 ((lkM s39.2.1 (r20.1.1, r20.1.2)).getD 0)) rfl rfl) rfl rfl (sv (opT_assign (v := .bool ((lkM s39.2.1 (r20.1.1, r20.1.2)).isSome)) rfl rfl) rfl rfl (enR (L' := [(1, .int .i64 p1), (2, va0), (3, va1), (8, .pointer (some ⟨g2, 0, none⟩)), (10, v198), (11, v2), (12, .pointer (some ⟨g3, 0, none⟩)), (13, .int .i64 s29.2.2.1), (14, v199), (15, .int .i64 s39.2.2.2), (16, .pointer (some ⟨g21, 0, none⟩)), (18, .int .i64 ((lkM s39.2.1 (r20.1.1, r20.1.2)).getD 0)), (19, .bool ((lkM s39.2.1 (r20.1.1, r20.1.2)).isSome))]) rfl ?_))))))
        clear A627 S627 a627 w627;intro a628 w628 A628 S628
        refine nrm ?_
        obtain ⟨s43, hj27, hm⟩ := bind_some hm
        refine wp_seq_cut (fun a w => ∃ v215 : Value, Agr 96 a [(1, .int .i64 p1), (2, va0), (3, va1), (8, .pointer (some ⟨g2, 0, none⟩)), (10, v215), (11, v2), (12, .pointer (some ⟨g3, 0, none⟩)), (13, .int .i64 s29.2.2.1), (14, v199), (15, .int .i64 s39.2.2.2), (18, .int .i64 s43.2.2)] ∧ St I w0 w [Ch.own (rSlice 137 (rProd rInt rInt)) [v215] s43.1, Ch.mp Try.prog 137 3 iiLit iiOk iLit 0 v2 s43.2.1, Ch.blk g2 [.int .i64 0, .slice none 0 0, .slice none 0 0] 27, Ch.blk g3 [.int .i64 0, v151, v152] 27, Ch.own (rSlice 4 rBool) [v151] s29.2.2.2.1, Ch.own (rSlice 34 (rSlice 3 rInt)) [v152] s29.2.2.2.2, Ch.own (rSlice 3 rInt) [v199] s39.2.2.1, F]) ?_ ?_
        · replace hm := hj27
          refine wp_seq (wp_region_lit (rn A628 S628 (sv (opT_move (v := .bool ((lkM s39.2.1 (r20.1.1, r20.1.2)).isSome)) rfl rfl) rfl rfl (sv (opT_not (b := (lkM s39.2.1 (r20.1.1, r20.1.2)).isSome) rfl rfl) rfl rfl (enR (L' := [(1, .int .i64 p1), (2, va0), (3, va1), (8, .pointer (some ⟨g2, 0, none⟩)), (10, v198), (11, v2), (12, .pointer (some ⟨g3, 0, none⟩)), (13, .int .i64 s29.2.2.1), (14, v199), (15, .int .i64 s39.2.2.2), (16, .pointer (some ⟨g21, 0, none⟩)), (18, .int .i64 ((lkM s39.2.1 (r20.1.1, r20.1.2)).getD 0)), (59, .bool (!((lkM s39.2.1 (r20.1.1, r20.1.2)).isSome)))]) rfl ?_)))))
          clear A628 S628 a628 w628;intro a637 w637 A637 S637
          refine nrm ?_
          rcases two ((lkM s39.2.1 (r20.1.1, r20.1.2)).isSome) with hb68 | hb68
          · replace hm := ifFe hb68 hm
            refine cnd_true (b := !((lkM s39.2.1 (r20.1.1, r20.1.2)).isSome)) A637 rfl rfl (notT hb68) ?_
            refine wp_seq (wp_region_lit (rn A637 S637 (sv (opT_move (v := v198) rfl rfl) rfl rfl (sv (opT_len_hd (v := v198) (n := s39.1.length) (St.hd S637 2 rfl).1 Try.underlying187 rfl rfl) rfl rfl (sv (opT_assign (v := .int .i64 (s39.1.length : Int)) rfl rfl) rfl rfl (enR (L' := [(1, .int .i64 p1), (2, va0), (3, va1), (8, .pointer (some ⟨g2, 0, none⟩)), (10, v198), (11, v2), (12, .pointer (some ⟨g3, 0, none⟩)), (13, .int .i64 s29.2.2.1), (14, v199), (15, .int .i64 s39.2.2.2), (16, .pointer (some ⟨g21, 0, none⟩)), (18, .int .i64 (s39.1.length : Int))]) rfl ?_))))))
            clear A637 S637 a637 w637;intro a638 w638 A638 S638
            refine nrm (wp_seq (wp_region_lit (rn A638 S638 (sv (opT_move (v := v2) rfl rfl) rfl rfl (sop (opT_load_blk (g := g21) (off := 0) (E := 137) (l := [.int .i64 r20.1.1, .int .i64 r20.1.2]) (d := [.int .i64 r20.1.1, .int .i64 r20.1.2]) (u := .agg #[.int .i64 r20.1.1, .int .i64 r20.1.2]) ti137 rfl rfl rfl rfl rfl rfl) (perm_front (i := 1) rfl) rfl rfl ?_)))))
            rintro u a639 w639 hf A639 (S639 : St I w0 w639 [Ch.blk g21 [.int .i64 r20.1.1, .int .i64 r20.1.2] 137, Ch.mp Try.prog 137 3 iiLit iiOk iLit 0 v2 s39.2.1, Ch.own (rSlice 137 (rProd rInt rInt)) [v198] s39.1, Ch.own (rSlice 3 rInt) [v199] s39.2.2.1, Ch.blk g2 [.int .i64 0, .slice none 0 0, .slice none 0 0] 27, Ch.blk g3 [.int .i64 0, v151, v152] 27, Ch.own (rSlice 4 rBool) [v151] s29.2.2.2.1, Ch.own (rSlice 34 (rSlice 3 rInt)) [v152] s29.2.2.2.2, F])
            obtain rfl := Eq.symm hf
            clear A638 S638 a638 w638
            refine rn A639 S639 (sv (opT_move (v := .int .i64 (s39.1.length : Int)) rfl rfl) rfl rfl ?_)
            obtain ⟨m37, hk55, hm⟩ := bind_some hm
            refine sop (opT_putMap (v := v2) (q := (r20.1.1, r20.1.2)) (i := (s39.1.length : Int)) kk137 ek3 Try.underlying188 (.inl rfl) rfl rfl rfl hk55) (perm_front (i := 1) rfl) rfl rfl ?_
            rintro _ a640 w640 - A640 (S640 : St I w0 w640 [Ch.mp Try.prog 137 3 iiLit iiOk iLit 0 v2 m37, Ch.blk g21 [.int .i64 r20.1.1, .int .i64 r20.1.2] 137, Ch.own (rSlice 137 (rProd rInt rInt)) [v198] s39.1, Ch.own (rSlice 3 rInt) [v199] s39.2.2.1, Ch.blk g2 [.int .i64 0, .slice none 0 0, .slice none 0 0] 27, Ch.blk g3 [.int .i64 0, v151, v152] 27, Ch.own (rSlice 4 rBool) [v151] s29.2.2.2.1, Ch.own (rSlice 34 (rSlice 3 rInt)) [v152] s29.2.2.2.2, F])
            clear A639 S639 a639 w639
            replace A640 := A640.pk (L' := [(1, .int .i64 p1), (2, va0), (3, va1), (8, .pointer (some ⟨g2, 0, none⟩)), (10, v198), (11, v2), (12, .pointer (some ⟨g3, 0, none⟩)), (13, .int .i64 s29.2.2.1), (14, v199), (15, .int .i64 s39.2.2.2), (16, .pointer (some ⟨g21, 0, none⟩)), (18, .int .i64 (s39.1.length : Int))]) rfl
            refine wpList_nil (nrm (wp_region_lit (rn A640 S640 (sv (opT_move (v := v198) rfl rfl) rfl rfl (sop (opT_load_blk (g := g21) (off := 0) (E := 137) (l := [.int .i64 r20.1.1, .int .i64 r20.1.2]) (d := [.int .i64 r20.1.1, .int .i64 r20.1.2]) (u := .agg #[.int .i64 r20.1.1, .int .i64 r20.1.2]) ti137 rfl rfl rfl rfl rfl rfl) (perm_front (i := 1) rfl) rfl rfl ?_)))))
            rintro u a641 w641 hf A641 (S641 : St I w0 w641 [Ch.blk g21 [.int .i64 r20.1.1, .int .i64 r20.1.2] 137, Ch.mp Try.prog 137 3 iiLit iiOk iLit 0 v2 m37, Ch.own (rSlice 137 (rProd rInt rInt)) [v198] s39.1, Ch.own (rSlice 3 rInt) [v199] s39.2.2.1, Ch.blk g2 [.int .i64 0, .slice none 0 0, .slice none 0 0] 27, Ch.blk g3 [.int .i64 0, v151, v152] 27, Ch.own (rSlice 4 rBool) [v151] s29.2.2.2.1, Ch.own (rSlice 34 (rSlice 3 rInt)) [v152] s29.2.2.2.2, F])
            obtain rfl := Eq.symm hf
            clear A640 S640 a640 w640
            refine rn A641 S641 (sop (opT_lit_cpy (E := 137) (R := rProd rInt rInt) (S := rProd rInt rInt) [(.agg #[.int .i64 r20.1.1, .int .i64 r20.1.2], [.int .i64 r20.1.1, .int .i64 r20.1.2])] [(r20.1.1, r20.1.2)] (cpy_prod cpy_int cpy_int) (rd_all ⟨⟨_, _, rfl, rfl, rfl⟩, trivial⟩) Try.underlying187 tz137 (by decide) rfl (by decide) (by decide) rfl rfl rfl rfl (us_all ⟨⟨rfl, rfl⟩, trivial⟩)) (List.Perm.refl _) rfl rfl ?_)
            rintro v216 a642 w642 - A642 (S642 : St I w0 w642 [Ch.own (rSlice 137 (rProd rInt rInt)) [v216] ([(r20.1.1, r20.1.2)]), Ch.blk g21 [.int .i64 r20.1.1, .int .i64 r20.1.2] 137, Ch.mp Try.prog 137 3 iiLit iiOk iLit 0 v2 m37, Ch.own (rSlice 137 (rProd rInt rInt)) [v198] s39.1, Ch.own (rSlice 3 rInt) [v199] s39.2.2.1, Ch.blk g2 [.int .i64 0, .slice none 0 0, .slice none 0 0] 27, Ch.blk g3 [.int .i64 0, v151, v152] 27, Ch.own (rSlice 4 rBool) [v151] s29.2.2.2.1, Ch.own (rSlice 34 (rSlice 3 rInt)) [v152] s29.2.2.2.2, F])
            clear A641 S641 a641 w641
            obtain ⟨z75, e115, hm⟩ := bind_some hm
            refine rn A642 S642 (sop (opT_app (E := 137) (R := rProd rInt rInt) (s := v198) (u := v216) e115 Try.underlying187 tz137 rfl (by decide) rfl (by decide) rfl rfl rfl) (perm_sel [3, 0, 1, 2, 4, 5, 6, 7, 8, 9] (m := 10) rfl rfl) rfl rfl ?_)
            rintro v217 a643 w643 - A643 (S643 : St I w0 w643 [Ch.own (rSlice 137 (rProd rInt rInt)) [v217] z75, Ch.blk g21 [.int .i64 r20.1.1, .int .i64 r20.1.2] 137, Ch.mp Try.prog 137 3 iiLit iiOk iLit 0 v2 m37, Ch.own (rSlice 3 rInt) [v199] s39.2.2.1, Ch.blk g2 [.int .i64 0, .slice none 0 0, .slice none 0 0] 27, Ch.blk g3 [.int .i64 0, v151, v152] 27, Ch.own (rSlice 4 rBool) [v151] s29.2.2.2.1, Ch.own (rSlice 34 (rSlice 3 rInt)) [v152] s29.2.2.2.2, F])
            clear A642 S642 a642 w642
            refine rn A643 S643 (sv (opT_assign (v := v217) rfl rfl) rfl rfl (enR (L' := [(1, .int .i64 p1), (2, va0), (3, va1), (8, .pointer (some ⟨g2, 0, none⟩)), (10, v217), (11, v2), (12, .pointer (some ⟨g3, 0, none⟩)), (13, .int .i64 s29.2.2.1), (14, v199), (15, .int .i64 s39.2.2.2), (18, .int .i64 (s39.1.length : Int))]) rfl ?_))
            clear A643 S643 a643 w643;intro a644 w644 A644 S644
            refine nrm ?_
            obtain rfl := Option.some.inj hm
            exact ⟨v217, A644.pick' ⟨rfl, rfl, rfl, rfl, rfl, rfl, rfl, rfl, rfl, rfl, rfl, trivial⟩, St.sel S644 9 [0, 2, 4, 5, 6, 7, 3, 8] rfl rfl⟩
          replace hm := ifTe hb68 hm
          refine cnd_false (b := !((lkM s39.2.1 (r20.1.1, r20.1.2)).isSome)) A637 rfl rfl (notF hb68) ?_
          refine wp_skip (nrm ?_)
          obtain rfl := Option.some.inj hm
          exact ⟨v198, A637.pick' ⟨rfl, rfl, rfl, rfl, rfl, rfl, rfl, rfl, rfl, rfl, rfl, trivial⟩, St.sel S637 9 [2, 0, 4, 5, 6, 7, 3, 8] rfl rfl⟩
        rintro a645 w645 ⟨v215, A645, S645⟩
        refine wp_region_lit (rn A645 S645 (sv (opT_move (v := v199) rfl rfl) rfl rfl (sv (opT_move (v := .int .i64 s43.2.2) rfl rfl) rfl rfl (sop (opT_lit_cpy (E := 3) (R := rInt) (S := rInt) [(.int .i64 s43.2.2, [.int .i64 s43.2.2])] [s43.2.2] cpy_int (rd_all ⟨rfl, trivial⟩) Try.underlying34 tz3 (by decide) rfl (by decide) (by decide) rfl rfl rfl rfl (us_all ⟨⟨rfl, rfl⟩, trivial⟩)) (List.Perm.refl _) rfl rfl ?_))))
        rintro v218 a646 w646 - A646 (S646 : St I w0 w646 [Ch.own (rSlice 3 rInt) [v218] ([s43.2.2]), Ch.own (rSlice 137 (rProd rInt rInt)) [v215] s43.1, Ch.mp Try.prog 137 3 iiLit iiOk iLit 0 v2 s43.2.1, Ch.blk g2 [.int .i64 0, .slice none 0 0, .slice none 0 0] 27, Ch.blk g3 [.int .i64 0, v151, v152] 27, Ch.own (rSlice 4 rBool) [v151] s29.2.2.2.1, Ch.own (rSlice 34 (rSlice 3 rInt)) [v152] s29.2.2.2.2, Ch.own (rSlice 3 rInt) [v199] s39.2.2.1, F])
        clear A645 S645 a645 w645
        obtain ⟨z76, e116, hm⟩ := bind_some hm
        refine rn A646 S646 (sop (opT_app (E := 3) (R := rInt) (s := v199) (u := v218) e116 Try.underlying34 tz3 rfl (by decide) rfl (by decide) rfl rfl rfl) (perm_sel [7, 0, 1, 2, 3, 4, 5, 6, 8] (m := 9) rfl rfl) rfl rfl ?_)
        rintro v219 a647 w647 - A647 (S647 : St I w0 w647 [Ch.own (rSlice 3 rInt) [v219] z76, Ch.own (rSlice 137 (rProd rInt rInt)) [v215] s43.1, Ch.mp Try.prog 137 3 iiLit iiOk iLit 0 v2 s43.2.1, Ch.blk g2 [.int .i64 0, .slice none 0 0, .slice none 0 0] 27, Ch.blk g3 [.int .i64 0, v151, v152] 27, Ch.own (rSlice 4 rBool) [v151] s29.2.2.2.1, Ch.own (rSlice 34 (rSlice 3 rInt)) [v152] s29.2.2.2.2, F])
        clear A646 S646 a646 w646
        refine rn A647 S647 (sv (opT_assign (v := v219) rfl rfl) rfl rfl (enR (L' := [(1, .int .i64 p1), (2, va0), (3, va1), (8, .pointer (some ⟨g2, 0, none⟩)), (10, v215), (11, v2), (12, .pointer (some ⟨g3, 0, none⟩)), (13, .int .i64 s29.2.2.1), (14, v219), (15, .int .i64 s39.2.2.2)]) rfl ?_))
        clear A647 S647 a647 w647;intro a648 w648 A648 S648
        refine nrmB (nrm ?_)
        obtain rfl := Option.some.inj hm
        exact ⟨v215, v219, A648.pick' ⟨rfl, rfl, rfl, rfl, rfl, rfl, rfl, rfl, rfl, rfl, trivial⟩, St.sel S648 8 [1, 2, 0, 3, 4, 5, 6, 7] rfl rfl⟩
      rintro a649 w649 ⟨v209, v210, A649, S649⟩
      refine wp_region_lit (rn A649 S649 (sv (opT_move (v := .int .i64 s39.2.2.2) rfl rfl) rfl rfl (sv (opT_add (m := s39.2.2.2) (n := 1) rfl rfl rfl) rfl rfl (sv (opT_assign (v := .int .i64 (IntKind.i64.wrap (s39.2.2.2 + 1))) rfl rfl) rfl rfl (enR (L' := [(1, .int .i64 p1), (2, va0), (3, va1), (8, .pointer (some ⟨g2, 0, none⟩)), (10, v209), (11, v2), (12, .pointer (some ⟨g3, 0, none⟩)), (13, .int .i64 s29.2.2.1), (14, v210), (15, .int .i64 (IntKind.i64.wrap (s39.2.2.2 + 1)))]) rfl ?_)))))
      clear A649 S649 a649 w649;intro a650 w650 A650 S650
      exact nrm (⟨_, (Option.some.inj hm).symm, ⟨v209, v210, A650.pick' ⟨rfl, rfl, rfl, rfl, rfl, rfl, rfl, rfl, rfl, rfl, trivial⟩, St.sel S650 8 [0, 1, 2, 3, 4, 5, 6, 7] rfl rfl⟩⟩)
    rintro a651 w651 ⟨s40, ho30, v196, v197, A651, S651⟩
    replace hm := loopOut ho30 hc28
    clear ho30 hc28 hl4
    refine nrm (wp_seq (wp_seq (wp_region_lit (rn A651 S651 (sv (opT_move (v := v196) rfl rfl) rfl rfl (sv (opT_len_hd (v := v196) (n := s40.1.length) (St.hd S651 0 rfl).1 Try.underlying187 rfl rfl) rfl rfl (sv (opT_move (v := .int .i64 p1) rfl rfl) rfl rfl (sv (opT_cmp (k := .i64) (m := (s40.1.length : Int)) (n := p1) (c := decide ((s40.1.length : Int) > p1)) rfl rfl rfl rfl rfl) rfl rfl (enR (L' := [(1, .int .i64 p1), (2, va0), (3, va1), (8, .pointer (some ⟨g2, 0, none⟩)), (10, v196), (11, v2), (12, .pointer (some ⟨g3, 0, none⟩)), (13, .int .i64 s29.2.2.1), (14, v197), (76, .bool (decide ((s40.1.length : Int) > p1)))]) rfl ?_)))))))))
    clear A651 S651 a651 w651;intro a652 w652 A652 S652
    refine nrm ?_
    rcases two (decide ((s40.1.length : Int) > p1)) with hb69 | hb69
    · replace hm := ifFe hb69 hm
      refine cnd_false (b := decide ((s40.1.length : Int) > p1)) A652 rfl rfl hb69 ?_
      refine wp_skip (nrm (wp_seq ?_))
      obtain ⟨x21, e117, hm⟩ := bind_some hm
      have hd1 := (St.hd S652 0 rfl).1
      obtain ⟨r21, e118, hm⟩ := bind_some hm
      obtain ⟨z77, e119, hm⟩ := bind_some hm
      refine wp_draw (L := [(1, .int .i64 p1), (2, va0), (3, va1), (8, .pointer (some ⟨g2, 0, none⟩)), (10, v196), (11, v2), (12, .pointer (some ⟨g3, 0, none⟩)), (13, .int .i64 s29.2.2.1), (14, v197), (76, .bool (decide ((s40.1.length : Int) > p1)))]) (C := [Ch.mp Try.prog 137 3 iiLit iiOk iLit 0 v2 s40.2.1, Ch.own (rSlice 3 rInt) [v197] s40.2.2.1, Ch.blk g2 [.int .i64 0, .slice none 0 0, .slice none 0 0] 27, Ch.own (rSlice 34 (rSlice 3 rInt)) [v152] s29.2.2.2.2, F]) { ops := [⟨[], [], [], [0], fun | [xo0] => xo0 = .pointer (some ⟨g3, 1, none⟩) | _ => True, [(12, none)]⟩, ⟨[0], [], [], [1], fun | [xo1] => xo1 = v151 | _ => True, [(78, some 0)]⟩, ⟨[], [], [], [2], fun | [xo2] => xo2 = va0 | _ => True, [(2, none)]⟩, ⟨[], [], [], [3], fun | [xo3] => xo3 = v196 | _ => True, [(10, none)]⟩, ⟨[], [], [], [4], fun | [xo4] => xo4 = .int .i64 s29.2.2.1 | _ => True, [(13, none)]⟩, ⟨[], [], [], [5], fun | [xo5] => xo5 = pt v196 (s29.2.2.1.toNat * 2) | _ => True, [(81, some 3), (82, some 4)]⟩, ⟨[1], [], [], [6], fun | [xo6] => xo6 = .agg #[.int .i64 x21.1, .int .i64 x21.2] | _ => True, [(83, some 5)]⟩, ⟨[], [], [], [7], fun | [xo7] => xo7 = .bool r21 | _ => True, [(80, some 2), (84, some 6)]⟩, ⟨[], [], [3], [8], fun | [xo8] => Hd xo8 ([r21]).length | _ => True, [(85, some 7)]⟩, ⟨[], [2, 3], [4], [9], fun | [xo9] => Hd xo9 (z77).length | _ => True, [(79, some 1), (86, some 8)]⟩, ⟨[], [], [], [10], fun | [xo10] => xo10 = .pointer (some ⟨g3, 1, none⟩) | _ => True, [(12, none)]⟩, ⟨[], [0], [5], [11], fun | [xo11] => True | _ => True, [(88, some 10), (87, some 9)]⟩], res := [⟨[], fun _ => Ch.blk g3 [.int .i64 0, v151, v152] 27⟩, ⟨[], fun _ => Ch.own (rSlice 137 (rProd rInt rInt)) [v196] s40.1⟩, ⟨[], fun _ => Ch.own (rSlice 4 rBool) [v151] s29.2.2.2.1⟩, ⟨[8], fun | [xo8] => Ch.own (rSlice 4 rBool) [xo8] ([r21]) | _ => Ch.fr (fun _ => none) []⟩, ⟨[9], fun | [xo9] => Ch.own (rSlice 4 rBool) [xo9] z77 | _ => Ch.fr (fun _ => none) []⟩, ⟨[9], fun | [xo9] => Ch.blk g3 [.int .i64 0, xo9, v152] 27 | _ => Ch.fr (fun _ => none) []⟩], base := [0, 1, 2], pre := [[], [0], [], [], [], [3, 4], [3, 4, 5], [2, 3, 4, 5, 6], [2, 3, 4, 5, 6, 7], [0, 1, 2, 3, 4, 5, 6, 7, 8], [0, 1, 2, 3, 4, 5, 6, 7, 8, 9], [0, 1, 2, 3, 4, 5, 6, 7, 8, 9, 10]], fin := [(1, none), (2, none), (3, none), (8, none), (10, none), (11, none), (12, none), (13, none), (14, none)], left := [1, 4, 5] } (by kernel_rfl) A652 S652 (perm_sel [4, 0, 5, 1, 2, 3, 6, 7] (m := 8) rfl rfl) (by kernel_rfl) (by kernel_rfl) ?_ ?_
      · exact ⟨Plan.goal_run fun vs hf => ⟨wants_none rfl, OpT.conv (OpT.evs (ev' := evL [(12, .pointer (some ⟨g3, 0, none⟩))]) (opT_field_addr (g := g3) (b := 0) tf27_1 rfl rfl) rfl [.tmp 12] rfl ⟨rfl, trivial⟩) rfl (fun _ h => Eq.trans h rfl) (fun _ => rfl)⟩, Plan.goal_run fun vs hf => ⟨wants_none rfl, OpT.conv (OpT.evs (ev' := evL [(78, .pointer (some ⟨g3, 1, none⟩))]) (opT_load_blk (g := g3) (off := 1) (E := 27) (l := [.int .i64 0, v151, v152]) (d := [v151]) (u := v151) ti22 rfl rfl rfl rfl rfl rfl) rfl [.tmp 78] rfl ⟨(hf 0 (mb rfl)), trivial⟩) rfl (fun _ h => Eq.trans h rfl) (fun _ => rfl)⟩, Plan.goal_run fun vs hf => ⟨wants_none rfl, OpT.conv (OpT.evs (ev' := evL [(2, va0)]) (opT_move (v := va0) rfl rfl) rfl [.tmp 2] rfl ⟨rfl, trivial⟩) rfl (fun _ h => Eq.trans h rfl) (fun _ => rfl)⟩, Plan.goal_run fun vs hf => ⟨wants_none rfl, OpT.conv (OpT.evs (ev' := evL [(10, v196)]) (opT_move (v := v196) rfl rfl) rfl [.tmp 10] rfl ⟨rfl, trivial⟩) rfl (fun _ h => Eq.trans h rfl) (fun _ => rfl)⟩, Plan.goal_run fun vs hf => ⟨wants_none rfl, OpT.conv (OpT.evs (ev' := evL [(13, .int .i64 s29.2.2.1)]) (opT_move (v := .int .i64 s29.2.2.1) rfl rfl) rfl [.tmp 13] rfl ⟨rfl, trivial⟩) rfl (fun _ h => Eq.trans h rfl) (fun _ => rfl)⟩, Plan.goal_run fun vs hf => ⟨wants_none rfl, OpT.conv (OpT.evs (ev' := evL [(81, v196), (82, .int .i64 s29.2.2.1)]) (opT_index_hd (xs := s40.1) (i := s29.2.2.1) (n := 2) hd1 Try.underlying187 ti137 rfl rfl rfl (getI_in e117)) rfl [.tmp 81, .tmp 82] rfl ⟨(hf 3 (mb rfl)), (hf 4 (mb rfl)), trivial⟩) rfl (fun _ h => Eq.trans h rfl) (fun _ => rfl)⟩, Plan.goal_run fun vs hf => ⟨wants_none rfl, OpT.conv (OpT.evs (ev' := evL [(83, pt v196 (s29.2.2.1.toNat * 2))]) (opT_load_own (E := 137) (R := rProd rInt rInt) (S := rProd rInt rInt) (xs := s40.1) (a := x21) (i := s29.2.2.1) (k := 2) (off := 0) (f := fun (x : Int × Int) => x) (sh_prod sh_int sh_int) e117 Fld.self ti137 rfl rfl rfl rfl rfl) rfl [.tmp 83] rfl ⟨(hf 5 (mb rfl)), trivial⟩) rfl (fun u h => by obtain ⟨d, hd, h⟩ := h; obtain ⟨_, _, rfl, rfl, rfl⟩ := hd; exact h) (fun _ => rfl)⟩, Plan.goal_run fun vs hf => ⟨wants_none rfl, OpT.conv (OpT.evs (ev' := evL [(80, va0), (84, .agg #[.int .i64 x21.1, .int .i64 x21.2])]) (opT_call_clo (v := va0) (args := [.agg #[.int .i64 x21.1, .int .i64 x21.2]]) (ra0.2 _ Hp.le.rfl (x21.1, x21.2) _ e118  ) rfl rfl rfl) rfl [.tmp 80, .tmp 84] rfl ⟨(hf 2 (mb rfl)), (hf 6 (mb rfl)), trivial⟩) rfl (fun _ h => h) (fun _ => rfl)⟩, Plan.goal_run fun vs hf => ⟨wants_none rfl, OpT.conv (OpT.evs (ev' := evL [(85, .bool r21)]) (OpT.hdk (E := 4) (R := rBool) (xs := [r21]) (fun v => v) 0 (fun _ => rfl) (opT_lit_cpy (E := 4) (R := rBool) (S := rBool) [(.bool r21, [.bool r21])] [r21] cpy_bool (rd_all ⟨rfl, trivial⟩) Try.underlying22 tz4 (by decide) rfl (by decide) (by decide) rfl rfl rfl rfl (us_all ⟨⟨rfl, rfl⟩, trivial⟩))) rfl [.tmp 85] rfl ⟨(hf 7 (mb rfl)), trivial⟩) rfl (fun _ h => h.2) (fun _ => rfl)⟩, Plan.goal_run fun vs hf => ⟨wants_none rfl, OpT.conv (OpT.evs (ev' := evL [(79, v151), (86, (vs 8))]) (OpT.hdk (E := 4) (R := rBool) (xs := z77) (fun v => v) 0 (fun _ => rfl) (opT_app (E := 4) (R := rBool) (s := v151) (u := (vs 8)) e119 Try.underlying22 tz4 rfl (by decide) rfl (by decide) rfl rfl rfl)) rfl [.tmp 79, .tmp 86] rfl ⟨(hf 1 (mb rfl)), rfl, trivial⟩) rfl (fun _ h => h.2) (fun _ => rfl)⟩, Plan.goal_run fun vs hf => ⟨wants_none rfl, OpT.conv (OpT.evs (ev' := evL [(12, .pointer (some ⟨g3, 0, none⟩))]) (opT_field_addr (g := g3) (b := 0) tf27_1 rfl rfl) rfl [.tmp 12] rfl ⟨rfl, trivial⟩) rfl (fun _ h => Eq.trans h rfl) (fun _ => rfl)⟩, Plan.goal_run fun vs hf => ⟨wants_none rfl, OpT.conv (OpT.evs (ev' := evL [(88, .pointer (some ⟨g3, 1, none⟩)), (87, (vs 9))]) (opT_store_blk (g := g3) (off := 1) (l := [.int .i64 0, v151, v152]) (d := [(vs 9)]) (E := 27) (u := (vs 9)) ti22 rfl rfl rfl (Hd.cells (show Hd (vs 9) (z77).length from (hf 9 (mb rfl)))) rfl (allC (Hd.one (show Hd (vs 9) (z77).length from (hf 9 (mb rfl)))) allN) (Nat.le_of_ble_eq_true rfl)) rfl [.tmp 88, .tmp 87] rfl ⟨(hf 10 (mb rfl)), rfl, trivial⟩) rfl (fun _ _ => trivial) (fun _ => rfl)⟩, trivial⟩
      intro vs a653 w653 hf A653 S653
      clear A652 S652
      replace A653 := A653.pick' (L' := [(1, .int .i64 p1), (2, va0), (3, va1), (8, .pointer (some ⟨g2, 0, none⟩)), (10, v196), (11, v2), (12, .pointer (some ⟨g3, 0, none⟩)), (13, .int .i64 s29.2.2.1), (14, v197)]) ⟨rfl, rfl, rfl, rfl, rfl, rfl, rfl, rfl, rfl, trivial⟩
      replace S653 : St I w0 w653 [Ch.own (rSlice 137 (rProd rInt rInt)) [v196] s40.1, Ch.own (rSlice 4 rBool) [(vs 9)] z77, Ch.blk g3 [.int .i64 0, (vs 9), v152] 27, Ch.mp Try.prog 137 3 iiLit iiOk iLit 0 v2 s40.2.1, Ch.own (rSlice 3 rInt) [v197] s40.2.2.1, Ch.blk g2 [.int .i64 0, .slice none 0 0, .slice none 0 0] 27, Ch.own (rSlice 34 (rSlice 3 rInt)) [v152] s29.2.2.2.2, F] := S653
      obtain ⟨v221, ea1⟩ : ∃ x, x = (vs 9) := ⟨_, rfl⟩
      try rw [← ea1] at A653
      try rw [← ea1] at S653
      clear ea1
      clear hf vs
      refine nrm (wp_region_lit (rn A653 S653 (sv (opT_field_addr (g := g3) (b := 0) tf27_2 rfl rfl) rfl rfl (sop (opT_load_blk (g := g3) (off := 2) (E := 27) (l := [.int .i64 0, v221, v152]) (d := [v152]) (u := v152) ti23 rfl rfl rfl rfl rfl rfl) (perm_front (i := 2) rfl) rfl rfl ?_))))
      rintro u a654 w654 hf A654 (S654 : St I w0 w654 [Ch.blk g3 [.int .i64 0, v221, v152] 27, Ch.own (rSlice 137 (rProd rInt rInt)) [v196] s40.1, Ch.own (rSlice 4 rBool) [v221] z77, Ch.mp Try.prog 137 3 iiLit iiOk iLit 0 v2 s40.2.1, Ch.own (rSlice 3 rInt) [v197] s40.2.2.1, Ch.blk g2 [.int .i64 0, .slice none 0 0, .slice none 0 0] 27, Ch.own (rSlice 34 (rSlice 3 rInt)) [v152] s29.2.2.2.2, F])
      obtain rfl := Eq.symm hf
      clear A653 S653 a653 w653
      refine rn A654 S654 (sv (opT_move (v := v197) rfl rfl) rfl rfl (sop (opT_lit (E := 34) (R := rSlice 3 rInt) [(v197, [v197])] [s40.2.2.1] Try.underlying23 tz34 (by decide) rfl (by decide) (by decide) rfl rfl rfl rfl (us_all ⟨⟨(Hd.cells (St.hd S654 4 rfl).1), rfl⟩, trivial⟩)) (perm_front (i := 4) rfl) rfl rfl ?_))
      rintro v222 a655 w655 - A655 (S655 : St I w0 w655 [Ch.own (rSlice 34 (rSlice 3 rInt)) [v222] ([s40.2.2.1]), Ch.blk g3 [.int .i64 0, v221, v152] 27, Ch.own (rSlice 137 (rProd rInt rInt)) [v196] s40.1, Ch.own (rSlice 4 rBool) [v221] z77, Ch.mp Try.prog 137 3 iiLit iiOk iLit 0 v2 s40.2.1, Ch.blk g2 [.int .i64 0, .slice none 0 0, .slice none 0 0] 27, Ch.own (rSlice 34 (rSlice 3 rInt)) [v152] s29.2.2.2.2, F])
      clear A654 S654 a654 w654
      obtain ⟨z78, e120, hm⟩ := bind_some hm
      refine rn A655 S655 (sop (opT_app (E := 34) (R := rSlice 3 rInt) (s := v152) (u := v222) e120 Try.underlying23 tz34 rfl (by decide) rfl (by decide) rfl rfl rfl) (perm_sel [6, 0, 1, 2, 3, 4, 5, 7] (m := 8) rfl rfl) rfl rfl ?_)
      rintro v223 a656 w656 - A656 (S656 : St I w0 w656 [Ch.own (rSlice 34 (rSlice 3 rInt)) [v223] z78, Ch.blk g3 [.int .i64 0, v221, v152] 27, Ch.own (rSlice 137 (rProd rInt rInt)) [v196] s40.1, Ch.own (rSlice 4 rBool) [v221] z77, Ch.mp Try.prog 137 3 iiLit iiOk iLit 0 v2 s40.2.1, Ch.blk g2 [.int .i64 0, .slice none 0 0, .slice none 0 0] 27, F])
      clear A655 S655 a655 w655
      refine rn A656 S656 (sv (opT_field_addr (g := g3) (b := 0) tf27_2 rfl rfl) rfl rfl (sop (opT_store_blk (g := g3) (off := 2) (l := [.int .i64 0, v221, v152]) (d := [v223]) (E := 27) (u := v223) ti23 rfl rfl rfl (Hd.cells (St.hd S656 0 rfl).1) rfl (allC (Hd.one (St.hd S656 0 rfl).1) allN) (Nat.le_of_ble_eq_true rfl)) (perm_front (i := 1) rfl) rfl rfl ?_))
      rintro _ a657 w657 - A657 (S657 : St I w0 w657 [Ch.blk g3 [.int .i64 0, v221, v223] 27, Ch.own (rSlice 34 (rSlice 3 rInt)) [v223] z78, Ch.own (rSlice 137 (rProd rInt rInt)) [v196] s40.1, Ch.own (rSlice 4 rBool) [v221] z77, Ch.mp Try.prog 137 3 iiLit iiOk iLit 0 v2 s40.2.1, Ch.blk g2 [.int .i64 0, .slice none 0 0, .slice none 0 0] 27, F])
      clear A656 S656 a656 w656
      replace A657 := A657.pk (L' := [(1, .int .i64 p1), (2, va0), (3, va1), (8, .pointer (some ⟨g2, 0, none⟩)), (10, v196), (11, v2), (12, .pointer (some ⟨g3, 0, none⟩)), (13, .int .i64 s29.2.2.1)]) rfl
      refine wpList_nil (nrmB (nrm (wp_region_lit (rn A657 S657 (sv (opT_move (v := .int .i64 s29.2.2.1) rfl rfl) rfl rfl (sv (opT_add (m := s29.2.2.1) (n := 1) rfl rfl rfl) rfl rfl (sv (opT_assign (v := .int .i64 (IntKind.i64.wrap (s29.2.2.1 + 1))) rfl rfl) rfl rfl (enR (L' := [(1, .int .i64 p1), (2, va0), (3, va1), (8, .pointer (some ⟨g2, 0, none⟩)), (10, v196), (11, v2), (12, .pointer (some ⟨g3, 0, none⟩)), (13, .int .i64 (IntKind.i64.wrap (s29.2.2.1 + 1)))]) rfl ?_))))))))
      clear A657 S657 a657 w657;intro a658 w658 A658 S658
      exact nrm (⟨_, (Option.some.inj hm).symm, ⟨v196, v221, v223, A658.pick' ⟨rfl, rfl, rfl, rfl, rfl, rfl, rfl, rfl, trivial⟩, St.sel S658 7 [2, 4, 3, 1, 5, 0, 6] rfl rfl⟩⟩)
    replace hm := ifTe hb69 hm
    refine cnd_true (b := decide ((s40.1.length : Int) > p1)) A652 rfl rfl hb69 ?_
    refine wp_seq (wp_region_lit (rn A652 S652 (sv (opT_build (zl := [.int .i64 0, .slice none 0 0, .slice none 0 0]) (r := [.int .i64 0, .slice none 0 0, .slice none 0 0]) [] tb27 tz27 rfl rfl trivial rfl) rfl rfl (sop (opT_store_blk (g := g2) (off := 0) (l := [.int .i64 0, .slice none 0 0, .slice none 0 0]) (d := [.int .i64 0, .slice none 0 0, .slice none 0 0]) (E := 27) (u := .agg #[.int .i64 0, .slice none 0 0, .slice none 0 0]) ti27 rfl rfl rfl rfl rfl (allC rfl (allC rfl (allC rfl allN))) (Nat.le_of_ble_eq_true rfl)) (perm_front (i := 3) rfl) rfl rfl ?_))))
    rintro _ a659 w659 - A659 (S659 : St I w0 w659 [Ch.blk g2 [.int .i64 0, .slice none 0 0, .slice none 0 0] 27, Ch.own (rSlice 137 (rProd rInt rInt)) [v196] s40.1, Ch.mp Try.prog 137 3 iiLit iiOk iLit 0 v2 s40.2.1, Ch.own (rSlice 3 rInt) [v197] s40.2.2.1, Ch.blk g3 [.int .i64 0, v151, v152] 27, Ch.own (rSlice 4 rBool) [v151] s29.2.2.2.1, Ch.own (rSlice 34 (rSlice 3 rInt)) [v152] s29.2.2.2.2, F])
    clear A652 S652 a652 w652
    refine rn A659 S659 (sv (opT_assign (v := .bool false) rfl rfl) rfl rfl (enR (L' := [(8, .pointer (some ⟨g2, 0, none⟩)), (9, .bool false)]) rfl ?_))
    clear A659 S659 a659 w659;intro a660 w660 A660 S660
    refine nrm (wp_ret (thenR (blkR (thenR (thenR (blkR (thenR (thenR ?_))))))))
    replace hm := loopRet hm hf3 hc21
    obtain rfl := Option.some.inj hm
    exact ret_2 A660 rfl (res_cell (g := g2) A660 rfl S660 0 rfl ti27 rfl) (res_tmp A660 rfl) ⟨_, rfl, ⟨_, _, rfl⟩, _, Hp.le.rfl, St.sel ((St.nil (St.nil S660))) 10 [1, 0, 9] rfl rfl⟩
  rintro a661 w661 ⟨s30, ho31, v148, v149, A661, S661⟩
  replace hm := loopOut ho31 hc21
  clear ho31 hc21 hl3
  refine nrm (wp_seq (wp_region_lit (rn A661 S661 (sop (opT_load_blk (g := g3) (off := 0) (E := 27) (l := [.int .i64 0, v148, v149]) (d := [.int .i64 0, v148, v149]) (u := .agg #[.int .i64 0, v148, v149]) ti27 rfl rfl rfl rfl rfl rfl) (perm_front (i := 3) rfl) rfl rfl ?_))))
  rintro u a662 w662 hf A662 (S662 : St I w0 w662 [Ch.blk g3 [.int .i64 0, v148, v149] 27, Ch.own (rSlice 4 rBool) [v148] s30.2.2.2.1, Ch.own (rSlice 34 (rSlice 3 rInt)) [v149] s30.2.2.2.2, Ch.blk g2 [.int .i64 0, .slice none 0 0, .slice none 0 0] 27, F])
  obtain rfl := Eq.symm hf
  clear A661 S661 a661 w661
  refine rn A662 S662 (sop (opT_store_blk (g := g2) (off := 0) (l := [.int .i64 0, .slice none 0 0, .slice none 0 0]) (d := [.int .i64 0, v148, v149]) (E := 27) (u := .agg #[.int .i64 0, v148, v149]) ti27 rfl rfl rfl rfl rfl (allC rfl (allC (Hd.one (St.hd S662 1 rfl).1) (allC (Hd.one (St.hd S662 2 rfl).1) allN))) (Nat.le_of_ble_eq_true rfl)) (perm_front (i := 3) rfl) rfl rfl ?_)
  rintro _ a663 w663 - A663 (S663 : St I w0 w663 [Ch.blk g2 [.int .i64 0, v148, v149] 27, Ch.blk g3 [.int .i64 0, v148, v149] 27, Ch.own (rSlice 4 rBool) [v148] s30.2.2.2.1, Ch.own (rSlice 34 (rSlice 3 rInt)) [v149] s30.2.2.2.2, F])
  clear A662 S662 a662 w662
  refine rn A663 S663 (sv (opT_assign (v := .bool true) rfl rfl) rfl rfl (enR (L' := [(8, .pointer (some ⟨g2, 0, none⟩)), (9, .bool true)]) rfl ?_))
  clear A663 S663 a663 w663;intro a664 w664 A664 S664
  refine nrm (wp_ret ?_)
  obtain rfl := Option.some.inj hm
  exact ret_2 A664 rfl (res_cell (g := g2) A664 rfl S664 0 rfl ti27 rfl) (res_tmp A664 rfl) ⟨_, rfl, ⟨_, _, rfl⟩, _, Hp.le.rfl, St.sel (S664) 5 [2, 3, 4] rfl rfl⟩
theorem c_s_l13Op (p0op : Int) (p1x : Bool) (p2y : Bool) (r : Bool) (hm : m_s_l13Op p0op p1x p2y = some r) {I : Hp} {w0 : World} : Con Try.prog 163 #[.int .i64 p0op, .bool p1x, .bool p2y] I w0 [] (fun v => v = .bool r) (fun v => []) := by
  refine con_of_wp (n := 25) [(0, .int .i64 p0op), (1, .bool p1x), (2, .bool p2y)] Try.func163 rfl rfl (Nat.le_of_ble_eq_true rfl) (args_all ⟨rfl, rfl, rfl, trivial⟩) (fun F w a ha hs => ?_) (fun v => trivial)
  unfold m_s_l13Op at hm
  refine wp_seq (wp_region_lit (rn ha hs (sv (opT_assign (v := .bool false) rfl rfl) rfl rfl (enR (L' := [(0, .int .i64 p0op), (1, .bool p1x), (2, .bool p2y)]) rfl ?_))))
  clear ha hs a w;intro a1 w1 A1 S1
  refine nrm (wp_seq (wp_seq (wp_region_lit (rn A1 S1 (sv (opT_move (v := .int .i64 p0op) rfl rfl) rfl rfl (enR (L' := [(1, .bool p1x), (2, .bool p2y), (7, .int .i64 p0op)]) rfl ?_))))))
  clear A1 S1 a1 w1;intro a2 w2 A2 S2
  refine nrm (wp_block (wp_seq (wp_region_lit (rn A2 S2 (sv (opT_cmp (k := .i64) (m := p0op) (n := 1) (c := p0op == 1) rfl rfl rfl rfl rfl) rfl rfl (sv (opT_assign (v := .bool (p0op == 1)) rfl rfl) rfl rfl (enR (L' := [(1, .bool p1x), (2, .bool p2y), (7, .int .i64 p0op), (8, .bool (p0op == 1))]) rfl ?_)))))))
  clear A2 S2 a2 w2;intro a3 w3 A3 S3
  refine nrm ?_
  rcases two (p0op == 1) with hb1 | hb1
  · replace hm := ifFe hb1 hm
    refine cnd_false (b := p0op == 1) A3 rfl rfl hb1 ?_
    refine wp_seq (wp_region_lit (rn A3 S3 (sv (opT_cmp (k := .i64) (m := p0op) (n := 2) (c := p0op == 2) rfl rfl rfl rfl rfl) rfl rfl (sv (opT_assign (v := .bool (p0op == 2)) rfl rfl) rfl rfl (enR (L' := [(1, .bool p1x), (2, .bool p2y), (14, .bool (p0op == 2))]) rfl ?_)))))
    clear A3 S3 a3 w3;intro a4 w4 A4 S4
    refine nrm ?_
    rcases two (p0op == 2) with hb2 | hb2
    · replace hm := ifFe hb2 hm
      refine cnd_false (b := p0op == 2) A4 rfl rfl hb2 ?_
      refine wp_skip (nrmB (nrm (wp_seq (wp_region_lit (rn A4 S4 (sv (opT_move (v := .bool p1x) rfl rfl) rfl rfl (sv (opT_move (v := .bool p1x) rfl rfl) rfl rfl ?_)))))))
      rcases two (p1x) with hb3 | hb3
      · replace hm := ifFe hb3 hm
        refine ssk (g := 1) (d := 21) (want := true) (b := p1x) rfl rfl rfl hb3 rfl (ssk (g := 1) (d := 21) (want := true) (b := p1x) rfl rfl rfl hb3 rfl (sv (opT_pick (b := p1x) (v := .bool false) rfl rfl (ifF hb3)) rfl rfl (sv (opT_assign (v := .bool false) rfl rfl) rfl rfl (enR (L' := [(6, .bool false)]) rfl ?_))))
        clear A4 S4 a4 w4;intro a5 w5 A5 S5
        refine nrm (wp_ret ?_)
        obtain rfl := Option.some.inj hm
        exact ret_1 A5 rfl (res_tmp A5 rfl) ⟨_, rfl, rfl, _, Hp.le.rfl, St.sel (S5) 1 [0] rfl rfl⟩
      replace hm := ifTe hb3 hm
      refine svg (g := 1) (d := 21) (want := true) (b := p1x) rfl rfl rfl hb3 (opT_move (v := .bool p2y) rfl rfl) rfl (svg (g := 1) (d := 21) (want := true) (b := p1x) rfl rfl rfl hb3 (opT_not (b := p2y) rfl rfl) rfl (sv (opT_pick (b := p1x) (v := .bool (!p2y)) rfl rfl (ifT hb3)) rfl rfl (sv (opT_assign (v := .bool (!p2y)) rfl rfl) rfl rfl (enR (L' := [(6, .bool (!p2y))]) rfl ?_))))
      clear A4 S4 a4 w4;intro a6 w6 A6 S6
      refine nrm (wp_ret ?_)
      obtain rfl := Option.some.inj hm
      exact ret_1 A6 rfl (res_tmp A6 rfl) ⟨_, rfl, rfl, _, Hp.le.rfl, St.sel (S6) 1 [0] rfl rfl⟩
    replace hm := ifTe hb2 hm
    refine cnd_true (b := p0op == 2) A4 rfl rfl hb2 ?_
    refine wp_seq (wp_region_lit (rn A4 S4 (sv (opT_move (v := .bool p1x) rfl rfl) rfl rfl (sv (opT_move (v := .bool p1x) rfl rfl) rfl rfl ?_))))
    rcases two (p1x) with hb4 | hb4
    · replace hm := ifFe hb4 hm
      refine svg (g := 1) (d := 17) (want := false) (b := p1x) rfl rfl rfl hb4 (opT_move (v := .bool p2y) rfl rfl) rfl (sv (opT_pick (b := p1x) (v := .bool p2y) rfl rfl (ifF hb4)) rfl rfl (sv (opT_assign (v := .bool p2y) rfl rfl) rfl rfl (enR (L' := [(6, .bool p2y)]) rfl ?_)))
      clear A4 S4 a4 w4;intro a7 w7 A7 S7
      refine nrm (wp_ret (blkR (thenR ?_)))
      obtain rfl := Option.some.inj hm
      exact ret_1 A7 rfl (res_tmp A7 rfl) ⟨_, rfl, rfl, _, Hp.le.rfl, St.sel (S7) 1 [0] rfl rfl⟩
    replace hm := ifTe hb4 hm
    refine ssk (g := 1) (d := 17) (want := false) (b := p1x) rfl rfl rfl hb4 rfl (sv (opT_pick (b := p1x) (v := .bool true) rfl rfl (ifT hb4)) rfl rfl (sv (opT_assign (v := .bool true) rfl rfl) rfl rfl (enR (L' := [(6, .bool true)]) rfl ?_)))
    clear A4 S4 a4 w4;intro a8 w8 A8 S8
    refine nrm (wp_ret (blkR (thenR ?_)))
    obtain rfl := Option.some.inj hm
    exact ret_1 A8 rfl (res_tmp A8 rfl) ⟨_, rfl, rfl, _, Hp.le.rfl, St.sel (S8) 1 [0] rfl rfl⟩
  replace hm := ifTe hb1 hm
  refine cnd_true (b := p0op == 1) A3 rfl rfl hb1 ?_
  refine wp_seq (wp_region_lit (rn A3 S3 (sv (opT_move (v := .bool p1x) rfl rfl) rfl rfl (sv (opT_move (v := .bool p1x) rfl rfl) rfl rfl ?_))))
  rcases two (p1x) with hb5 | hb5
  · replace hm := ifFe hb5 hm
    refine ssk (g := 1) (d := 11) (want := true) (b := p1x) rfl rfl rfl hb5 rfl (sv (opT_pick (b := p1x) (v := .bool false) rfl rfl (ifF hb5)) rfl rfl (sv (opT_assign (v := .bool false) rfl rfl) rfl rfl (enR (L' := [(6, .bool false)]) rfl ?_)))
    clear A3 S3 a3 w3;intro a9 w9 A9 S9
    refine nrm (wp_ret (blkR (thenR ?_)))
    obtain rfl := Option.some.inj hm
    exact ret_1 A9 rfl (res_tmp A9 rfl) ⟨_, rfl, rfl, _, Hp.le.rfl, St.sel (S9) 1 [0] rfl rfl⟩
  replace hm := ifTe hb5 hm
  refine svg (g := 1) (d := 11) (want := true) (b := p1x) rfl rfl rfl hb5 (opT_move (v := .bool p2y) rfl rfl) rfl (sv (opT_pick (b := p1x) (v := .bool p2y) rfl rfl (ifT hb5)) rfl rfl (sv (opT_assign (v := .bool p2y) rfl rfl) rfl rfl (enR (L' := [(6, .bool p2y)]) rfl ?_)))
  clear A3 S3 a3 w3;intro a10 w10 A10 S10
  refine nrm (wp_ret (blkR (thenR ?_)))
  obtain rfl := Option.some.inj hm
  exact ret_1 A10 rfl (res_tmp A10 rfl) ⟨_, rfl, rfl, _, Hp.le.rfl, St.sel (S10) 1 [0] rfl rfl⟩
theorem c_w_toIntS (p0a : List Int) (r : List Int) (hm : m_w_toIntS p0a = some r) {I : Hp} {w0 : World} (va0 : Value) (ra0 : (rSlice 3 rInt).rd I [va0] p0a) : Con Try.prog 66 #[va0] I w0 [] (fun v => True) (fun v => [Ch.own (rSlice 3 rInt) [v] r]) := by
  refine con_of_wp (n := 22) [(0, va0)] Try.func66 rfl rfl (Nat.le_of_ble_eq_true rfl) (args_all ⟨rfl, trivial⟩) (fun F w a ha hs => ?_) (fun v => ⟨dp_own (dp_slice dp_int), trivial⟩)
  unfold m_w_toIntS at hm
  refine wp_seq (wp_region_lit (rn ha hs (sv (opT_assign (v := .slice none 0 0) rfl rfl) rfl rfl (enR (L' := [(0, va0)]) rfl ?_))))
  clear ha hs a w;intro a1 w1 A1 S1
  refine nrm (wp_seq (wp_region_lit (rn A1 S1 (sv (opT_move (v := va0) rfl rfl) rfl rfl (sv (opT_len_hd (v := va0) (n := p0a.length) (Hd.of_rd ra0) Try.underlying34 rfl rfl) rfl rfl ?_)))))
  obtain ⟨x1, hk1, hm⟩ := bind_some hm
  refine sop (opT_mk (E := 3) (R := rInt) (zv := .int .i64 0) (z := (0 : Int)) zro_flat Try.underlying34 tz3 rfl rfl (by decide) (by decide) rfl rfl hk1) (List.Perm.refl _) rfl rfl ?_
  rintro v1 a2 w2 - A2 (S2 : St I w0 w2 [Ch.own (rSlice 3 rInt) [v1] x1, F])
  clear A1 S1 a1 w1
  refine rn A2 S2 (sv (opT_assign (v := v1) rfl rfl) rfl rfl (enR (L' := [(0, va0), (3, v1)]) rfl ?_))
  clear A2 S2 a2 w2;intro a3 w3 A3 S3
  refine nrm (wp_seq (wp_seq (wp_region_lit (rn A3 S3 (sv (opT_assign (v := .int .i64 0) rfl rfl) rfl rfl (enR (L' := [(0, va0), (3, v1), (4, .int .i64 0)]) rfl ?_))))))
  clear A3 S3 a3 w3;intro a4 w4 A4 S4
  refine nrm ?_
  obtain ⟨o1, hl1, hc1⟩ := bindL_some hm
  refine wp_cut (fun a w => ∃ s4 : (List Int) × Int, o1 = .brk s4 ∧ Agr 22 a [(3, v1)] ∧ St I w0 w [Ch.own (rSlice 3 rInt) [v1] s4.1, F]) ?_ ?_
  · refine wp_block (wp_loopM (R := List Int) (S := (List Int) × Int) (fun s3 a w => Agr 22 a [(0, va0), (3, v1), (4, .int .i64 s3.2)] ∧ St I w0 w [Ch.own (rSlice 3 rInt) [v1] s3.1, F]) hl1 ?_ ?_)
    · exact ⟨A4.pick' ⟨rfl, rfl, rfl, trivial⟩, St.sel S4 2 [0, 1] rfl rfl⟩
    rintro s3 o2 hm hf1 a13 w13 ⟨A13, S13⟩
    unfold m_w_toIntS_l0 at hm
    refine wp_seq (wp_seq (wp_region_lit (rn A13 S13 (sv (opT_move (v := .int .i64 s3.2) rfl rfl) rfl rfl (sv (opT_move (v := va0) rfl rfl) rfl rfl (sv (opT_len_hd (v := va0) (n := p0a.length) (Hd.of_rd ra0) Try.underlying34 rfl rfl) rfl rfl (sv (opT_cmp (k := .i64) (m := s3.2) (n := (p0a.length : Int)) (c := decide (s3.2 < (p0a.length : Int))) rfl rfl rfl rfl rfl) rfl rfl (enR (L' := [(0, va0), (3, v1), (4, .int .i64 s3.2), (11, .bool (decide (s3.2 < (p0a.length : Int))))]) rfl ?_))))))))
    clear A13 S13 a13 w13;intro a14 w14 A14 S14
    refine nrm ?_
    rcases two (decide (s3.2 < (p0a.length : Int))) with hb3 | hb3
    · replace hm := ifFe hb3 hm
      refine cnd_false (b := decide (s3.2 < (p0a.length : Int))) A14 rfl rfl hb3 ?_
      exact wp_exit (thenX (thenX (ex_in (nrm (⟨_, loopBrk hm hf1, ⟨A14.pick' ⟨rfl, trivial⟩, St.sel S14 2 [0, 1] rfl rfl⟩⟩)))))
    replace hm := ifTe hb3 hm
    refine cnd_true (b := decide (s3.2 < (p0a.length : Int))) A14 rfl rfl hb3 ?_
    refine wp_skip (nrm (wp_seq (wp_block (wp_region_lit (rn A14 S14 (sv (opT_move (v := v1) rfl rfl) rfl rfl (sv (opT_move (v := .int .i64 s3.2) rfl rfl) rfl rfl (sv (opT_move (v := va0) rfl rfl) rfl rfl (sv (opT_move (v := .int .i64 s3.2) rfl rfl) rfl rfl ?_)))))))))
    obtain ⟨x6, e5, hm⟩ := bind_some hm
    refine sv (opT_index_hd (xs := p0a) (i := s3.2) (n := 1) (Hd.of_rd ra0) Try.underlying34 ti3 rfl rfl rfl (getI_in e5)) rfl rfl (so0 (opT_load_el (S := rInt) (xs := p0a) (a := x6) (i := s3.2) (k := 1) (off := 0) (f := fun (x : Int) => x) ra0 e5 Fld.self ti3 rfl rfl rfl rfl rfl) rfl rfl ?_)
    rintro u a15 w15 hf A15 S15
    obtain rfl := lds_one hf
    clear A14 S14 a14 w14
    obtain ⟨x7, e6, hm⟩ := bind_some hm
    refine rn A15 S15 (sv (opT_index_hd (xs := s3.1) (i := s3.2) (n := 1) (St.hd S15 0 rfl).1 Try.underlying34 ti3 rfl rfl rfl (getI_in e6)) rfl rfl (sop (opT_store_el (E := 3) (R := rInt) (S := rInt) (xs := s3.1) (a := x7) (b := x6) (i := s3.2) (k := 1) (off := 0) (f := fun x y => y) (v := v1) (d := [.int .i64 x6]) (u := .int .i64 x6) sh_int cpy_int e6 Upd.self ti3 rfl rfl rfl rfl (allC rfl allN) rfl rfl (by decide) rfl) (perm_front (i := 0) rfl) rfl rfl ?_))
    rintro _ a16 w16 - A16 (S16 : St I w0 w16 [Ch.own (rSlice 3 rInt) [v1] (s3.1.set s3.2.toNat x6), F])
    clear A15 S15 a15 w15
    replace A16 := A16.pk (L' := [(0, va0), (3, v1), (4, .int .i64 s3.2)]) rfl
    refine wpList_nil (nrmB (nrm (wp_region_lit (rn A16 S16 (sv (opT_move (v := .int .i64 s3.2) rfl rfl) rfl rfl (sv (opT_add (m := s3.2) (n := 1) rfl rfl rfl) rfl rfl (sv (opT_assign (v := .int .i64 (IntKind.i64.wrap (s3.2 + 1))) rfl rfl) rfl rfl (enR (L' := [(0, va0), (3, v1), (4, .int .i64 (IntKind.i64.wrap (s3.2 + 1)))]) rfl ?_))))))))
    clear A16 S16 a16 w16;intro a17 w17 A17 S17
    exact nrm (⟨_, (Option.some.inj hm).symm, ⟨A17.pick' ⟨rfl, rfl, rfl, trivial⟩, St.sel S17 2 [0, 1] rfl rfl⟩⟩)
  rintro a18 w18 ⟨s4, ho1, A18, S18⟩
  replace hm := loopOut ho1 hc1
  clear ho1 hc1 hl1
  refine nrm (wp_seq (wp_region_lit (rn A18 S18 (sv (opT_move (v := v1) rfl rfl) rfl rfl (sv (opT_assign (v := v1) rfl rfl) rfl rfl (enR (L' := [(2, v1)]) rfl ?_))))))
  clear A18 S18 a18 w18;intro a19 w19 A19 S19
  refine nrm (wp_ret ?_)
  obtain rfl := Option.some.inj hm
  exact ret_1 A19 rfl (res_tmp A19 rfl) ⟨_, rfl, trivial, _, Hp.le.rfl, St.sel (S19) 2 [0, 1] rfl rfl⟩
theorem c_i_Automaton_minimize_2 (p0c : Int) (q0 : Int × (List Bool) × (List (List Int))) (q1 : Int → Option Int) (r : Bool) (hm : m_i_Automaton_minimize_2 p0c q0 q1 = some r) {I : Hp} {w0 : World} (g0_0 : Nat) (va1 : Value) (va2 : Value) (g0_1 : Nat) (va4 : Value) (rb0 : I g0_0 = some (.cells #[.int .i64 q0.1, va1, va2] 27 (0, 0))) (ra1 : (rSlice 4 rBool).rd I [va1] q0.2.1) (ra2 : (rSlice 34 (rSlice 3 rInt)).rd I [va2] q0.2.2) (rb1 : I g0_1 = some (.cells #[va4] 122 (0, 0))) (ra4 : fn122 w0 I va4 q1) : Con Try.prog 113 #[.int .i64 p0c, .pointer (some ⟨g0_0, 0, none⟩), .pointer (some ⟨g0_1, 0, none⟩)] I w0 [] (fun v => v = .bool r) (fun v => []) := by
  refine con_of_wp (n := 12) [(0, .int .i64 p0c), (1, .pointer (some ⟨g0_0, 0, none⟩)), (2, .pointer (some ⟨g0_1, 0, none⟩))] Try.func113 rfl rfl (Nat.le_of_ble_eq_true rfl) (args_all ⟨rfl, rfl, rfl, trivial⟩) (fun F w a ha hs => ?_) (fun v => trivial)
  unfold m_i_Automaton_minimize_2 at hm
  refine wp_seq (wp_region_lit (rn ha hs (sv (opT_assign (v := .bool false) rfl rfl) rfl rfl (enR (L' := [(0, .int .i64 p0c), (1, .pointer (some ⟨g0_0, 0, none⟩)), (2, .pointer (some ⟨g0_1, 0, none⟩))]) rfl ?_))))
  clear ha hs a w;intro a1 w1 A1 S1
  refine nrm (wp_seq ?_)
  obtain ⟨r1, e1, hm⟩ := bind_some hm
  obtain ⟨x1, e2, hm⟩ := bind_some hm
  refine wp_draw (L := [(0, .int .i64 p0c), (1, .pointer (some ⟨g0_0, 0, none⟩)), (2, .pointer (some ⟨g0_1, 0, none⟩))]) (C := [F]) { ops := [⟨[], [], [], [0], fun | [xo0] => xo0 = .pointer (some ⟨g0_0, 1, none⟩) | _ => True, [(1, none)]⟩, ⟨[], [], [], [1], fun | [xo1] => xo1 = va1 | _ => True, [(5, some 0)]⟩, ⟨[], [], [], [2], fun | [xo2] => xo2 = va4 | _ => True, [(2, none)]⟩, ⟨[], [], [], [3], fun | [xo3] => xo3 = .int .i64 p0c | _ => True, [(0, none)]⟩, ⟨[], [], [], [4], fun | [xo4] => xo4 = .int .i64 r1 | _ => True, [(7, some 2), (8, some 3)]⟩, ⟨[], [], [], [5], fun | [xo5] => xo5 = pt va1 (r1.toNat * 1) | _ => True, [(6, some 1), (9, some 4)]⟩, ⟨[], [], [], [6], fun | [xo6] => xo6 = .bool x1 | _ => True, [(10, some 5)]⟩, ⟨[], [], [], [7], fun | [xo7] => xo7 = .bool x1 | _ => True, [(11, some 6)]⟩], res := [], base := [], pre := [[], [0], [], [], [2, 3], [0, 1, 2, 3, 4], [0, 1, 2, 3, 4, 5], [0, 1, 2, 3, 4, 5, 6]], fin := [(4, some 7)], left := [] } (by kernel_rfl) A1 S1 (perm_sel [0] (m := 1) rfl rfl) (by kernel_rfl) (by kernel_rfl) ?_ ?_
  · exact ⟨Plan.goal_run fun vs hf => ⟨wants_none rfl, OpT.conv (OpT.evs (ev' := evL [(1, .pointer (some ⟨g0_0, 0, none⟩))]) (opT_field_addr (g := g0_0) (b := 0) tf27_1 rfl rfl) rfl [.tmp 1] rfl ⟨rfl, trivial⟩) rfl (fun _ h => Eq.trans h rfl) (fun _ => rfl)⟩, Plan.goal_run fun vs hf => ⟨wants_none rfl, OpT.conv (OpT.evs (ev' := evL [(5, .pointer (some ⟨g0_0, 1, none⟩))]) (opT_load_fro (g := g0_0) (off := 1) (l := [.int .i64 q0.1, va1, va2]) (d := [va1]) (u := va1) rb0 ti22 rfl rfl rfl rfl rfl rfl) rfl [.tmp 5] rfl ⟨(hf 0 (mb rfl)), trivial⟩) rfl (fun _ h => Eq.trans h rfl) (fun _ => rfl)⟩, Plan.goal_run fun vs hf => ⟨wants_none rfl, OpT.conv (OpT.evs (ev' := evL [(2, .pointer (some ⟨g0_1, 0, none⟩))]) (opT_load_fro (g := g0_1) (off := 0) (l := [va4]) (d := [va4]) (u := va4) rb1 ti122 rfl rfl rfl rfl rfl rfl) rfl [.tmp 2] rfl ⟨rfl, trivial⟩) rfl (fun _ h => Eq.trans h rfl) (fun _ => rfl)⟩, Plan.goal_run fun vs hf => ⟨wants_none rfl, OpT.conv (OpT.evs (ev' := evL [(0, .int .i64 p0c)]) (opT_move (v := .int .i64 p0c) rfl rfl) rfl [.tmp 0] rfl ⟨rfl, trivial⟩) rfl (fun _ h => Eq.trans h rfl) (fun _ => rfl)⟩, Plan.goal_run fun vs hf => ⟨wants_none rfl, OpT.conv (OpT.evs (ev' := evL [(7, va4), (8, .int .i64 p0c)]) (opT_call_clo (v := va4) (args := [.int .i64 p0c]) (ra4.2 _ Hp.le.rfl p0c _ e1  ) rfl rfl rfl) rfl [.tmp 7, .tmp 8] rfl ⟨(hf 2 (mb rfl)), (hf 3 (mb rfl)), trivial⟩) rfl (fun _ h => h) (fun _ => rfl)⟩, Plan.goal_run fun vs hf => ⟨wants_none rfl, OpT.conv (OpT.evs (ev' := evL [(6, va1), (9, .int .i64 r1)]) (opT_index_hd (xs := q0.2.1) (i := r1) (n := 1) (Hd.of_rd ra1) Try.underlying22 ti4 rfl rfl rfl (getI_in e2)) rfl [.tmp 6, .tmp 9] rfl ⟨(hf 1 (mb rfl)), (hf 4 (mb rfl)), trivial⟩) rfl (fun _ h => Eq.trans h rfl) (fun _ => rfl)⟩, Plan.goal_run fun vs hf => ⟨wants_none rfl, OpT.conv (OpT.evs (ev' := evL [(10, pt va1 (r1.toNat * 1))]) (opT_load_el (S := rBool) (xs := q0.2.1) (a := x1) (i := r1) (k := 1) (off := 0) (f := fun (x : Bool) => x) ra1 e2 Fld.self ti4 rfl rfl rfl rfl rfl) rfl [.tmp 10] rfl ⟨(hf 5 (mb rfl)), trivial⟩) rfl (fun _ h => lds_one h) (fun _ => rfl)⟩, Plan.goal_run fun vs hf => ⟨wants_none rfl, OpT.conv (OpT.evs (ev' := evL [(11, .bool x1)]) (opT_assign (v := .bool x1) rfl rfl) rfl [.tmp 11] rfl ⟨(hf 6 (mb rfl)), trivial⟩) rfl (fun _ h => Eq.trans h rfl) (fun _ => rfl)⟩, trivial⟩
  intro vs a2 w2 hf A2 S2
  clear A1 S1
  replace A2 := A2.pick' (L' := [(4, .bool x1)]) ⟨(congrArg some (show _ = _ from (hf 7 (Nat.le_of_ble_eq_true rfl)))), trivial⟩
  replace S2 : St I w0 w2 [F] := S2
  clear hf vs
  refine nrm (wp_ret ?_)
  obtain rfl := Option.some.inj hm
  exact ret_1 A2 rfl (res_tmp A2 rfl) ⟨_, rfl, rfl, _, Hp.le.rfl, St.sel (S2) 1 [0] rfl rfl⟩
theorem c_i_Automaton_accepts (p0a : Int × (List Bool) × (List (List Int))) (p1s : Int) (r : Bool) (hm : m_i_Automaton_accepts p0a p1s = some r) {I : Hp} {w0 : World} (va0 : Value) (va1 : Value) (ra0 : (rSlice 4 rBool).rd I [va0] p0a.2.1) (ra1 : (rSlice 34 (rSlice 3 rInt)).rd I [va1] p0a.2.2) : Con Try.prog 99 #[.agg #[.int .i64 p0a.1, va0, va1], .int .i64 p1s] I w0 [] (fun v => v = .bool r) (fun v => []) := by
  refine con_of_wp (n := 14) [(0, .agg #[.int .i64 p0a.1, va0, va1]), (1, .int .i64 p1s)] Try.func99 rfl rfl (Nat.le_of_ble_eq_true rfl) (args_all ⟨rfl, rfl, trivial⟩) (fun F w a ha hs => ?_) (fun v => trivial)
  unfold m_i_Automaton_accepts at hm
  refine wp_seq (wp_region_lit (rn ha hs (sop (opT_box (u := .agg #[.int .i64 p0a.1, va0, va1]) (l := [.int .i64 p0a.1, va0, va1]) rfl rfl rfl) (List.Perm.refl _) rfl rfl ?_)))
  rintro _ a1 w1 ⟨g1, rfl⟩ A1 (S1 : St I w0 w1 [Ch.blk g1 [.int .i64 p0a.1, va0, va1] 27, F])
  clear ha hs a w
  refine rn A1 S1 (sv (opT_assign (v := .bool false) rfl rfl) rfl rfl (enR (L' := [(1, .int .i64 p1s), (2, .pointer (some ⟨g1, 0, none⟩))]) rfl ?_))
  clear A1 S1 a1 w1;intro a2 w2 A2 S2
  refine nrm (wp_seq (wp_region_lit (rn A2 S2 (sv (opT_move (v := .int .i64 p1s) rfl rfl) rfl rfl (sv (opT_cmp (k := .i64) (m := p1s) (n := 0) (c := decide (p1s ≥ 0)) rfl rfl rfl rfl rfl) rfl rfl (sv (opT_move (v := .bool (decide (p1s ≥ 0))) rfl rfl) rfl rfl ?_))))))
  rcases two (decide (p1s ≥ 0)) with hb1 | hb1
  · replace hm := ifFe hb1 hm
    refine ssk (g := 2) (d := 7) (want := true) (b := decide (p1s ≥ 0)) rfl rfl rfl hb1 rfl (ssk (g := 2) (d := 7) (want := true) (b := decide (p1s ≥ 0)) rfl rfl rfl hb1 rfl (ssk (g := 2) (d := 7) (want := true) (b := decide (p1s ≥ 0)) rfl rfl rfl hb1 rfl (ssk (g := 2) (d := 7) (want := true) (b := decide (p1s ≥ 0)) rfl rfl rfl hb1 rfl (ssk (g := 2) (d := 7) (want := true) (b := decide (p1s ≥ 0)) rfl rfl rfl hb1 rfl (sv (opT_pick (b := decide (p1s ≥ 0)) (v := .bool false) rfl rfl (ifF hb1)) rfl rfl (sv (opT_assign (v := .bool false) rfl rfl) rfl rfl (enR (L' := [(4, .bool false)]) rfl ?_)))))))
    clear A2 S2 a2 w2;intro a3 w3 A3 S3
    refine nrm (wp_ret ?_)
    obtain rfl := Option.some.inj hm
    exact ret_1 A3 rfl (res_tmp A3 rfl) ⟨_, rfl, rfl, _, Hp.le.rfl, St.sel (S3) 2 [1] rfl rfl⟩
  replace hm := ifTe hb1 hm
  refine svg (g := 2) (d := 7) (want := true) (b := decide (p1s ≥ 0)) rfl rfl rfl hb1 (opT_field_addr (g := g1) (b := 0) tf27_1 rfl rfl) rfl (sopg (g := 2) (d := 7) (want := true) (b := decide (p1s ≥ 0)) rfl rfl rfl hb1 (opT_load_blk (g := g1) (off := 1) (E := 27) (l := [.int .i64 p0a.1, va0, va1]) (d := [va0]) (u := va0) ti22 rfl rfl rfl rfl rfl rfl) (perm_front (i := 0) rfl) rfl ?_)
  rintro u a4 w4 hf A4 (S4 : St I w0 w4 [Ch.blk g1 [.int .i64 p0a.1, va0, va1] 27, F])
  obtain rfl := Eq.symm hf
  clear A2 S2 a2 w2
  refine rn A4 S4 (svg (g := 2) (d := 7) (want := true) (b := decide (p1s ≥ 0)) rfl rfl rfl hb1 (opT_move (v := .int .i64 p1s) rfl rfl) rfl ?_)
  obtain ⟨x1, e1, hm⟩ := bind_some hm
  refine svg (g := 2) (d := 7) (want := true) (b := decide (p1s ≥ 0)) rfl rfl rfl hb1 (opT_index_hd (xs := p0a.2.1) (i := p1s) (n := 1) (Hd.of_rd ra0) Try.underlying22 ti4 rfl rfl rfl (getI_in e1)) rfl (so0g (g := 2) (d := 7) (want := true) (b := decide (p1s ≥ 0)) rfl rfl rfl hb1 (opT_load_el (S := rBool) (xs := p0a.2.1) (a := x1) (i := p1s) (k := 1) (off := 0) (f := fun (x : Bool) => x) ra0 e1 Fld.self ti4 rfl rfl rfl rfl rfl) rfl ?_)
  rintro u a5 w5 hf A5 S5
  obtain rfl := lds_one hf
  clear A4 S4 a4 w4
  refine rn A5 S5 (sv (opT_pick (b := decide (p1s ≥ 0)) (v := .bool x1) rfl rfl (ifT hb1)) rfl rfl (sv (opT_assign (v := .bool x1) rfl rfl) rfl rfl (enR (L' := [(4, .bool x1)]) rfl ?_)))
  clear A5 S5 a5 w5;intro a6 w6 A6 S6
  refine nrm (wp_ret ?_)
  obtain rfl := Option.some.inj hm
  exact ret_1 A6 rfl (res_tmp A6 rfl) ⟨_, rfl, rfl, _, Hp.le.rfl, St.sel (S6) 2 [1] rfl rfl⟩
theorem c_w_szIntS (p0a : List Int) (p1left : Int) (r : Int) (hm : m_w_szIntS p0a p1left = some r) {I : Hp} {w0 : World} (va0 : Value) (ra0 : (rSlice 3 rInt).rd I [va0] p0a) : Con Try.prog 63 #[va0, .int .i64 p1left] I w0 [] (fun v => v = .int .i64 r) (fun v => []) := by
  refine con_of_wp (n := 12) [(0, va0), (1, .int .i64 p1left)] Try.func63 rfl rfl (Nat.le_of_ble_eq_true rfl) (args_all ⟨rfl, rfl, trivial⟩) (fun F w a ha hs => ?_) (fun v => trivial)
  unfold m_w_szIntS at hm
  refine wp_seq (wp_region_lit (rn ha hs (sv (opT_assign (v := .int .i64 0) rfl rfl) rfl rfl (enR (L' := [(0, va0), (1, .int .i64 p1left)]) rfl ?_))))
  clear ha hs a w;intro a1 w1 A1 S1
  refine nrm (wp_seq (wp_region_lit (rn A1 S1 (sv (opT_move (v := .int .i64 p1left) rfl rfl) rfl rfl (sv (opT_move (v := va0) rfl rfl) rfl rfl (sv (opT_len_hd (v := va0) (n := p0a.length) (Hd.of_rd ra0) Try.underlying34 rfl rfl) rfl rfl (sv (opT_sub (m := p1left) (n := (p0a.length : Int)) rfl rfl rfl) rfl rfl (sv (opT_assign (v := .int .i64 (IntKind.i64.wrap (p1left - (p0a.length : Int)))) rfl rfl) rfl rfl (enR (L' := [(1, .int .i64 (IntKind.i64.wrap (p1left - (p0a.length : Int))))]) rfl ?_)))))))))
  clear A1 S1 a1 w1;intro a2 w2 A2 S2
  refine nrm (wp_seq (wp_seq (wp_region_lit (rn A2 S2 (sv (opT_move (v := .int .i64 (IntKind.i64.wrap (p1left - (p0a.length : Int)))) rfl rfl) rfl rfl (sv (opT_cmp (k := .i64) (m := IntKind.i64.wrap (p1left - (p0a.length : Int))) (n := 0) (c := decide (IntKind.i64.wrap (p1left - (p0a.length : Int)) < 0)) rfl rfl rfl rfl rfl) rfl rfl (enR (L' := [(1, .int .i64 (IntKind.i64.wrap (p1left - (p0a.length : Int)))), (10, .bool (decide (IntKind.i64.wrap (p1left - (p0a.length : Int)) < 0)))]) rfl ?_)))))))
  clear A2 S2 a2 w2;intro a3 w3 A3 S3
  refine nrm ?_
  rcases two (decide (IntKind.i64.wrap (p1left - (p0a.length : Int)) < 0)) with hb1 | hb1
  · replace hm := ifFe hb1 hm
    refine cnd_false (b := decide (IntKind.i64.wrap (p1left - (p0a.length : Int)) < 0)) A3 rfl rfl hb1 ?_
    refine wp_skip (nrm (wp_seq (wp_region_lit (rn A3 S3 (sv (opT_move (v := .int .i64 (IntKind.i64.wrap (p1left - (p0a.length : Int)))) rfl rfl) rfl rfl (sv (opT_assign (v := .int .i64 (IntKind.i64.wrap (p1left - (p0a.length : Int)))) rfl rfl) rfl rfl (enR (L' := [(4, .int .i64 (IntKind.i64.wrap (p1left - (p0a.length : Int))))]) rfl ?_)))))))
    clear A3 S3 a3 w3;intro a4 w4 A4 S4
    refine nrm (wp_ret ?_)
    obtain rfl := Option.some.inj hm
    exact ret_1 A4 rfl (res_tmp A4 rfl) ⟨_, rfl, rfl, _, Hp.le.rfl, St.sel (S4) 1 [0] rfl rfl⟩
  replace hm := ifTe hb1 hm
  refine cnd_true (b := decide (IntKind.i64.wrap (p1left - (p0a.length : Int)) < 0)) A3 rfl rfl hb1 ?_
  refine wp_seq (wp_region_lit (rn A3 S3 (sv (opT_assign (v := .int .i64 (-1)) rfl rfl) rfl rfl (enR (L' := [(4, .int .i64 (-1))]) rfl ?_))))
  clear A3 S3 a3 w3;intro a5 w5 A5 S5
  refine nrm (wp_ret (thenR ?_))
  obtain rfl := Option.some.inj hm
  exact ret_1 A5 rfl (res_tmp A5 rfl) ⟨_, rfl, rfl, _, Hp.le.rfl, St.sel (S5) 1 [0] rfl rfl⟩
theorem c_i_together (p0a : Int × (List Bool) × (List (List Int))) (p1b : Int × (List Bool) × (List (List Int))) (r : Unit) (hm : m_i_together p0a p1b = some r) {I : Hp} {w0 : World} (va0 : Value) (va1 : Value) (va2 : Value) (va3 : Value) (ra0 : (rSlice 4 rBool).rd I [va0] p0a.2.1) (ra1 : (rSlice 34 (rSlice 3 rInt)).rd I [va1] p0a.2.2) (ra2 : (rSlice 4 rBool).rd I [va2] p1b.2.1) (ra3 : (rSlice 34 (rSlice 3 rInt)).rd I [va3] p1b.2.2) : Con Try.prog 123 #[.agg #[.int .i64 p0a.1, va0, va1], .agg #[.int .i64 p1b.1, va2, va3]] I w0 [] (fun v => ∃ g0 g1 : Nat, v = .func (.func 165) #[] #[.pointer (some ⟨g0, 0, none⟩), .pointer (some ⟨g1, 0, none⟩)]) (fun v => [Ch.blk (cg v 0) [.int .i64 p0a.1, va0, va1] 27, Ch.blk (cg v 1) [.int .i64 p1b.1, va2, va3] 27]) := by
  refine con_of_wp (n := 6) [(0, .agg #[.int .i64 p0a.1, va0, va1]), (1, .agg #[.int .i64 p1b.1, va2, va3])] Try.func123 rfl rfl (Nat.le_of_ble_eq_true rfl) (args_all ⟨rfl, rfl, trivial⟩) (fun F w a ha hs => ?_) (fun v => ⟨dp_blk, dp_blk, trivial⟩)
  unfold m_i_together at hm
  refine wp_seq (wp_region_lit (rn ha hs (sop (opT_box (u := .agg #[.int .i64 p0a.1, va0, va1]) (l := [.int .i64 p0a.1, va0, va1]) rfl rfl rfl) (List.Perm.refl _) rfl rfl ?_)))
  rintro _ a1 w1 ⟨g1, rfl⟩ A1 (S1 : St I w0 w1 [Ch.blk g1 [.int .i64 p0a.1, va0, va1] 27, F])
  clear ha hs a w
  refine rn A1 S1 (sop (opT_box (u := .agg #[.int .i64 p1b.1, va2, va3]) (l := [.int .i64 p1b.1, va2, va3]) rfl rfl rfl) (List.Perm.refl _) rfl rfl ?_)
  rintro _ a2 w2 ⟨g2, rfl⟩ A2 (S2 : St I w0 w2 [Ch.blk g2 [.int .i64 p1b.1, va2, va3] 27, Ch.blk g1 [.int .i64 p0a.1, va0, va1] 27, F])
  clear A1 S1 a1 w1
  refine rn A2 S2 (sv (opT_assign (v := .nilFunc) rfl rfl) rfl rfl (enR (L' := [(2, .pointer (some ⟨g1, 0, none⟩)), (3, .pointer (some ⟨g2, 0, none⟩))]) rfl ?_))
  clear A2 S2 a2 w2;intro a3 w3 A3 S3
  refine nrm (wp_seq (wp_region_lit (rn A3 S3 (sv (opT_make_func (v := .func (.func 165) #[] #[.pointer (some ⟨g1, 0, none⟩), .pointer (some ⟨g2, 0, none⟩)]) rfl rfl) rfl rfl (sv (opT_assign (v := .func (.func 165) #[] #[.pointer (some ⟨g1, 0, none⟩), .pointer (some ⟨g2, 0, none⟩)]) rfl rfl) rfl rfl (enR (L' := [(4, .func (.func 165) #[] #[.pointer (some ⟨g1, 0, none⟩), .pointer (some ⟨g2, 0, none⟩)])]) rfl ?_))))))
  clear A3 S3 a3 w3;intro a4 w4 A4 S4
  exact nrm (wp_ret (ret_1 A4 rfl (res_tmp A4 rfl) ⟨_, rfl, ⟨_, _, rfl⟩, _, Hp.le.rfl, St.sel (S4) 3 [1, 0, 2] rfl rfl⟩))
end Go.Proofs.Ytcihbmdppgpmjaa.D
