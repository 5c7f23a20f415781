/- Printed by dec.py: models of functions and the walks that show them. -/
import Derived.Test.YtcihbmdppgpmjaaUm
set_option linter.unusedVariables false
set_option linter.unusedSimpArgs false
set_option linter.unnecessarySimpa false
set_option maxRecDepth 100000
namespace Go.Proofs.Ytcihbmdppgpmjaa.D
open Go.RowKit
set_option maxHeartbeats 8000000 in
theorem c_i_numbered_int (p0 : Int) (p1 : Int) (p2 : Int → Option Bool) (p3 : Int → Int → Option (Int × Bool)) (r : (Int × (List Bool) × (List (List Int))) × Bool) (hm : m_i_numbered_int p0 p1 p2 p3 = some r) {I : Hp} {w0 : World} (va0 : Value) (va1 : Value) (ra0 : fn115 w0 I va0 p2) (ra1 : fn117 w0 I va1 p3) : Con Try.prog 98 #[.int .i64 p0, .int .i64 p1, va0, va1] I w0 [] (fun v => ∃ h0 h1 : Value, v = .tuple #[.agg #[.int .i64 r.1.1, h0, h1], .bool r.2]) (fun v => [Ch.own (rSlice 4 rBool) [vg v [0, 1]] r.1.2.1, Ch.own (rSlice 34 (rSlice 3 rInt)) [vg v [0, 2]] r.1.2.2]) := by
  refine con_of_wp (n := 96) [(0, .int .i64 p0), (1, .int .i64 p1), (2, va0), (3, va1)] Try.func98 rfl rfl (Nat.le_of_ble_eq_true rfl) (args_all ⟨rfl, rfl, rfl, rfl, trivial⟩) (fun F w a ha hs => ?_) (fun v => ⟨dp_own (dp_slice dp_bool), dp_own (dp_slice (dp_slice dp_int)), trivial⟩)
  unfold m_i_numbered_int at hm
  refine wp_seq ?_
  refine wp_region_lit ?_
  refine seq_op ha hs rfl (opT_alloc (l := [.int .i64 0, .slice none 0 0, .slice none 0 0]) tz27 rfl rfl) (List.Perm.refl _) rfl ?_
  rintro _ a1 w1 ⟨g1, rfl⟩ A1 (S1 : St I w0 w1 [Ch.blk g1 [.int .i64 0, .slice none 0 0, .slice none 0 0] 27, F])
  clear ha hs a w
  refine sv A1 S1 (opT_assign (v := .bool false) rfl rfl) rfl rfl ?_
  clear A1 S1 a1 w1;intro a2 w2 A2 S2
  refine wpList_nil ?_
  replace A2 := A2.pick' (L' := [(0, .int .i64 p0), (1, .int .i64 p1), (2, va0), (3, va1), (8, .pointer (some ⟨g1, 0, none⟩))]) ⟨rfl, rfl, rfl, rfl, rfl, trivial⟩
  refine nrm ?_
  refine wp_seq ?_
  refine wp_region_lit ?_
  refine sv A2 S2 (opT_move (v := .int .i64 p0) rfl rfl) rfl rfl ?_
  clear A2 S2 a2 w2;intro a3 w3 A3 S3
  refine seq_op A3 S3 rfl (opT_lit_cpy (E := 3) (R := rInt) (S := rInt) [(.int .i64 p0, [.int .i64 p0])] [p0] cpy_int (rd_all ⟨rfl, trivial⟩) Try.underlying34 tz3 (by decide) rfl (by decide) (by decide) rfl rfl rfl rfl (us_all ⟨⟨rfl, rfl⟩, trivial⟩)) (List.Perm.refl _) rfl ?_
  rintro v1 a4 w4 - A4 (S4 : St I w0 w4 [Ch.own (rSlice 3 rInt) [v1] ([p0]), Ch.blk g1 [.int .i64 0, .slice none 0 0, .slice none 0 0] 27, F])
  clear A3 S3 a3 w3
  refine sv A4 S4 (opT_assign (v := v1) rfl rfl) rfl rfl ?_
  clear A4 S4 a4 w4;intro a5 w5 A5 S5
  refine wpList_nil ?_
  replace A5 := A5.pick' (L' := [(0, .int .i64 p0), (1, .int .i64 p1), (2, va0), (3, va1), (8, .pointer (some ⟨g1, 0, none⟩)), (10, v1)]) ⟨rfl, rfl, rfl, rfl, rfl, rfl, trivial⟩
  refine nrm ?_
  refine wp_seq ?_
  refine wp_region_lit ?_
  refine seq_op A5 S5 rfl (opT_makeMap (k := 3) (e := 3) (lit := iLit) (ok := iOk) (elit := iLit) (z := 0) rfl) (List.Perm.refl _) rfl ?_
  rintro v2 a6 w6 - A6 (S6 : St I w0 w6 [Ch.mp Try.prog 3 3 iLit iOk iLit 0 v2 ([] : List (Int × Int)), Ch.own (rSlice 3 rInt) [v1] ([p0]), Ch.blk g1 [.int .i64 0, .slice none 0 0, .slice none 0 0] 27, F])
  clear A5 S5 a5 w5
  refine sv A6 S6 (opT_move (v := .int .i64 p0) rfl rfl) rfl rfl ?_
  clear A6 S6 a6 w6;intro a7 w7 A7 S7
  obtain ⟨m1, hk1, hm⟩ := bind_some hm
  refine seq_op A7 S7 rfl (opT_putMap (v := v2) (q := p0) (i := 0) kk3 ek3 Try.underlying163 (.inr rfl) rfl rfl rfl hk1) (perm_front (i := 0) rfl) rfl ?_
  rintro _ a8 w8 - A8 (S8 : St I w0 w8 [Ch.mp Try.prog 3 3 iLit iOk iLit 0 v2 m1, Ch.own (rSlice 3 rInt) [v1] ([p0]), Ch.blk g1 [.int .i64 0, .slice none 0 0, .slice none 0 0] 27, F])
  clear A7 S7 a7 w7
  refine sv A8 S8 (opT_move (v := v2) rfl rfl) rfl rfl ?_
  clear A8 S8 a8 w8;intro a9 w9 A9 S9
  refine sv A9 S9 (opT_assign (v := v2) rfl rfl) rfl rfl ?_
  clear A9 S9 a9 w9;intro a10 w10 A10 S10
  refine wpList_nil ?_
  replace A10 := A10.pick' (L' := [(1, .int .i64 p1), (2, va0), (3, va1), (8, .pointer (some ⟨g1, 0, none⟩)), (10, v1), (11, v2)]) ⟨rfl, rfl, rfl, rfl, rfl, rfl, trivial⟩
  refine nrm ?_
  refine wp_seq ?_
  refine wp_region_lit ?_
  refine sv A10 S10 (opT_build (zl := [.int .i64 0, .slice none 0 0, .slice none 0 0]) (r := [.int .i64 0, .slice none 0 0, .slice none 0 0]) [] tb27 tz27 rfl rfl trivial rfl) rfl rfl ?_
  clear A10 S10 a10 w10;intro a11 w11 A11 S11
  refine seq_op A11 S11 rfl (opT_alloc (l := [.int .i64 0, .slice none 0 0, .slice none 0 0]) tz27 rfl rfl) (List.Perm.refl _) rfl ?_
  rintro _ a12 w12 ⟨g2, rfl⟩ A12 (S12 : St I w0 w12 [Ch.blk g2 [.int .i64 0, .slice none 0 0, .slice none 0 0] 27, Ch.mp Try.prog 3 3 iLit iOk iLit 0 v2 m1, Ch.own (rSlice 3 rInt) [v1] ([p0]), Ch.blk g1 [.int .i64 0, .slice none 0 0, .slice none 0 0] 27, F])
  clear A11 S11 a11 w11
  refine seq_op A12 S12 rfl (opT_store_blk (g := g2) (off := 0) (l := [.int .i64 0, .slice none 0 0, .slice none 0 0]) (d := [.int .i64 0, .slice none 0 0, .slice none 0 0]) (E := 27) (u := .agg #[.int .i64 0, .slice none 0 0, .slice none 0 0]) ti27 rfl rfl rfl rfl rfl (allC rfl (allC rfl (allC rfl allN))) (Nat.le_of_ble_eq_true rfl)) (perm_front (i := 0) rfl) rfl ?_
  rintro _ a13 w13 - A13 (S13 : St I w0 w13 [Ch.blk g2 [.int .i64 0, .slice none 0 0, .slice none 0 0] 27, Ch.mp Try.prog 3 3 iLit iOk iLit 0 v2 m1, Ch.own (rSlice 3 rInt) [v1] ([p0]), Ch.blk g1 [.int .i64 0, .slice none 0 0, .slice none 0 0] 27, F])
  clear A12 S12 a12 w12
  refine wpList_nil ?_
  replace A13 := A13.pick' (L' := [(1, .int .i64 p1), (2, va0), (3, va1), (8, .pointer (some ⟨g1, 0, none⟩)), (10, v1), (11, v2), (12, .pointer (some ⟨g2, 0, none⟩))]) ⟨rfl, rfl, rfl, rfl, rfl, rfl, rfl, trivial⟩
  refine nrm ?_
  refine wp_seq ?_
  refine wp_seq ?_
  refine wp_region_lit ?_
  refine sv A13 S13 (opT_assign (v := .int .i64 0) rfl rfl) rfl rfl ?_
  clear A13 S13 a13 w13;intro a14 w14 A14 S14
  refine wpList_nil ?_
  replace A14 := A14.pick' (L' := [(1, .int .i64 p1), (2, va0), (3, va1), (8, .pointer (some ⟨g1, 0, none⟩)), (10, v1), (11, v2), (12, .pointer (some ⟨g2, 0, none⟩)), (13, .int .i64 0)]) ⟨rfl, rfl, rfl, rfl, rfl, rfl, rfl, rfl, trivial⟩
  refine nrm ?_
  obtain ⟨o23, hl3, hc21⟩ := bindL_some hm
  refine wp_cut (fun a w => ∃ s30 : (List Int) × (List (Int × Int)) × Int × (List Bool) × (List (List Int)), o23 = .brk s30 ∧ ∃ v148 v149 : Value, Agr 96 a [(8, .pointer (some ⟨g1, 0, none⟩)), (12, .pointer (some ⟨g2, 0, none⟩))] ∧ St I w0 w [Ch.own (rSlice 4 rBool) [v148] s30.2.2.2.1, Ch.own (rSlice 34 (rSlice 3 rInt)) [v149] s30.2.2.2.2, Ch.blk g1 [.int .i64 0, .slice none 0 0, .slice none 0 0] 27, Ch.blk g2 [.int .i64 0, v148, v149] 27, F]) ?_ ?_
  · refine wp_block (wp_loopM (R := (Int × (List Bool) × (List (List Int))) × Bool) (S := (List Int) × (List (Int × Int)) × Int × (List Bool) × (List (List Int))) (fun s29 a w => ∃ v150 v151 v152 : Value, Agr 96 a [(1, .int .i64 p1), (2, va0), (3, va1), (8, .pointer (some ⟨g1, 0, none⟩)), (10, v150), (11, v2), (12, .pointer (some ⟨g2, 0, none⟩)), (13, .int .i64 s29.2.2.1)] ∧ St I w0 w [Ch.own (rSlice 3 rInt) [v150] s29.1, Ch.mp Try.prog 3 3 iLit iOk iLit 0 v2 s29.2.1, Ch.own (rSlice 4 rBool) [v151] s29.2.2.2.1, Ch.own (rSlice 34 (rSlice 3 rInt)) [v152] s29.2.2.2.2, Ch.blk g1 [.int .i64 0, .slice none 0 0, .slice none 0 0] 27, Ch.blk g2 [.int .i64 0, v151, v152] 27, F]) hl3 ?_ ?_)
    · exact ⟨v1, (.slice none 0 0), (.slice none 0 0), A14.pick' ⟨rfl, rfl, rfl, rfl, rfl, rfl, rfl, rfl, trivial⟩, St.sel (St.nil (St.nil S14)) 7 [4, 3, 1, 0, 5, 2, 6] rfl rfl⟩
    · rintro s29 o24 hm hf3 a823 w823 ⟨v150, v151, v152, A823, S823⟩
      unfold m_i_numbered_int_l0 at hm
      refine wp_seq ?_
      refine wp_seq ?_
      refine wp_region_lit ?_
      refine sv A823 S823 (opT_move (v := .int .i64 s29.2.2.1) rfl rfl) rfl rfl ?_
      clear A823 S823 a823 w823;intro a824 w824 A824 S824
      refine sv A824 S824 (opT_move (v := v150) rfl rfl) rfl rfl ?_
      clear A824 S824 a824 w824;intro a825 w825 A825 S825
      refine sv A825 S825 (opT_len_hd (v := v150) (n := s29.1.length) (St.hd S825 0 rfl).1 Try.underlying34 rfl rfl) rfl rfl ?_
      clear A825 S825 a825 w825;intro a826 w826 A826 S826
      refine sv A826 S826 (opT_cmp (k := .i64) (m := s29.2.2.1) (n := (s29.1.length : Int)) (c := decide (s29.2.2.1 < (s29.1.length : Int))) rfl rfl rfl rfl rfl) rfl rfl ?_
      clear A826 S826 a826 w826;intro a827 w827 A827 S827
      refine wpList_nil ?_
      replace A827 := A827.pick' (L' := [(1, .int .i64 p1), (2, va0), (3, va1), (8, .pointer (some ⟨g1, 0, none⟩)), (10, v150), (11, v2), (12, .pointer (some ⟨g2, 0, none⟩)), (13, .int .i64 s29.2.2.1), (29, .bool (decide (s29.2.2.1 < (s29.1.length : Int))))]) ⟨rfl, rfl, rfl, rfl, rfl, rfl, rfl, rfl, rfl, trivial⟩
      refine nrm ?_
      rcases two (decide (s29.2.2.1 < (s29.1.length : Int))) with hb47 | hb47
      · replace hm := ifFe hb47 hm
        refine cnd_false (b := decide (s29.2.2.1 < (s29.1.length : Int))) A827 rfl rfl hb47 ?_
        refine wp_exit ?_
        refine thenX ?_
        refine thenX ?_
        refine ex_in ?_
        refine nrm ?_
        exact ⟨_, loopBrk hm hf3, ⟨v151, v152, A827.pick' ⟨rfl, rfl, trivial⟩, St.sel S827 7 [2, 3, 4, 5, 6] rfl rfl⟩⟩
      · replace hm := ifTe hb47 hm
        refine cnd_true (b := decide (s29.2.2.1 < (s29.1.length : Int))) A827 rfl rfl hb47 ?_
        refine wp_skip ?_
        refine nrm ?_
        refine wp_seq ?_
        refine wp_block ?_
        refine wp_seq ?_
        refine wp_region_lit ?_
        refine seq_op A827 S827 rfl (opT_lit0 (E := 3) (R := rInt) Try.underlying34 ti3 rfl) (List.Perm.refl _) rfl ?_
        rintro v153 a828 w828 - A828 (S828 : St I w0 w828 [Ch.own (rSlice 3 rInt) [v153] ([] : List Int), Ch.own (rSlice 3 rInt) [v150] s29.1, Ch.mp Try.prog 3 3 iLit iOk iLit 0 v2 s29.2.1, Ch.own (rSlice 4 rBool) [v151] s29.2.2.2.1, Ch.own (rSlice 34 (rSlice 3 rInt)) [v152] s29.2.2.2.2, Ch.blk g1 [.int .i64 0, .slice none 0 0, .slice none 0 0] 27, Ch.blk g2 [.int .i64 0, v151, v152] 27, F])
        clear A827 S827 a827 w827
        refine sv A828 S828 (opT_assign (v := v153) rfl rfl) rfl rfl ?_
        clear A828 S828 a828 w828;intro a829 w829 A829 S829
        refine wpList_nil ?_
        replace A829 := A829.pick' (L' := [(1, .int .i64 p1), (2, va0), (3, va1), (8, .pointer (some ⟨g1, 0, none⟩)), (10, v150), (11, v2), (12, .pointer (some ⟨g2, 0, none⟩)), (13, .int .i64 s29.2.2.1), (14, v153)]) ⟨rfl, rfl, rfl, rfl, rfl, rfl, rfl, rfl, rfl, trivial⟩
        refine nrm ?_
        refine wp_seq ?_
        refine wp_seq ?_
        refine wp_region_lit ?_
        refine sv A829 S829 (opT_assign (v := .int .i64 0) rfl rfl) rfl rfl ?_
        clear A829 S829 a829 w829;intro a830 w830 A830 S830
        refine wpList_nil ?_
        replace A830 := A830.pick' (L' := [(1, .int .i64 p1), (2, va0), (3, va1), (8, .pointer (some ⟨g1, 0, none⟩)), (10, v150), (11, v2), (12, .pointer (some ⟨g2, 0, none⟩)), (13, .int .i64 s29.2.2.1), (14, v153), (15, .int .i64 0)]) ⟨rfl, rfl, rfl, rfl, rfl, rfl, rfl, rfl, rfl, rfl, trivial⟩
        refine nrm ?_
        obtain ⟨o31, hl4, hc28⟩ := bindL_some hm
        refine wp_cut (fun a w => ∃ s40 : (List Int) × (List (Int × Int)) × (List Int) × Int, o31 = .brk s40 ∧ ∃ v196 v197 : Value, Agr 96 a [(1, .int .i64 p1), (2, va0), (3, va1), (8, .pointer (some ⟨g1, 0, none⟩)), (10, v196), (11, v2), (12, .pointer (some ⟨g2, 0, none⟩)), (13, .int .i64 s29.2.2.1), (14, v197)] ∧ St I w0 w [Ch.own (rSlice 3 rInt) [v196] s40.1, Ch.mp Try.prog 3 3 iLit iOk iLit 0 v2 s40.2.1, Ch.own (rSlice 3 rInt) [v197] s40.2.2.1, Ch.blk g1 [.int .i64 0, .slice none 0 0, .slice none 0 0] 27, Ch.blk g2 [.int .i64 0, v151, v152] 27, Ch.own (rSlice 4 rBool) [v151] s29.2.2.2.1, Ch.own (rSlice 34 (rSlice 3 rInt)) [v152] s29.2.2.2.2, F]) ?_ ?_
        · refine wp_block (wp_loopM (R := (Int × (List Bool) × (List (List Int))) × Bool) (S := (List Int) × (List (Int × Int)) × (List Int) × Int) (fun s39 a w => ∃ v198 v199 : Value, Agr 96 a [(1, .int .i64 p1), (2, va0), (3, va1), (8, .pointer (some ⟨g1, 0, none⟩)), (10, v198), (11, v2), (12, .pointer (some ⟨g2, 0, none⟩)), (13, .int .i64 s29.2.2.1), (14, v199), (15, .int .i64 s39.2.2.2)] ∧ St I w0 w [Ch.own (rSlice 3 rInt) [v198] s39.1, Ch.mp Try.prog 3 3 iLit iOk iLit 0 v2 s39.2.1, Ch.own (rSlice 3 rInt) [v199] s39.2.2.1, Ch.blk g1 [.int .i64 0, .slice none 0 0, .slice none 0 0] 27, Ch.blk g2 [.int .i64 0, v151, v152] 27, Ch.own (rSlice 4 rBool) [v151] s29.2.2.2.1, Ch.own (rSlice 34 (rSlice 3 rInt)) [v152] s29.2.2.2.2, F]) hl4 ?_ ?_)
          · exact ⟨v150, v153, A830.pick' ⟨rfl, rfl, rfl, rfl, rfl, rfl, rfl, rfl, rfl, rfl, trivial⟩, St.sel S830 8 [1, 2, 0, 5, 6, 3, 4, 7] rfl rfl⟩
          · rintro s39 o32 hm hf4 a1083 w1083 ⟨v198, v199, A1083, S1083⟩
            unfold m_i_numbered_int_l1 at hm
            refine wp_seq ?_
            refine wp_seq ?_
            refine wp_region_lit ?_
            refine sv A1083 S1083 (opT_move (v := .int .i64 s39.2.2.2) rfl rfl) rfl rfl ?_
            clear A1083 S1083 a1083 w1083;intro a1084 w1084 A1084 S1084
            refine sv A1084 S1084 (opT_cmp (k := .i64) (m := s39.2.2.2) (n := 9) (c := decide (s39.2.2.2 < 9)) rfl rfl rfl rfl rfl) rfl rfl ?_
            clear A1084 S1084 a1084 w1084;intro a1085 w1085 A1085 S1085
            refine wpList_nil ?_
            replace A1085 := A1085.pick' (L' := [(1, .int .i64 p1), (2, va0), (3, va1), (8, .pointer (some ⟨g1, 0, none⟩)), (10, v198), (11, v2), (12, .pointer (some ⟨g2, 0, none⟩)), (13, .int .i64 s29.2.2.1), (14, v199), (15, .int .i64 s39.2.2.2), (34, .bool (decide (s39.2.2.2 < 9)))]) ⟨rfl, rfl, rfl, rfl, rfl, rfl, rfl, rfl, rfl, rfl, rfl, trivial⟩
            refine nrm ?_
            rcases two (decide (s39.2.2.2 < 9)) with hb62 | hb62
            · replace hm := ifFe hb62 hm
              refine cnd_false (b := decide (s39.2.2.2 < 9)) A1085 rfl rfl hb62 ?_
              refine wp_exit ?_
              refine thenX ?_
              refine thenX ?_
              refine ex_in ?_
              refine nrm ?_
              exact ⟨_, loopBrk hm hf4, ⟨v198, v199, A1085.pick' ⟨rfl, rfl, rfl, rfl, rfl, rfl, rfl, rfl, rfl, trivial⟩, St.sel S1085 8 [0, 1, 2, 3, 4, 5, 6, 7] rfl rfl⟩⟩
            · replace hm := ifTe hb62 hm
              refine cnd_true (b := decide (s39.2.2.2 < 9)) A1085 rfl rfl hb62 ?_
              refine wp_skip ?_
              refine nrm ?_
              obtain ⟨s42, hj26, hm⟩ := bind_some hm
              refine wp_seq_cut (fun a w => ∃ v209 v210 : Value, Agr 96 a [(1, .int .i64 p1), (2, va0), (3, va1), (8, .pointer (some ⟨g1, 0, none⟩)), (10, v209), (11, v2), (12, .pointer (some ⟨g2, 0, none⟩)), (13, .int .i64 s29.2.2.1), (14, v210), (15, .int .i64 s39.2.2.2)] ∧ St I w0 w [Ch.own (rSlice 3 rInt) [v209] s42.1, Ch.mp Try.prog 3 3 iLit iOk iLit 0 v2 s42.2.1, Ch.own (rSlice 3 rInt) [v210] s42.2.2, Ch.blk g1 [.int .i64 0, .slice none 0 0, .slice none 0 0] 27, Ch.blk g2 [.int .i64 0, v151, v152] 27, Ch.own (rSlice 4 rBool) [v151] s29.2.2.2.1, Ch.own (rSlice 34 (rSlice 3 rInt)) [v152] s29.2.2.2.2, F]) ?_ ?_
              · replace hm := hj26
                refine wp_block ?_
                refine wp_seq ?_
                refine wp_region_lit ?_
                refine sv A1085 S1085 (opT_move (v := va1) rfl rfl) rfl rfl ?_
                clear A1085 S1085 a1085 w1085;intro a1146 w1146 A1146 S1146
                refine sv A1146 S1146 (opT_move (v := v198) rfl rfl) rfl rfl ?_
                clear A1146 S1146 a1146 w1146;intro a1147 w1147 A1147 S1147
                refine sv A1147 S1147 (opT_move (v := .int .i64 s29.2.2.1) rfl rfl) rfl rfl ?_
                clear A1147 S1147 a1147 w1147;intro a1148 w1148 A1148 S1148
                obtain ⟨x20, e111, hm⟩ := bind_some hm
                refine sv A1148 S1148 (opT_index_hd (xs := s39.1) (i := s29.2.2.1) (n := 1) (St.hd S1148 0 rfl).1 Try.underlying34 ti3 rfl rfl rfl (getI_in e111)) rfl rfl ?_
                clear A1148 S1148 a1148 w1148;intro a1149 w1149 A1149 S1149
                refine seq_op A1149 S1149 rfl (opT_load_own (E := 3) (R := rInt) (S := rInt) (xs := s39.1) (a := x20) (i := s29.2.2.1) (k := 1) (off := 0) (f := fun (x : Int) => x) sh_int e111 Fld.self ti3 rfl rfl rfl rfl rfl) (perm_front (i := 0) rfl) rfl ?_
                rintro u a1150 w1150 hf A1150 (S1150 : St I w0 w1150 [Ch.own (rSlice 3 rInt) [v198] s39.1, Ch.mp Try.prog 3 3 iLit iOk iLit 0 v2 s39.2.1, Ch.own (rSlice 3 rInt) [v199] s39.2.2.1, Ch.blk g1 [.int .i64 0, .slice none 0 0, .slice none 0 0] 27, Ch.blk g2 [.int .i64 0, v151, v152] 27, Ch.own (rSlice 4 rBool) [v151] s29.2.2.2.1, Ch.own (rSlice 34 (rSlice 3 rInt)) [v152] s29.2.2.2.2, F])
                obtain rfl := lds_one hf
                clear A1149 S1149 a1149 w1149
                refine sv A1150 S1150 (opT_move (v := .int .i64 s39.2.2.2) rfl rfl) rfl rfl ?_
                clear A1150 S1150 a1150 w1150;intro a1151 w1151 A1151 S1151
                obtain ⟨r20, e112, hm⟩ := bind_some hm
                refine seq_op0 A1151 S1151 (opT_call_clo (v := va1) (args := [.int .i64 x20, .int .i64 s39.2.2.2]) (ra1.2 _ Hp.le.rfl x20 s39.2.2.2 _ e112  ) rfl rfl rfl) rfl rfl ?_
                rintro u a1152 w1152 hf A1152 S1152
                obtain rfl := Eq.symm hf
                clear A1151 S1151 a1151 w1151
                refine sv A1152 S1152 (opT_move (v := .tuple #[.int .i64 r20.1, .bool r20.2]) rfl rfl) rfl rfl ?_
                clear A1152 S1152 a1152 w1152;intro a1153 w1153 A1153 S1153
                refine sv A1153 S1153 (opT_extract (vs := #[.int .i64 r20.1, .bool r20.2]) (v := .int .i64 r20.1) rfl rfl rfl) rfl rfl ?_
                clear A1153 S1153 a1153 w1153;intro a1154 w1154 A1154 S1154
                refine sv A1154 S1154 (opT_extract (vs := #[.int .i64 r20.1, .bool r20.2]) (v := .bool r20.2) rfl rfl rfl) rfl rfl ?_
                clear A1154 S1154 a1154 w1154;intro a1155 w1155 A1155 S1155
                refine sv A1155 S1155 (opT_assign (v := .int .i64 r20.1) rfl rfl) rfl rfl ?_
                clear A1155 S1155 a1155 w1155;intro a1156 w1156 A1156 S1156
                refine sv A1156 S1156 (opT_assign (v := .bool r20.2) rfl rfl) rfl rfl ?_
                clear A1156 S1156 a1156 w1156;intro a1157 w1157 A1157 S1157
                refine wpList_nil ?_
                replace A1157 := A1157.pick' (L' := [(1, .int .i64 p1), (2, va0), (3, va1), (8, .pointer (some ⟨g1, 0, none⟩)), (10, v198), (11, v2), (12, .pointer (some ⟨g2, 0, none⟩)), (13, .int .i64 s29.2.2.1), (14, v199), (15, .int .i64 s39.2.2.2), (16, .int .i64 r20.1), (17, .bool r20.2)]) ⟨rfl, rfl, rfl, rfl, rfl, rfl, rfl, rfl, rfl, rfl, rfl, rfl, trivial⟩
                refine nrm ?_
                refine wp_seq ?_
                refine wp_seq ?_
                refine wp_region_lit ?_
                refine sv A1157 S1157 (opT_move (v := .bool r20.2) rfl rfl) rfl rfl ?_
                clear A1157 S1157 a1157 w1157;intro a1158 w1158 A1158 S1158
                refine sv A1158 S1158 (opT_not (b := r20.2) rfl rfl) rfl rfl ?_
                clear A1158 S1158 a1158 w1158;intro a1159 w1159 A1159 S1159
                refine wpList_nil ?_
                replace A1159 := A1159.pick' (L' := [(1, .int .i64 p1), (2, va0), (3, va1), (8, .pointer (some ⟨g1, 0, none⟩)), (10, v198), (11, v2), (12, .pointer (some ⟨g2, 0, none⟩)), (13, .int .i64 s29.2.2.1), (14, v199), (15, .int .i64 s39.2.2.2), (16, .int .i64 r20.1), (48, .bool (!r20.2))]) ⟨rfl, rfl, rfl, rfl, rfl, rfl, rfl, rfl, rfl, rfl, rfl, rfl, trivial⟩
                refine nrm ?_
                rcases two (r20.2) with hb66 | hb66
                · replace hm := ifFe hb66 hm
                  refine cnd_true (b := !r20.2) A1159 rfl rfl (notT hb66) ?_
                  refine wp_seq ?_
                  refine wp_region_lit ?_
                  refine sv A1159 S1159 (opT_move (v := v199) rfl rfl) rfl rfl ?_
                  clear A1159 S1159 a1159 w1159;intro a1160 w1160 A1160 S1160
                  refine seq_op A1160 S1160 rfl (opT_lit_cpy (E := 3) (R := rInt) (S := rInt) [(.int .i64 (-1), [.int .i64 (-1)])] [-1] cpy_int (rd_all ⟨rfl, trivial⟩) Try.underlying34 tz3 (by decide) rfl (by decide) (by decide) rfl rfl rfl rfl (us_all ⟨⟨rfl, rfl⟩, trivial⟩)) (List.Perm.refl _) rfl ?_
                  rintro v211 a1161 w1161 - A1161 (S1161 : St I w0 w1161 [Ch.own (rSlice 3 rInt) [v211] ([-1]), Ch.own (rSlice 3 rInt) [v198] s39.1, Ch.mp Try.prog 3 3 iLit iOk iLit 0 v2 s39.2.1, Ch.own (rSlice 3 rInt) [v199] s39.2.2.1, Ch.blk g1 [.int .i64 0, .slice none 0 0, .slice none 0 0] 27, Ch.blk g2 [.int .i64 0, v151, v152] 27, Ch.own (rSlice 4 rBool) [v151] s29.2.2.2.1, Ch.own (rSlice 34 (rSlice 3 rInt)) [v152] s29.2.2.2.2, F])
                  clear A1160 S1160 a1160 w1160
                  obtain ⟨z73, e113, hm⟩ := bind_some hm
                  refine seq_op A1161 S1161 rfl (opT_app (E := 3) (R := rInt) (s := v199) (u := v211) e113 Try.underlying34 tz3 rfl (by decide) rfl (by decide) rfl rfl rfl) (perm_sel [3, 0, 1, 2, 4, 5, 6, 7, 8] (m := 9) rfl rfl) rfl ?_
                  rintro v212 a1162 w1162 - A1162 (S1162 : St I w0 w1162 [Ch.own (rSlice 3 rInt) [v212] z73, Ch.own (rSlice 3 rInt) [v198] s39.1, Ch.mp Try.prog 3 3 iLit iOk iLit 0 v2 s39.2.1, Ch.blk g1 [.int .i64 0, .slice none 0 0, .slice none 0 0] 27, Ch.blk g2 [.int .i64 0, v151, v152] 27, Ch.own (rSlice 4 rBool) [v151] s29.2.2.2.1, Ch.own (rSlice 34 (rSlice 3 rInt)) [v152] s29.2.2.2.2, F])
                  clear A1161 S1161 a1161 w1161
                  refine sv A1162 S1162 (opT_assign (v := v212) rfl rfl) rfl rfl ?_
                  clear A1162 S1162 a1162 w1162;intro a1163 w1163 A1163 S1163
                  refine wpList_nil ?_
                  replace A1163 := A1163.pick' (L' := [(1, .int .i64 p1), (2, va0), (3, va1), (8, .pointer (some ⟨g1, 0, none⟩)), (10, v198), (11, v2), (12, .pointer (some ⟨g2, 0, none⟩)), (13, .int .i64 s29.2.2.1), (14, v212), (15, .int .i64 s39.2.2.2)]) ⟨rfl, rfl, rfl, rfl, rfl, rfl, rfl, rfl, rfl, rfl, trivial⟩
                  refine nrm ?_
                  refine wp_exit ?_
                  refine thenX ?_
                  refine ex_in ?_
                  refine nrm ?_
                  obtain rfl := Option.some.inj hm
                  exact ⟨v198, v212, A1163.pick' ⟨rfl, rfl, rfl, rfl, rfl, rfl, rfl, rfl, rfl, rfl, trivial⟩, St.sel S1163 8 [1, 2, 0, 3, 4, 5, 6, 7] rfl rfl⟩
                · replace hm := ifTe hb66 hm
                  refine cnd_false (b := !r20.2) A1159 rfl rfl (notF hb66) ?_
                  refine wp_skip ?_
                  refine nrm ?_
                  refine wp_seq ?_
                  refine wp_region_lit ?_
                  refine sv A1159 S1159 (opT_move (v := v2) rfl rfl) rfl rfl ?_
                  clear A1159 S1159 a1159 w1159;intro a1164 w1164 A1164 S1164
                  refine sv A1164 S1164 (opT_move (v := .int .i64 r20.1) rfl rfl) rfl rfl ?_
                  clear A1164 S1164 a1164 w1164;intro a1165 w1165 A1165 S1165
                  obtain ⟨_, hk53, hm⟩ := bind_some hm
                  refine seq_op A1165 S1165 rfl (opT_lookMap (v := v2) (q := r20.1) (M := s39.2.1) kk3 ek3 (chk_some hk53) Try.underlying163 rfl rfl rfl) (perm_front (i := 1) rfl) rfl ?_
                  rintro u a1166 w1166 hf A1166 (S1166 : St I w0 w1166 [Ch.mp Try.prog 3 3 iLit iOk iLit 0 v2 s39.2.1, Ch.own (rSlice 3 rInt) [v198] s39.1, Ch.own (rSlice 3 rInt) [v199] s39.2.2.1, Ch.blk g1 [.int .i64 0, .slice none 0 0, .slice none 0 0] 27, Ch.blk g2 [.int .i64 0, v151, v152] 27, Ch.own (rSlice 4 rBool) [v151] s29.2.2.2.1, Ch.own (rSlice 34 (rSlice 3 rInt)) [v152] s29.2.2.2.2, F])
                  obtain rfl := Eq.symm hf
                  clear A1165 S1165 a1165 w1165
                  refine sv A1166 S1166 (opT_move (v := .tuple #[.int .i64 ((List.lookup r20.1 s39.2.1).getD 0), .bool ((List.lookup r20.1 s39.2.1).isSome)]) rfl rfl) rfl rfl ?_
                  clear A1166 S1166 a1166 w1166;intro a1167 w1167 A1167 S1167
                  refine sv A1167 S1167 (opT_extract (vs := #[.int .i64 ((List.lookup r20.1 s39.2.1).getD 0), .bool ((List.lookup r20.1 s39.2.1).isSome)]) (v := .int .i64 ((List.lookup r20.1 s39.2.1).getD 0)) rfl rfl rfl) rfl rfl ?_
                  clear A1167 S1167 a1167 w1167;intro a1168 w1168 A1168 S1168
                  refine sv A1168 S1168 (opT_extract (vs := #[.int .i64 ((List.lookup r20.1 s39.2.1).getD 0), .bool ((List.lookup r20.1 s39.2.1).isSome)]) (v := .bool ((List.lookup r20.1 s39.2.1).isSome)) rfl rfl rfl) rfl rfl ?_
                  clear A1168 S1168 a1168 w1168;intro a1169 w1169 A1169 S1169
                  refine sv A1169 S1169 (opT_assign (v := .int .i64 ((List.lookup r20.1 s39.2.1).getD 0)) rfl rfl) rfl rfl ?_
                  clear A1169 S1169 a1169 w1169;intro a1170 w1170 A1170 S1170
                  refine sv A1170 S1170 (opT_assign (v := .bool ((List.lookup r20.1 s39.2.1).isSome)) rfl rfl) rfl rfl ?_
                  clear A1170 S1170 a1170 w1170;intro a1171 w1171 A1171 S1171
                  refine wpList_nil ?_
                  replace A1171 := A1171.pick' (L' := [(1, .int .i64 p1), (2, va0), (3, va1), (8, .pointer (some ⟨g1, 0, none⟩)), (10, v198), (11, v2), (12, .pointer (some ⟨g2, 0, none⟩)), (13, .int .i64 s29.2.2.1), (14, v199), (15, .int .i64 s39.2.2.2), (16, .int .i64 r20.1), (18, .int .i64 ((List.lookup r20.1 s39.2.1).getD 0)), (19, .bool ((List.lookup r20.1 s39.2.1).isSome))]) ⟨rfl, rfl, rfl, rfl, rfl, rfl, rfl, rfl, rfl, rfl, rfl, rfl, rfl, trivial⟩
                  refine nrm ?_
                  obtain ⟨s43, hj27, hm⟩ := bind_some hm
                  refine wp_seq_cut (fun a w => ∃ v215 : Value, Agr 96 a [(1, .int .i64 p1), (2, va0), (3, va1), (8, .pointer (some ⟨g1, 0, none⟩)), (10, v215), (11, v2), (12, .pointer (some ⟨g2, 0, none⟩)), (13, .int .i64 s29.2.2.1), (14, v199), (15, .int .i64 s39.2.2.2), (18, .int .i64 s43.2.2)] ∧ St I w0 w [Ch.own (rSlice 3 rInt) [v215] s43.1, Ch.mp Try.prog 3 3 iLit iOk iLit 0 v2 s43.2.1, Ch.blk g1 [.int .i64 0, .slice none 0 0, .slice none 0 0] 27, Ch.blk g2 [.int .i64 0, v151, v152] 27, Ch.own (rSlice 4 rBool) [v151] s29.2.2.2.1, Ch.own (rSlice 34 (rSlice 3 rInt)) [v152] s29.2.2.2.2, Ch.own (rSlice 3 rInt) [v199] s39.2.2.1, F]) ?_ ?_
                  · replace hm := hj27
                    refine wp_seq ?_
                    refine wp_region_lit ?_
                    refine sv A1171 S1171 (opT_move (v := .bool ((List.lookup r20.1 s39.2.1).isSome)) rfl rfl) rfl rfl ?_
                    clear A1171 S1171 a1171 w1171;intro a1186 w1186 A1186 S1186
                    refine sv A1186 S1186 (opT_not (b := (List.lookup r20.1 s39.2.1).isSome) rfl rfl) rfl rfl ?_
                    clear A1186 S1186 a1186 w1186;intro a1187 w1187 A1187 S1187
                    refine wpList_nil ?_
                    replace A1187 := A1187.pick' (L' := [(1, .int .i64 p1), (2, va0), (3, va1), (8, .pointer (some ⟨g1, 0, none⟩)), (10, v198), (11, v2), (12, .pointer (some ⟨g2, 0, none⟩)), (13, .int .i64 s29.2.2.1), (14, v199), (15, .int .i64 s39.2.2.2), (16, .int .i64 r20.1), (18, .int .i64 ((List.lookup r20.1 s39.2.1).getD 0)), (59, .bool (!((List.lookup r20.1 s39.2.1).isSome)))]) ⟨rfl, rfl, rfl, rfl, rfl, rfl, rfl, rfl, rfl, rfl, rfl, rfl, rfl, trivial⟩
                    refine nrm ?_
                    rcases two ((List.lookup r20.1 s39.2.1).isSome) with hb68 | hb68
                    · replace hm := ifFe hb68 hm
                      refine cnd_true (b := !((List.lookup r20.1 s39.2.1).isSome)) A1187 rfl rfl (notT hb68) ?_
                      refine wp_seq ?_
                      refine wp_region_lit ?_
                      refine sv A1187 S1187 (opT_move (v := v198) rfl rfl) rfl rfl ?_
                      clear A1187 S1187 a1187 w1187;intro a1188 w1188 A1188 S1188
                      refine sv A1188 S1188 (opT_len_hd (v := v198) (n := s39.1.length) (St.hd S1188 1 rfl).1 Try.underlying34 rfl rfl) rfl rfl ?_
                      clear A1188 S1188 a1188 w1188;intro a1189 w1189 A1189 S1189
                      refine sv A1189 S1189 (opT_assign (v := .int .i64 (s39.1.length : Int)) rfl rfl) rfl rfl ?_
                      clear A1189 S1189 a1189 w1189;intro a1190 w1190 A1190 S1190
                      refine wpList_nil ?_
                      replace A1190 := A1190.pick' (L' := [(1, .int .i64 p1), (2, va0), (3, va1), (8, .pointer (some ⟨g1, 0, none⟩)), (10, v198), (11, v2), (12, .pointer (some ⟨g2, 0, none⟩)), (13, .int .i64 s29.2.2.1), (14, v199), (15, .int .i64 s39.2.2.2), (16, .int .i64 r20.1), (18, .int .i64 (s39.1.length : Int))]) ⟨rfl, rfl, rfl, rfl, rfl, rfl, rfl, rfl, rfl, rfl, rfl, rfl, trivial⟩
                      refine nrm ?_
                      refine wp_seq ?_
                      refine wp_region_lit ?_
                      refine sv A1190 S1190 (opT_move (v := v2) rfl rfl) rfl rfl ?_
                      clear A1190 S1190 a1190 w1190;intro a1191 w1191 A1191 S1191
                      refine sv A1191 S1191 (opT_move (v := .int .i64 r20.1) rfl rfl) rfl rfl ?_
                      clear A1191 S1191 a1191 w1191;intro a1192 w1192 A1192 S1192
                      refine sv A1192 S1192 (opT_move (v := .int .i64 (s39.1.length : Int)) rfl rfl) rfl rfl ?_
                      clear A1192 S1192 a1192 w1192;intro a1193 w1193 A1193 S1193
                      obtain ⟨m37, hk55, hm⟩ := bind_some hm
                      refine seq_op A1193 S1193 rfl (opT_putMap (v := v2) (q := r20.1) (i := (s39.1.length : Int)) kk3 ek3 Try.underlying163 (.inl rfl) rfl rfl rfl hk55) (perm_front (i := 0) rfl) rfl ?_
                      rintro _ a1194 w1194 - A1194 (S1194 : St I w0 w1194 [Ch.mp Try.prog 3 3 iLit iOk iLit 0 v2 m37, Ch.own (rSlice 3 rInt) [v198] s39.1, Ch.own (rSlice 3 rInt) [v199] s39.2.2.1, Ch.blk g1 [.int .i64 0, .slice none 0 0, .slice none 0 0] 27, Ch.blk g2 [.int .i64 0, v151, v152] 27, Ch.own (rSlice 4 rBool) [v151] s29.2.2.2.1, Ch.own (rSlice 34 (rSlice 3 rInt)) [v152] s29.2.2.2.2, F])
                      clear A1193 S1193 a1193 w1193
                      refine wpList_nil ?_
                      replace A1194 := A1194.pick' (L' := [(1, .int .i64 p1), (2, va0), (3, va1), (8, .pointer (some ⟨g1, 0, none⟩)), (10, v198), (11, v2), (12, .pointer (some ⟨g2, 0, none⟩)), (13, .int .i64 s29.2.2.1), (14, v199), (15, .int .i64 s39.2.2.2), (16, .int .i64 r20.1), (18, .int .i64 (s39.1.length : Int))]) ⟨rfl, rfl, rfl, rfl, rfl, rfl, rfl, rfl, rfl, rfl, rfl, rfl, trivial⟩
                      refine nrm ?_
                      refine wp_region_lit ?_
                      refine sv A1194 S1194 (opT_move (v := v198) rfl rfl) rfl rfl ?_
                      clear A1194 S1194 a1194 w1194;intro a1195 w1195 A1195 S1195
                      refine sv A1195 S1195 (opT_move (v := .int .i64 r20.1) rfl rfl) rfl rfl ?_
                      clear A1195 S1195 a1195 w1195;intro a1196 w1196 A1196 S1196
                      refine seq_op A1196 S1196 rfl (opT_lit_cpy (E := 3) (R := rInt) (S := rInt) [(.int .i64 r20.1, [.int .i64 r20.1])] [r20.1] cpy_int (rd_all ⟨rfl, trivial⟩) Try.underlying34 tz3 (by decide) rfl (by decide) (by decide) rfl rfl rfl rfl (us_all ⟨⟨rfl, rfl⟩, trivial⟩)) (List.Perm.refl _) rfl ?_
                      rintro v216 a1197 w1197 - A1197 (S1197 : St I w0 w1197 [Ch.own (rSlice 3 rInt) [v216] ([r20.1]), Ch.mp Try.prog 3 3 iLit iOk iLit 0 v2 m37, Ch.own (rSlice 3 rInt) [v198] s39.1, Ch.own (rSlice 3 rInt) [v199] s39.2.2.1, Ch.blk g1 [.int .i64 0, .slice none 0 0, .slice none 0 0] 27, Ch.blk g2 [.int .i64 0, v151, v152] 27, Ch.own (rSlice 4 rBool) [v151] s29.2.2.2.1, Ch.own (rSlice 34 (rSlice 3 rInt)) [v152] s29.2.2.2.2, F])
                      clear A1196 S1196 a1196 w1196
                      obtain ⟨z75, e115, hm⟩ := bind_some hm
                      refine seq_op A1197 S1197 rfl (opT_app (E := 3) (R := rInt) (s := v198) (u := v216) e115 Try.underlying34 tz3 rfl (by decide) rfl (by decide) rfl rfl rfl) (perm_sel [2, 0, 1, 3, 4, 5, 6, 7, 8] (m := 9) rfl rfl) rfl ?_
                      rintro v217 a1198 w1198 - A1198 (S1198 : St I w0 w1198 [Ch.own (rSlice 3 rInt) [v217] z75, Ch.mp Try.prog 3 3 iLit iOk iLit 0 v2 m37, Ch.own (rSlice 3 rInt) [v199] s39.2.2.1, Ch.blk g1 [.int .i64 0, .slice none 0 0, .slice none 0 0] 27, Ch.blk g2 [.int .i64 0, v151, v152] 27, Ch.own (rSlice 4 rBool) [v151] s29.2.2.2.1, Ch.own (rSlice 34 (rSlice 3 rInt)) [v152] s29.2.2.2.2, F])
                      clear A1197 S1197 a1197 w1197
                      refine sv A1198 S1198 (opT_assign (v := v217) rfl rfl) rfl rfl ?_
                      clear A1198 S1198 a1198 w1198;intro a1199 w1199 A1199 S1199
                      refine wpList_nil ?_
                      replace A1199 := A1199.pick' (L' := [(1, .int .i64 p1), (2, va0), (3, va1), (8, .pointer (some ⟨g1, 0, none⟩)), (10, v217), (11, v2), (12, .pointer (some ⟨g2, 0, none⟩)), (13, .int .i64 s29.2.2.1), (14, v199), (15, .int .i64 s39.2.2.2), (18, .int .i64 (s39.1.length : Int))]) ⟨rfl, rfl, rfl, rfl, rfl, rfl, rfl, rfl, rfl, rfl, rfl, trivial⟩
                      refine nrm ?_
                      obtain rfl := Option.some.inj hm
                      exact ⟨v217, A1199.pick' ⟨rfl, rfl, rfl, rfl, rfl, rfl, rfl, rfl, rfl, rfl, rfl, trivial⟩, St.sel S1199 8 [0, 1, 3, 4, 5, 6, 2, 7] rfl rfl⟩
                    · replace hm := ifTe hb68 hm
                      refine cnd_false (b := !((List.lookup r20.1 s39.2.1).isSome)) A1187 rfl rfl (notF hb68) ?_
                      refine wp_skip ?_
                      refine nrm ?_
                      obtain rfl := Option.some.inj hm
                      exact ⟨v198, A1187.pick' ⟨rfl, rfl, rfl, rfl, rfl, rfl, rfl, rfl, rfl, rfl, rfl, trivial⟩, St.sel S1187 8 [1, 0, 3, 4, 5, 6, 2, 7] rfl rfl⟩
                  · rintro a1200 w1200 ⟨v215, A1200, S1200⟩
                    refine wp_region_lit ?_
                    refine sv A1200 S1200 (opT_move (v := v199) rfl rfl) rfl rfl ?_
                    clear A1200 S1200 a1200 w1200;intro a1201 w1201 A1201 S1201
                    refine sv A1201 S1201 (opT_move (v := .int .i64 s43.2.2) rfl rfl) rfl rfl ?_
                    clear A1201 S1201 a1201 w1201;intro a1202 w1202 A1202 S1202
                    refine seq_op A1202 S1202 rfl (opT_lit_cpy (E := 3) (R := rInt) (S := rInt) [(.int .i64 s43.2.2, [.int .i64 s43.2.2])] [s43.2.2] cpy_int (rd_all ⟨rfl, trivial⟩) Try.underlying34 tz3 (by decide) rfl (by decide) (by decide) rfl rfl rfl rfl (us_all ⟨⟨rfl, rfl⟩, trivial⟩)) (List.Perm.refl _) rfl ?_
                    rintro v218 a1203 w1203 - A1203 (S1203 : St I w0 w1203 [Ch.own (rSlice 3 rInt) [v218] ([s43.2.2]), Ch.own (rSlice 3 rInt) [v215] s43.1, Ch.mp Try.prog 3 3 iLit iOk iLit 0 v2 s43.2.1, Ch.blk g1 [.int .i64 0, .slice none 0 0, .slice none 0 0] 27, Ch.blk g2 [.int .i64 0, v151, v152] 27, Ch.own (rSlice 4 rBool) [v151] s29.2.2.2.1, Ch.own (rSlice 34 (rSlice 3 rInt)) [v152] s29.2.2.2.2, Ch.own (rSlice 3 rInt) [v199] s39.2.2.1, F])
                    clear A1202 S1202 a1202 w1202
                    obtain ⟨z76, e116, hm⟩ := bind_some hm
                    refine seq_op A1203 S1203 rfl (opT_app (E := 3) (R := rInt) (s := v199) (u := v218) e116 Try.underlying34 tz3 rfl (by decide) rfl (by decide) rfl rfl rfl) (perm_sel [7, 0, 1, 2, 3, 4, 5, 6, 8] (m := 9) rfl rfl) rfl ?_
                    rintro v219 a1204 w1204 - A1204 (S1204 : St I w0 w1204 [Ch.own (rSlice 3 rInt) [v219] z76, Ch.own (rSlice 3 rInt) [v215] s43.1, Ch.mp Try.prog 3 3 iLit iOk iLit 0 v2 s43.2.1, Ch.blk g1 [.int .i64 0, .slice none 0 0, .slice none 0 0] 27, Ch.blk g2 [.int .i64 0, v151, v152] 27, Ch.own (rSlice 4 rBool) [v151] s29.2.2.2.1, Ch.own (rSlice 34 (rSlice 3 rInt)) [v152] s29.2.2.2.2, F])
                    clear A1203 S1203 a1203 w1203
                    refine sv A1204 S1204 (opT_assign (v := v219) rfl rfl) rfl rfl ?_
                    clear A1204 S1204 a1204 w1204;intro a1205 w1205 A1205 S1205
                    refine wpList_nil ?_
                    replace A1205 := A1205.pick' (L' := [(1, .int .i64 p1), (2, va0), (3, va1), (8, .pointer (some ⟨g1, 0, none⟩)), (10, v215), (11, v2), (12, .pointer (some ⟨g2, 0, none⟩)), (13, .int .i64 s29.2.2.1), (14, v219), (15, .int .i64 s39.2.2.2)]) ⟨rfl, rfl, rfl, rfl, rfl, rfl, rfl, rfl, rfl, rfl, trivial⟩
                    refine nrmB ?_
                    refine nrm ?_
                    obtain rfl := Option.some.inj hm
                    exact ⟨v215, v219, A1205.pick' ⟨rfl, rfl, rfl, rfl, rfl, rfl, rfl, rfl, rfl, rfl, trivial⟩, St.sel S1205 8 [1, 2, 0, 3, 4, 5, 6, 7] rfl rfl⟩
              · rintro a1206 w1206 ⟨v209, v210, A1206, S1206⟩
                refine wp_region_lit ?_
                refine sv A1206 S1206 (opT_move (v := .int .i64 s39.2.2.2) rfl rfl) rfl rfl ?_
                clear A1206 S1206 a1206 w1206;intro a1207 w1207 A1207 S1207
                refine sv A1207 S1207 (opT_add (m := s39.2.2.2) (n := 1) rfl rfl rfl) rfl rfl ?_
                clear A1207 S1207 a1207 w1207;intro a1208 w1208 A1208 S1208
                refine sv A1208 S1208 (opT_assign (v := .int .i64 (IntKind.i64.wrap (s39.2.2.2 + 1))) rfl rfl) rfl rfl ?_
                clear A1208 S1208 a1208 w1208;intro a1209 w1209 A1209 S1209
                refine wpList_nil ?_
                replace A1209 := A1209.pick' (L' := [(1, .int .i64 p1), (2, va0), (3, va1), (8, .pointer (some ⟨g1, 0, none⟩)), (10, v209), (11, v2), (12, .pointer (some ⟨g2, 0, none⟩)), (13, .int .i64 s29.2.2.1), (14, v210), (15, .int .i64 (IntKind.i64.wrap (s39.2.2.2 + 1)))]) ⟨rfl, rfl, rfl, rfl, rfl, rfl, rfl, rfl, rfl, rfl, trivial⟩
                refine nrm ?_
                exact ⟨_, (Option.some.inj hm).symm, ⟨v209, v210, A1209.pick' ⟨rfl, rfl, rfl, rfl, rfl, rfl, rfl, rfl, rfl, rfl, trivial⟩, St.sel S1209 8 [0, 1, 2, 3, 4, 5, 6, 7] rfl rfl⟩⟩
        · rintro a1210 w1210 ⟨s40, ho30, v196, v197, A1210, S1210⟩
          replace hm := loopOut ho30 hc28
          clear ho30 hc28 hl4
          refine nrm ?_
          refine wp_seq ?_
          refine wp_seq ?_
          refine wp_region_lit ?_
          refine sv A1210 S1210 (opT_move (v := v196) rfl rfl) rfl rfl ?_
          clear A1210 S1210 a1210 w1210;intro a1211 w1211 A1211 S1211
          refine sv A1211 S1211 (opT_len_hd (v := v196) (n := s40.1.length) (St.hd S1211 0 rfl).1 Try.underlying34 rfl rfl) rfl rfl ?_
          clear A1211 S1211 a1211 w1211;intro a1212 w1212 A1212 S1212
          refine sv A1212 S1212 (opT_move (v := .int .i64 p1) rfl rfl) rfl rfl ?_
          clear A1212 S1212 a1212 w1212;intro a1213 w1213 A1213 S1213
          refine sv A1213 S1213 (opT_cmp (k := .i64) (m := (s40.1.length : Int)) (n := p1) (c := decide ((s40.1.length : Int) > p1)) rfl rfl rfl rfl rfl) rfl rfl ?_
          clear A1213 S1213 a1213 w1213;intro a1214 w1214 A1214 S1214
          refine wpList_nil ?_
          replace A1214 := A1214.pick' (L' := [(1, .int .i64 p1), (2, va0), (3, va1), (8, .pointer (some ⟨g1, 0, none⟩)), (10, v196), (11, v2), (12, .pointer (some ⟨g2, 0, none⟩)), (13, .int .i64 s29.2.2.1), (14, v197), (76, .bool (decide ((s40.1.length : Int) > p1)))]) ⟨rfl, rfl, rfl, rfl, rfl, rfl, rfl, rfl, rfl, rfl, trivial⟩
          refine nrm ?_
          rcases two (decide ((s40.1.length : Int) > p1)) with hb69 | hb69
          · replace hm := ifFe hb69 hm
            refine cnd_false (b := decide ((s40.1.length : Int) > p1)) A1214 rfl rfl hb69 ?_
            refine wp_skip ?_
            refine nrm ?_
            refine wp_seq ?_
            obtain ⟨x21, e117, hm⟩ := bind_some hm
            have hd1 := (St.hd S1214 0 rfl).1
            obtain ⟨r21, e118, hm⟩ := bind_some hm
            obtain ⟨z77, e119, hm⟩ := bind_some hm
            refine wp_draw (L := [(1, .int .i64 p1), (2, va0), (3, va1), (8, .pointer (some ⟨g1, 0, none⟩)), (10, v196), (11, v2), (12, .pointer (some ⟨g2, 0, none⟩)), (13, .int .i64 s29.2.2.1), (14, v197), (76, .bool (decide ((s40.1.length : Int) > p1)))]) (C := [Ch.mp Try.prog 3 3 iLit iOk iLit 0 v2 s40.2.1, Ch.own (rSlice 3 rInt) [v197] s40.2.2.1, Ch.blk g1 [.int .i64 0, .slice none 0 0, .slice none 0 0] 27, Ch.own (rSlice 34 (rSlice 3 rInt)) [v152] s29.2.2.2.2, F]) { ops := [⟨[], [], [], [0], fun | [xo0] => xo0 = .pointer (some ⟨g2, 1, none⟩) | _ => True, [(12, none)]⟩, ⟨[0], [], [], [1], fun | [xo1] => xo1 = v151 | _ => True, [(78, some 0)]⟩, ⟨[], [], [], [2], fun | [xo2] => xo2 = va0 | _ => True, [(2, none)]⟩, ⟨[], [], [], [3], fun | [xo3] => xo3 = v196 | _ => True, [(10, none)]⟩, ⟨[], [], [], [4], fun | [xo4] => xo4 = .int .i64 s29.2.2.1 | _ => True, [(13, none)]⟩, ⟨[], [], [], [5], fun | [xo5] => xo5 = pt v196 (s29.2.2.1.toNat * 1) | _ => True, [(81, some 3), (82, some 4)]⟩, ⟨[1], [], [], [6], fun | [xo6] => xo6 = .int .i64 x21 | _ => True, [(83, some 5)]⟩, ⟨[], [], [], [7], fun | [xo7] => xo7 = .bool r21 | _ => True, [(80, some 2), (84, some 6)]⟩, ⟨[], [], [3], [8], fun | [xo8] => Hd xo8 ([r21]).length | _ => True, [(85, some 7)]⟩, ⟨[], [2, 3], [4], [9], fun | [xo9] => Hd xo9 (z77).length | _ => True, [(79, some 1), (86, some 8)]⟩, ⟨[], [], [], [10], fun | [xo10] => xo10 = .pointer (some ⟨g2, 1, none⟩) | _ => True, [(12, none)]⟩, ⟨[], [0], [5], [11], fun | [xo11] => True | _ => True, [(88, some 10), (87, some 9)]⟩], res := [⟨[], fun _ => Ch.blk g2 [.int .i64 0, v151, v152] 27⟩, ⟨[], fun _ => Ch.own (rSlice 3 rInt) [v196] s40.1⟩, ⟨[], fun _ => Ch.own (rSlice 4 rBool) [v151] s29.2.2.2.1⟩, ⟨[8], fun | [xo8] => Ch.own (rSlice 4 rBool) [xo8] ([r21]) | _ => Ch.fr (fun _ => none) []⟩, ⟨[9], fun | [xo9] => Ch.own (rSlice 4 rBool) [xo9] z77 | _ => Ch.fr (fun _ => none) []⟩, ⟨[9], fun | [xo9] => Ch.blk g2 [.int .i64 0, xo9, v152] 27 | _ => Ch.fr (fun _ => none) []⟩], base := [0, 1, 2], pre := [[], [0], [], [], [], [3, 4], [3, 4, 5], [2, 3, 4, 5, 6], [2, 3, 4, 5, 6, 7], [0, 1, 2, 3, 4, 5, 6, 7, 8], [0, 1, 2, 3, 4, 5, 6, 7, 8, 9], [0, 1, 2, 3, 4, 5, 6, 7, 8, 9, 10]], fin := [(1, none), (2, none), (3, none), (8, none), (10, none), (11, none), (12, none), (13, none), (14, none)], left := [1, 4, 5] } (by kernel_rfl) A1214 S1214 (perm_sel [4, 0, 5, 1, 2, 3, 6, 7] (m := 8) rfl rfl) (by kernel_rfl) (by kernel_rfl) ?_ ?_
            · exact ⟨Plan.goal_run fun vs hf => ⟨wants_none rfl, OpT.conv (OpT.evs (ev' := evL [(12, .pointer (some ⟨g2, 0, none⟩))]) (opT_field_addr (g := g2) (b := 0) tf27_1 rfl rfl) rfl [.tmp 12] rfl ⟨rfl, trivial⟩) rfl (fun _ h => Eq.trans h rfl) (fun _ => rfl)⟩, Plan.goal_run fun vs hf => ⟨wants_none rfl, OpT.conv (OpT.evs (ev' := evL [(78, .pointer (some ⟨g2, 1, none⟩))]) (opT_load_blk (g := g2) (off := 1) (E := 27) (l := [.int .i64 0, v151, v152]) (d := [v151]) (u := v151) ti22 rfl rfl rfl rfl rfl rfl) rfl [.tmp 78] rfl ⟨(hf 0 (mb rfl)), trivial⟩) rfl (fun _ h => Eq.trans h rfl) (fun _ => rfl)⟩, Plan.goal_run fun vs hf => ⟨wants_none rfl, OpT.conv (OpT.evs (ev' := evL [(2, va0)]) (opT_move (v := va0) rfl rfl) rfl [.tmp 2] rfl ⟨rfl, trivial⟩) rfl (fun _ h => Eq.trans h rfl) (fun _ => rfl)⟩, Plan.goal_run fun vs hf => ⟨wants_none rfl, OpT.conv (OpT.evs (ev' := evL [(10, v196)]) (opT_move (v := v196) rfl rfl) rfl [.tmp 10] rfl ⟨rfl, trivial⟩) rfl (fun _ h => Eq.trans h rfl) (fun _ => rfl)⟩, Plan.goal_run fun vs hf => ⟨wants_none rfl, OpT.conv (OpT.evs (ev' := evL [(13, .int .i64 s29.2.2.1)]) (opT_move (v := .int .i64 s29.2.2.1) rfl rfl) rfl [.tmp 13] rfl ⟨rfl, trivial⟩) rfl (fun _ h => Eq.trans h rfl) (fun _ => rfl)⟩, Plan.goal_run fun vs hf => ⟨wants_none rfl, OpT.conv (OpT.evs (ev' := evL [(81, v196), (82, .int .i64 s29.2.2.1)]) (opT_index_hd (xs := s40.1) (i := s29.2.2.1) (n := 1) hd1 Try.underlying34 ti3 rfl rfl rfl (getI_in e117)) rfl [.tmp 81, .tmp 82] rfl ⟨(hf 3 (mb rfl)), (hf 4 (mb rfl)), trivial⟩) rfl (fun _ h => Eq.trans h rfl) (fun _ => rfl)⟩, Plan.goal_run fun vs hf => ⟨wants_none rfl, OpT.conv (OpT.evs (ev' := evL [(83, pt v196 (s29.2.2.1.toNat * 1))]) (opT_load_own (E := 3) (R := rInt) (S := rInt) (xs := s40.1) (a := x21) (i := s29.2.2.1) (k := 1) (off := 0) (f := fun (x : Int) => x) sh_int e117 Fld.self ti3 rfl rfl rfl rfl rfl) rfl [.tmp 83] rfl ⟨(hf 5 (mb rfl)), trivial⟩) rfl (fun _ h => lds_one h) (fun _ => rfl)⟩, Plan.goal_run fun vs hf => ⟨wants_none rfl, OpT.conv (OpT.evs (ev' := evL [(80, va0), (84, .int .i64 x21)]) (opT_call_clo (v := va0) (args := [.int .i64 x21]) (ra0.2 _ Hp.le.rfl x21 _ e118  ) rfl rfl rfl) rfl [.tmp 80, .tmp 84] rfl ⟨(hf 2 (mb rfl)), (hf 6 (mb rfl)), trivial⟩) rfl (fun _ h => h) (fun _ => rfl)⟩, Plan.goal_run fun vs hf => ⟨wants_none rfl, OpT.conv (OpT.evs (ev' := evL [(85, .bool r21)]) (OpT.hdk (E := 4) (R := rBool) (xs := [r21]) (fun v => v) 0 (fun _ => rfl) (opT_lit_cpy (E := 4) (R := rBool) (S := rBool) [(.bool r21, [.bool r21])] [r21] cpy_bool (rd_all ⟨rfl, trivial⟩) Try.underlying22 tz4 (by decide) rfl (by decide) (by decide) rfl rfl rfl rfl (us_all ⟨⟨rfl, rfl⟩, trivial⟩))) rfl [.tmp 85] rfl ⟨(hf 7 (mb rfl)), trivial⟩) rfl (fun _ h => h.2) (fun _ => rfl)⟩, Plan.goal_run fun vs hf => ⟨wants_none rfl, OpT.conv (OpT.evs (ev' := evL [(79, v151), (86, (vs 8))]) (OpT.hdk (E := 4) (R := rBool) (xs := z77) (fun v => v) 0 (fun _ => rfl) (opT_app (E := 4) (R := rBool) (s := v151) (u := (vs 8)) e119 Try.underlying22 tz4 rfl (by decide) rfl (by decide) rfl rfl rfl)) rfl [.tmp 79, .tmp 86] rfl ⟨(hf 1 (mb rfl)), rfl, trivial⟩) rfl (fun _ h => h.2) (fun _ => rfl)⟩, Plan.goal_run fun vs hf => ⟨wants_none rfl, OpT.conv (OpT.evs (ev' := evL [(12, .pointer (some ⟨g2, 0, none⟩))]) (opT_field_addr (g := g2) (b := 0) tf27_1 rfl rfl) rfl [.tmp 12] rfl ⟨rfl, trivial⟩) rfl (fun _ h => Eq.trans h rfl) (fun _ => rfl)⟩, Plan.goal_run fun vs hf => ⟨wants_none rfl, OpT.conv (OpT.evs (ev' := evL [(88, .pointer (some ⟨g2, 1, none⟩)), (87, (vs 9))]) (opT_store_blk (g := g2) (off := 1) (l := [.int .i64 0, v151, v152]) (d := [(vs 9)]) (E := 27) (u := (vs 9)) ti22 rfl rfl rfl (Hd.cells (show Hd (vs 9) (z77).length from (hf 9 (mb rfl)))) rfl (allC (Hd.one (show Hd (vs 9) (z77).length from (hf 9 (mb rfl)))) allN) (Nat.le_of_ble_eq_true rfl)) rfl [.tmp 88, .tmp 87] rfl ⟨(hf 10 (mb rfl)), rfl, trivial⟩) rfl (fun _ _ => trivial) (fun _ => rfl)⟩, trivial⟩
            intro vs a1215 w1215 hf A1215 S1215
            clear A1214 S1214
            replace A1215 := A1215.pick' (L' := [(1, .int .i64 p1), (2, va0), (3, va1), (8, .pointer (some ⟨g1, 0, none⟩)), (10, v196), (11, v2), (12, .pointer (some ⟨g2, 0, none⟩)), (13, .int .i64 s29.2.2.1), (14, v197)]) ⟨rfl, rfl, rfl, rfl, rfl, rfl, rfl, rfl, rfl, trivial⟩
            replace S1215 : St I w0 w1215 [Ch.own (rSlice 3 rInt) [v196] s40.1, Ch.own (rSlice 4 rBool) [(vs 9)] z77, Ch.blk g2 [.int .i64 0, (vs 9), v152] 27, Ch.mp Try.prog 3 3 iLit iOk iLit 0 v2 s40.2.1, Ch.own (rSlice 3 rInt) [v197] s40.2.2.1, Ch.blk g1 [.int .i64 0, .slice none 0 0, .slice none 0 0] 27, Ch.own (rSlice 34 (rSlice 3 rInt)) [v152] s29.2.2.2.2, F] := S1215
            obtain ⟨v221, ea1⟩ : ∃ x, x = (vs 9) := ⟨_, rfl⟩
            try rw [← ea1] at A1215
            try rw [← ea1] at S1215
            clear ea1
            clear hf vs
            refine nrm ?_
            refine wp_region_lit ?_
            refine sv A1215 S1215 (opT_field_addr (g := g2) (b := 0) tf27_2 rfl rfl) rfl rfl ?_
            clear A1215 S1215 a1215 w1215;intro a1216 w1216 A1216 S1216
            refine seq_op A1216 S1216 rfl (opT_load_blk (g := g2) (off := 2) (E := 27) (l := [.int .i64 0, v221, v152]) (d := [v152]) (u := v152) ti23 rfl rfl rfl rfl rfl rfl) (perm_front (i := 2) rfl) rfl ?_
            rintro u a1217 w1217 hf A1217 (S1217 : St I w0 w1217 [Ch.blk g2 [.int .i64 0, v221, v152] 27, Ch.own (rSlice 3 rInt) [v196] s40.1, Ch.own (rSlice 4 rBool) [v221] z77, Ch.mp Try.prog 3 3 iLit iOk iLit 0 v2 s40.2.1, Ch.own (rSlice 3 rInt) [v197] s40.2.2.1, Ch.blk g1 [.int .i64 0, .slice none 0 0, .slice none 0 0] 27, Ch.own (rSlice 34 (rSlice 3 rInt)) [v152] s29.2.2.2.2, F])
            obtain rfl := Eq.symm hf
            clear A1216 S1216 a1216 w1216
            refine sv A1217 S1217 (opT_move (v := v197) rfl rfl) rfl rfl ?_
            clear A1217 S1217 a1217 w1217;intro a1218 w1218 A1218 S1218
            refine seq_op A1218 S1218 rfl (opT_lit (E := 34) (R := rSlice 3 rInt) [(v197, [v197])] [s40.2.2.1] Try.underlying23 tz34 (by decide) rfl (by decide) (by decide) rfl rfl rfl rfl (us_all ⟨⟨(Hd.cells (St.hd S1218 4 rfl).1), rfl⟩, trivial⟩)) (perm_front (i := 4) rfl) rfl ?_
            rintro v222 a1219 w1219 - A1219 (S1219 : St I w0 w1219 [Ch.own (rSlice 34 (rSlice 3 rInt)) [v222] ([s40.2.2.1]), Ch.blk g2 [.int .i64 0, v221, v152] 27, Ch.own (rSlice 3 rInt) [v196] s40.1, Ch.own (rSlice 4 rBool) [v221] z77, Ch.mp Try.prog 3 3 iLit iOk iLit 0 v2 s40.2.1, Ch.blk g1 [.int .i64 0, .slice none 0 0, .slice none 0 0] 27, Ch.own (rSlice 34 (rSlice 3 rInt)) [v152] s29.2.2.2.2, F])
            clear A1218 S1218 a1218 w1218
            obtain ⟨z78, e120, hm⟩ := bind_some hm
            refine seq_op A1219 S1219 rfl (opT_app (E := 34) (R := rSlice 3 rInt) (s := v152) (u := v222) e120 Try.underlying23 tz34 rfl (by decide) rfl (by decide) rfl rfl rfl) (perm_sel [6, 0, 1, 2, 3, 4, 5, 7] (m := 8) rfl rfl) rfl ?_
            rintro v223 a1220 w1220 - A1220 (S1220 : St I w0 w1220 [Ch.own (rSlice 34 (rSlice 3 rInt)) [v223] z78, Ch.blk g2 [.int .i64 0, v221, v152] 27, Ch.own (rSlice 3 rInt) [v196] s40.1, Ch.own (rSlice 4 rBool) [v221] z77, Ch.mp Try.prog 3 3 iLit iOk iLit 0 v2 s40.2.1, Ch.blk g1 [.int .i64 0, .slice none 0 0, .slice none 0 0] 27, F])
            clear A1219 S1219 a1219 w1219
            refine sv A1220 S1220 (opT_field_addr (g := g2) (b := 0) tf27_2 rfl rfl) rfl rfl ?_
            clear A1220 S1220 a1220 w1220;intro a1221 w1221 A1221 S1221
            refine seq_op A1221 S1221 rfl (opT_store_blk (g := g2) (off := 2) (l := [.int .i64 0, v221, v152]) (d := [v223]) (E := 27) (u := v223) ti23 rfl rfl rfl (Hd.cells (St.hd S1221 0 rfl).1) rfl (allC (Hd.one (St.hd S1221 0 rfl).1) allN) (Nat.le_of_ble_eq_true rfl)) (perm_front (i := 1) rfl) rfl ?_
            rintro _ a1222 w1222 - A1222 (S1222 : St I w0 w1222 [Ch.blk g2 [.int .i64 0, v221, v223] 27, Ch.own (rSlice 34 (rSlice 3 rInt)) [v223] z78, Ch.own (rSlice 3 rInt) [v196] s40.1, Ch.own (rSlice 4 rBool) [v221] z77, Ch.mp Try.prog 3 3 iLit iOk iLit 0 v2 s40.2.1, Ch.blk g1 [.int .i64 0, .slice none 0 0, .slice none 0 0] 27, F])
            clear A1221 S1221 a1221 w1221
            refine wpList_nil ?_
            replace A1222 := A1222.pick' (L' := [(1, .int .i64 p1), (2, va0), (3, va1), (8, .pointer (some ⟨g1, 0, none⟩)), (10, v196), (11, v2), (12, .pointer (some ⟨g2, 0, none⟩)), (13, .int .i64 s29.2.2.1)]) ⟨rfl, rfl, rfl, rfl, rfl, rfl, rfl, rfl, trivial⟩
            refine nrmB ?_
            refine nrm ?_
            refine wp_region_lit ?_
            refine sv A1222 S1222 (opT_move (v := .int .i64 s29.2.2.1) rfl rfl) rfl rfl ?_
            clear A1222 S1222 a1222 w1222;intro a1223 w1223 A1223 S1223
            refine sv A1223 S1223 (opT_add (m := s29.2.2.1) (n := 1) rfl rfl rfl) rfl rfl ?_
            clear A1223 S1223 a1223 w1223;intro a1224 w1224 A1224 S1224
            refine sv A1224 S1224 (opT_assign (v := .int .i64 (IntKind.i64.wrap (s29.2.2.1 + 1))) rfl rfl) rfl rfl ?_
            clear A1224 S1224 a1224 w1224;intro a1225 w1225 A1225 S1225
            refine wpList_nil ?_
            replace A1225 := A1225.pick' (L' := [(1, .int .i64 p1), (2, va0), (3, va1), (8, .pointer (some ⟨g1, 0, none⟩)), (10, v196), (11, v2), (12, .pointer (some ⟨g2, 0, none⟩)), (13, .int .i64 (IntKind.i64.wrap (s29.2.2.1 + 1)))]) ⟨rfl, rfl, rfl, rfl, rfl, rfl, rfl, rfl, trivial⟩
            refine nrm ?_
            exact ⟨_, (Option.some.inj hm).symm, ⟨v196, v221, v223, A1225.pick' ⟨rfl, rfl, rfl, rfl, rfl, rfl, rfl, rfl, trivial⟩, St.sel S1225 7 [2, 4, 3, 1, 5, 0, 6] rfl rfl⟩⟩
          · replace hm := ifTe hb69 hm
            refine cnd_true (b := decide ((s40.1.length : Int) > p1)) A1214 rfl rfl hb69 ?_
            refine wp_seq ?_
            refine wp_region_lit ?_
            refine sv A1214 S1214 (opT_build (zl := [.int .i64 0, .slice none 0 0, .slice none 0 0]) (r := [.int .i64 0, .slice none 0 0, .slice none 0 0]) [] tb27 tz27 rfl rfl trivial rfl) rfl rfl ?_
            clear A1214 S1214 a1214 w1214;intro a1226 w1226 A1226 S1226
            refine seq_op A1226 S1226 rfl (opT_store_blk (g := g1) (off := 0) (l := [.int .i64 0, .slice none 0 0, .slice none 0 0]) (d := [.int .i64 0, .slice none 0 0, .slice none 0 0]) (E := 27) (u := .agg #[.int .i64 0, .slice none 0 0, .slice none 0 0]) ti27 rfl rfl rfl rfl rfl (allC rfl (allC rfl (allC rfl allN))) (Nat.le_of_ble_eq_true rfl)) (perm_front (i := 3) rfl) rfl ?_
            rintro _ a1227 w1227 - A1227 (S1227 : St I w0 w1227 [Ch.blk g1 [.int .i64 0, .slice none 0 0, .slice none 0 0] 27, Ch.own (rSlice 3 rInt) [v196] s40.1, Ch.mp Try.prog 3 3 iLit iOk iLit 0 v2 s40.2.1, Ch.own (rSlice 3 rInt) [v197] s40.2.2.1, Ch.blk g2 [.int .i64 0, v151, v152] 27, Ch.own (rSlice 4 rBool) [v151] s29.2.2.2.1, Ch.own (rSlice 34 (rSlice 3 rInt)) [v152] s29.2.2.2.2, F])
            clear A1226 S1226 a1226 w1226
            refine sv A1227 S1227 (opT_assign (v := .bool false) rfl rfl) rfl rfl ?_
            clear A1227 S1227 a1227 w1227;intro a1228 w1228 A1228 S1228
            refine wpList_nil ?_
            replace A1228 := A1228.pick' (L' := [(8, .pointer (some ⟨g1, 0, none⟩)), (9, .bool false)]) ⟨rfl, rfl, trivial⟩
            refine nrm ?_
            refine wp_ret ?_
            refine thenR ?_
            refine blkR ?_
            refine thenR ?_
            refine thenR ?_
            refine blkR ?_
            refine thenR ?_
            refine thenR ?_
            replace hm := loopRet hm hf3 hc21
            obtain rfl := Option.some.inj hm
            exact ret_2 A1228 rfl (res_cell (g := g1) A1228 rfl S1228 0 rfl ti27 rfl) (res_tmp A1228 rfl) ⟨_, rfl, ⟨_, _, rfl⟩, _, Hp.le.rfl, St.sel ((St.nil (St.nil S1228))) 10 [1, 0, 9] rfl rfl⟩
  · rintro a1229 w1229 ⟨s30, ho31, v148, v149, A1229, S1229⟩
    replace hm := loopOut ho31 hc21
    clear ho31 hc21 hl3
    refine nrm ?_
    refine wp_seq ?_
    refine wp_region_lit ?_
    refine seq_op A1229 S1229 rfl (opT_load_blk (g := g2) (off := 0) (E := 27) (l := [.int .i64 0, v148, v149]) (d := [.int .i64 0, v148, v149]) (u := .agg #[.int .i64 0, v148, v149]) ti27 rfl rfl rfl rfl rfl rfl) (perm_front (i := 3) rfl) rfl ?_
    rintro u a1230 w1230 hf A1230 (S1230 : St I w0 w1230 [Ch.blk g2 [.int .i64 0, v148, v149] 27, Ch.own (rSlice 4 rBool) [v148] s30.2.2.2.1, Ch.own (rSlice 34 (rSlice 3 rInt)) [v149] s30.2.2.2.2, Ch.blk g1 [.int .i64 0, .slice none 0 0, .slice none 0 0] 27, F])
    obtain rfl := Eq.symm hf
    clear A1229 S1229 a1229 w1229
    refine seq_op A1230 S1230 rfl (opT_store_blk (g := g1) (off := 0) (l := [.int .i64 0, .slice none 0 0, .slice none 0 0]) (d := [.int .i64 0, v148, v149]) (E := 27) (u := .agg #[.int .i64 0, v148, v149]) ti27 rfl rfl rfl rfl rfl (allC rfl (allC (Hd.one (St.hd S1230 1 rfl).1) (allC (Hd.one (St.hd S1230 2 rfl).1) allN))) (Nat.le_of_ble_eq_true rfl)) (perm_front (i := 3) rfl) rfl ?_
    rintro _ a1231 w1231 - A1231 (S1231 : St I w0 w1231 [Ch.blk g1 [.int .i64 0, v148, v149] 27, Ch.blk g2 [.int .i64 0, v148, v149] 27, Ch.own (rSlice 4 rBool) [v148] s30.2.2.2.1, Ch.own (rSlice 34 (rSlice 3 rInt)) [v149] s30.2.2.2.2, F])
    clear A1230 S1230 a1230 w1230
    refine sv A1231 S1231 (opT_assign (v := .bool true) rfl rfl) rfl rfl ?_
    clear A1231 S1231 a1231 w1231;intro a1232 w1232 A1232 S1232
    refine wpList_nil ?_
    replace A1232 := A1232.pick' (L' := [(8, .pointer (some ⟨g1, 0, none⟩)), (9, .bool true)]) ⟨rfl, rfl, trivial⟩
    refine nrm ?_
    refine wp_ret ?_
    obtain rfl := Option.some.inj hm
    exact ret_2 A1232 rfl (res_cell (g := g1) A1232 rfl S1232 0 rfl ti27 rfl) (res_tmp A1232 rfl) ⟨_, rfl, ⟨_, _, rfl⟩, _, Hp.le.rfl, St.sel (S1232) 5 [2, 3, 4] rfl rfl⟩
set_option maxHeartbeats 8000000 in
theorem c_w_toBoolS (p0a : List Bool) (r : List Bool) (hm : m_w_toBoolS p0a = some r) {I : Hp} {w0 : World} (va0 : Value) (ra0 : (rSlice 4 rBool).rd I [va0] p0a) : Con Try.prog 49 #[va0] I w0 [] (fun v => True) (fun v => [Ch.own (rSlice 4 rBool) [v] r]) := by
  refine con_of_wp (n := 22) [(0, va0)] Try.func49 rfl rfl (Nat.le_of_ble_eq_true rfl) (args_all ⟨rfl, trivial⟩) (fun F w a ha hs => ?_) (fun v => ⟨dp_own (dp_slice dp_bool), trivial⟩)
  unfold m_w_toBoolS at hm
  refine wp_seq ?_
  refine wp_region_lit ?_
  refine sv ha hs (opT_assign (v := .slice none 0 0) rfl rfl) rfl rfl ?_
  clear ha hs a w;intro a1 w1 A1 S1
  refine wpList_nil ?_
  replace A1 := A1.pick' (L' := [(0, va0)]) ⟨rfl, trivial⟩
  refine nrm ?_
  refine wp_seq ?_
  refine wp_region_lit ?_
  refine sv A1 S1 (opT_move (v := va0) rfl rfl) rfl rfl ?_
  clear A1 S1 a1 w1;intro a2 w2 A2 S2
  refine sv A2 S2 (opT_len_hd (v := va0) (n := p0a.length) (Hd.of_rd ra0) Try.underlying22 rfl rfl) rfl rfl ?_
  clear A2 S2 a2 w2;intro a3 w3 A3 S3
  obtain ⟨x1, hk1, hm⟩ := bind_some hm
  refine seq_op A3 S3 rfl (opT_mk (E := 4) (R := rBool) (zv := .bool false) (z := (false : Bool)) zro_flat Try.underlying22 tz4 rfl rfl (by decide) (by decide) rfl rfl hk1) (List.Perm.refl _) rfl ?_
  rintro v1 a4 w4 - A4 (S4 : St I w0 w4 [Ch.own (rSlice 4 rBool) [v1] x1, F])
  clear A3 S3 a3 w3
  refine sv A4 S4 (opT_assign (v := v1) rfl rfl) rfl rfl ?_
  clear A4 S4 a4 w4;intro a5 w5 A5 S5
  refine wpList_nil ?_
  replace A5 := A5.pick' (L' := [(0, va0), (3, v1)]) ⟨rfl, rfl, trivial⟩
  refine nrm ?_
  refine wp_seq ?_
  refine wp_seq ?_
  refine wp_region_lit ?_
  refine sv A5 S5 (opT_assign (v := .int .i64 0) rfl rfl) rfl rfl ?_
  clear A5 S5 a5 w5;intro a6 w6 A6 S6
  refine wpList_nil ?_
  replace A6 := A6.pick' (L' := [(0, va0), (3, v1), (4, .int .i64 0)]) ⟨rfl, rfl, rfl, trivial⟩
  refine nrm ?_
  obtain ⟨o1, hl1, hc1⟩ := bindL_some hm
  refine wp_cut (fun a w => ∃ s4 : (List Bool) × Int, o1 = .brk s4 ∧ Agr 22 a [(3, v1)] ∧ St I w0 w [Ch.own (rSlice 4 rBool) [v1] s4.1, F]) ?_ ?_
  · refine wp_block (wp_loopM (R := List Bool) (S := (List Bool) × Int) (fun s3 a w => Agr 22 a [(0, va0), (3, v1), (4, .int .i64 s3.2)] ∧ St I w0 w [Ch.own (rSlice 4 rBool) [v1] s3.1, F]) hl1 ?_ ?_)
    · exact ⟨A6.pick' ⟨rfl, rfl, rfl, trivial⟩, St.sel S6 2 [0, 1] rfl rfl⟩
    · rintro s3 o2 hm hf1 a37 w37 ⟨A37, S37⟩
      unfold m_w_toBoolS_l0 at hm
      refine wp_seq ?_
      refine wp_seq ?_
      refine wp_region_lit ?_
      refine sv A37 S37 (opT_move (v := .int .i64 s3.2) rfl rfl) rfl rfl ?_
      clear A37 S37 a37 w37;intro a38 w38 A38 S38
      refine sv A38 S38 (opT_move (v := va0) rfl rfl) rfl rfl ?_
      clear A38 S38 a38 w38;intro a39 w39 A39 S39
      refine sv A39 S39 (opT_len_hd (v := va0) (n := p0a.length) (Hd.of_rd ra0) Try.underlying22 rfl rfl) rfl rfl ?_
      clear A39 S39 a39 w39;intro a40 w40 A40 S40
      refine sv A40 S40 (opT_cmp (k := .i64) (m := s3.2) (n := (p0a.length : Int)) (c := decide (s3.2 < (p0a.length : Int))) rfl rfl rfl rfl rfl) rfl rfl ?_
      clear A40 S40 a40 w40;intro a41 w41 A41 S41
      refine wpList_nil ?_
      replace A41 := A41.pick' (L' := [(0, va0), (3, v1), (4, .int .i64 s3.2), (11, .bool (decide (s3.2 < (p0a.length : Int))))]) ⟨rfl, rfl, rfl, rfl, trivial⟩
      refine nrm ?_
      rcases two (decide (s3.2 < (p0a.length : Int))) with hb3 | hb3
      · replace hm := ifFe hb3 hm
        refine cnd_false (b := decide (s3.2 < (p0a.length : Int))) A41 rfl rfl hb3 ?_
        refine wp_exit ?_
        refine thenX ?_
        refine thenX ?_
        refine ex_in ?_
        refine nrm ?_
        exact ⟨_, loopBrk hm hf1, ⟨A41.pick' ⟨rfl, trivial⟩, St.sel S41 2 [0, 1] rfl rfl⟩⟩
      · replace hm := ifTe hb3 hm
        refine cnd_true (b := decide (s3.2 < (p0a.length : Int))) A41 rfl rfl hb3 ?_
        refine wp_skip ?_
        refine nrm ?_
        refine wp_seq ?_
        refine wp_block ?_
        refine wp_region_lit ?_
        refine sv A41 S41 (opT_move (v := v1) rfl rfl) rfl rfl ?_
        clear A41 S41 a41 w41;intro a42 w42 A42 S42
        refine sv A42 S42 (opT_move (v := .int .i64 s3.2) rfl rfl) rfl rfl ?_
        clear A42 S42 a42 w42;intro a43 w43 A43 S43
        refine sv A43 S43 (opT_move (v := va0) rfl rfl) rfl rfl ?_
        clear A43 S43 a43 w43;intro a44 w44 A44 S44
        refine sv A44 S44 (opT_move (v := .int .i64 s3.2) rfl rfl) rfl rfl ?_
        clear A44 S44 a44 w44;intro a45 w45 A45 S45
        obtain ⟨x6, e5, hm⟩ := bind_some hm
        refine sv A45 S45 (opT_index_hd (xs := p0a) (i := s3.2) (n := 1) (Hd.of_rd ra0) Try.underlying22 ti4 rfl rfl rfl (getI_in e5)) rfl rfl ?_
        clear A45 S45 a45 w45;intro a46 w46 A46 S46
        refine seq_op0 A46 S46 (opT_load_el (S := rBool) (xs := p0a) (a := x6) (i := s3.2) (k := 1) (off := 0) (f := fun (x : Bool) => x) ra0 e5 Fld.self ti4 rfl rfl rfl rfl rfl) rfl rfl ?_
        rintro u a47 w47 hf A47 S47
        obtain rfl := lds_one hf
        clear A46 S46 a46 w46
        obtain ⟨x7, e6, hm⟩ := bind_some hm
        refine sv A47 S47 (opT_index_hd (xs := s3.1) (i := s3.2) (n := 1) (St.hd S47 0 rfl).1 Try.underlying22 ti4 rfl rfl rfl (getI_in e6)) rfl rfl ?_
        clear A47 S47 a47 w47;intro a48 w48 A48 S48
        refine seq_op A48 S48 rfl (opT_store_el (E := 4) (R := rBool) (S := rBool) (xs := s3.1) (a := x7) (b := x6) (i := s3.2) (k := 1) (off := 0) (f := fun x y => y) (v := v1) (d := [.bool x6]) (u := .bool x6) sh_bool cpy_bool e6 Upd.self ti4 rfl rfl rfl rfl (allC rfl allN) rfl rfl (by decide) rfl) (perm_front (i := 0) rfl) rfl ?_
        rintro _ a49 w49 - A49 (S49 : St I w0 w49 [Ch.own (rSlice 4 rBool) [v1] (s3.1.set s3.2.toNat x6), F])
        clear A48 S48 a48 w48
        refine wpList_nil ?_
        replace A49 := A49.pick' (L' := [(0, va0), (3, v1), (4, .int .i64 s3.2)]) ⟨rfl, rfl, rfl, trivial⟩
        refine nrmB ?_
        refine nrm ?_
        refine wp_region_lit ?_
        refine sv A49 S49 (opT_move (v := .int .i64 s3.2) rfl rfl) rfl rfl ?_
        clear A49 S49 a49 w49;intro a50 w50 A50 S50
        refine sv A50 S50 (opT_add (m := s3.2) (n := 1) rfl rfl rfl) rfl rfl ?_
        clear A50 S50 a50 w50;intro a51 w51 A51 S51
        refine sv A51 S51 (opT_assign (v := .int .i64 (IntKind.i64.wrap (s3.2 + 1))) rfl rfl) rfl rfl ?_
        clear A51 S51 a51 w51;intro a52 w52 A52 S52
        refine wpList_nil ?_
        replace A52 := A52.pick' (L' := [(0, va0), (3, v1), (4, .int .i64 (IntKind.i64.wrap (s3.2 + 1)))]) ⟨rfl, rfl, rfl, trivial⟩
        refine nrm ?_
        exact ⟨_, (Option.some.inj hm).symm, ⟨A52.pick' ⟨rfl, rfl, rfl, trivial⟩, St.sel S52 2 [0, 1] rfl rfl⟩⟩
  · rintro a53 w53 ⟨s4, ho1, A53, S53⟩
    replace hm := loopOut ho1 hc1
    clear ho1 hc1 hl1
    refine nrm ?_
    refine wp_seq ?_
    refine wp_region_lit ?_
    refine sv A53 S53 (opT_move (v := v1) rfl rfl) rfl rfl ?_
    clear A53 S53 a53 w53;intro a54 w54 A54 S54
    refine sv A54 S54 (opT_assign (v := v1) rfl rfl) rfl rfl ?_
    clear A54 S54 a54 w54;intro a55 w55 A55 S55
    refine wpList_nil ?_
    replace A55 := A55.pick' (L' := [(2, v1)]) ⟨rfl, trivial⟩
    refine nrm ?_
    refine wp_ret ?_
    obtain rfl := Option.some.inj hm
    exact ret_1 A55 rfl (res_tmp A55 rfl) ⟨_, rfl, trivial, _, Hp.le.rfl, St.sel (S55) 2 [0, 1] rfl rfl⟩
set_option maxHeartbeats 8000000 in
theorem c_s_l11Find (p0l : List Int) (p1x : Int) (r : Int) (hm : m_s_l11Find p0l p1x = some r) {I : Hp} {w0 : World} (va0 : Value) (ra0 : (rSlice 3 rInt).rd I [va0] p0l) : Con Try.prog 94 #[va0, .int .i64 p1x] I w0 [] (fun v => v = .int .i64 r) (fun v => []) := by
  refine con_of_wp (n := 19) [(0, va0), (1, .int .i64 p1x)] Try.func94 rfl rfl (Nat.le_of_ble_eq_true rfl) (args_all ⟨rfl, rfl, trivial⟩) (fun F w a ha hs => ?_) (fun v => trivial)
  unfold m_s_l11Find at hm
  refine wp_seq ?_
  refine wp_region_lit ?_
  refine sv ha hs (opT_assign (v := .int .i64 0) rfl rfl) rfl rfl ?_
  clear ha hs a w;intro a1 w1 A1 S1
  refine wpList_nil ?_
  replace A1 := A1.pick' (L' := [(0, va0), (1, .int .i64 p1x)]) ⟨rfl, rfl, trivial⟩
  refine nrm ?_
  refine wp_seq ?_
  refine wp_seq ?_
  refine wp_region_lit ?_
  refine sv A1 S1 (opT_assign (v := .int .i64 0) rfl rfl) rfl rfl ?_
  clear A1 S1 a1 w1;intro a2 w2 A2 S2
  refine wpList_nil ?_
  replace A2 := A2.pick' (L' := [(0, va0), (1, .int .i64 p1x), (5, .int .i64 0)]) ⟨rfl, rfl, rfl, trivial⟩
  refine nrm ?_
  obtain ⟨o1, hl1, hc1⟩ := bindL_some hm
  refine wp_cut (fun a w => ∃ s4 : Int, o1 = .brk s4 ∧ Agr 19 a [] ∧ St I w0 w [F]) ?_ ?_
  · refine wp_block (wp_loopM (R := Int) (S := Int) (fun s3 a w => Agr 19 a [(0, va0), (1, .int .i64 p1x), (5, .int .i64 s3)] ∧ St I w0 w [F]) hl1 ?_ ?_)
    · exact ⟨A2.pick' ⟨rfl, rfl, rfl, trivial⟩, St.sel S2 1 [0] rfl rfl⟩
    · rintro s3 o2 hm hf1 a33 w33 ⟨A33, S33⟩
      unfold m_s_l11Find_l0 at hm
      refine wp_seq ?_
      refine wp_seq ?_
      refine wp_region_lit ?_
      refine sv A33 S33 (opT_move (v := .int .i64 s3) rfl rfl) rfl rfl ?_
      clear A33 S33 a33 w33;intro a34 w34 A34 S34
      refine sv A34 S34 (opT_move (v := va0) rfl rfl) rfl rfl ?_
      clear A34 S34 a34 w34;intro a35 w35 A35 S35
      refine sv A35 S35 (opT_len_hd (v := va0) (n := p0l.length) (Hd.of_rd ra0) Try.underlying34 rfl rfl) rfl rfl ?_
      clear A35 S35 a35 w35;intro a36 w36 A36 S36
      refine sv A36 S36 (opT_cmp (k := .i64) (m := s3) (n := (p0l.length : Int)) (c := decide (s3 < (p0l.length : Int))) rfl rfl rfl rfl rfl) rfl rfl ?_
      clear A36 S36 a36 w36;intro a37 w37 A37 S37
      refine wpList_nil ?_
      replace A37 := A37.pick' (L' := [(0, va0), (1, .int .i64 p1x), (5, .int .i64 s3), (9, .bool (decide (s3 < (p0l.length : Int))))]) ⟨rfl, rfl, rfl, rfl, trivial⟩
      refine nrm ?_
      rcases two (decide (s3 < (p0l.length : Int))) with hb5 | hb5
      · replace hm := ifFe hb5 hm
        refine cnd_false (b := decide (s3 < (p0l.length : Int))) A37 rfl rfl hb5 ?_
        refine wp_exit ?_
        refine thenX ?_
        refine thenX ?_
        refine ex_in ?_
        refine nrm ?_
        exact ⟨_, loopBrk hm hf1, ⟨A37.pick' trivial, St.sel S37 1 [0] rfl rfl⟩⟩
      · replace hm := ifTe hb5 hm
        refine cnd_true (b := decide (s3 < (p0l.length : Int))) A37 rfl rfl hb5 ?_
        refine wp_skip ?_
        refine nrm ?_
        refine wp_seq ?_
        refine wp_block ?_
        refine wp_seq ?_
        refine wp_region_lit ?_
        refine sv A37 S37 (opT_move (v := va0) rfl rfl) rfl rfl ?_
        clear A37 S37 a37 w37;intro a38 w38 A38 S38
        refine sv A38 S38 (opT_move (v := .int .i64 s3) rfl rfl) rfl rfl ?_
        clear A38 S38 a38 w38;intro a39 w39 A39 S39
        obtain ⟨x3, e3, hm⟩ := bind_some hm
        refine sv A39 S39 (opT_index_hd (xs := p0l) (i := s3) (n := 1) (Hd.of_rd ra0) Try.underlying34 ti3 rfl rfl rfl (getI_in e3)) rfl rfl ?_
        clear A39 S39 a39 w39;intro a40 w40 A40 S40
        refine seq_op0 A40 S40 (opT_load_el (S := rInt) (xs := p0l) (a := x3) (i := s3) (k := 1) (off := 0) (f := fun (x : Int) => x) ra0 e3 Fld.self ti3 rfl rfl rfl rfl rfl) rfl rfl ?_
        rintro u a41 w41 hf A41 S41
        obtain rfl := lds_one hf
        clear A40 S40 a40 w40
        refine sv A41 S41 (opT_move (v := .int .i64 p1x) rfl rfl) rfl rfl ?_
        clear A41 S41 a41 w41;intro a42 w42 A42 S42
        refine sv A42 S42 (opT_cmp (k := .i64) (m := x3) (n := p1x) (c := x3 == p1x) rfl rfl rfl rfl rfl) rfl rfl ?_
        clear A42 S42 a42 w42;intro a43 w43 A43 S43
        refine wpList_nil ?_
        replace A43 := A43.pick' (L' := [(0, va0), (1, .int .i64 p1x), (5, .int .i64 s3), (17, .bool (x3 == p1x))]) ⟨rfl, rfl, rfl, rfl, trivial⟩
        refine nrm ?_
        rcases two (x3 == p1x) with hb6 | hb6
        · replace hm := ifFe hb6 hm
          refine cnd_false (b := x3 == p1x) A43 rfl rfl hb6 ?_
          refine wp_skip ?_
          refine nrmB ?_
          refine nrm ?_
          refine wp_region_lit ?_
          refine sv A43 S43 (opT_move (v := .int .i64 s3) rfl rfl) rfl rfl ?_
          clear A43 S43 a43 w43;intro a44 w44 A44 S44
          refine sv A44 S44 (opT_add (m := s3) (n := 1) rfl rfl rfl) rfl rfl ?_
          clear A44 S44 a44 w44;intro a45 w45 A45 S45
          refine sv A45 S45 (opT_assign (v := .int .i64 (IntKind.i64.wrap (s3 + 1))) rfl rfl) rfl rfl ?_
          clear A45 S45 a45 w45;intro a46 w46 A46 S46
          refine wpList_nil ?_
          replace A46 := A46.pick' (L' := [(0, va0), (1, .int .i64 p1x), (5, .int .i64 (IntKind.i64.wrap (s3 + 1)))]) ⟨rfl, rfl, rfl, trivial⟩
          refine nrm ?_
          exact ⟨_, (Option.some.inj hm).symm, ⟨A46.pick' ⟨rfl, rfl, rfl, trivial⟩, St.sel S46 1 [0] rfl rfl⟩⟩
        · replace hm := ifTe hb6 hm
          refine cnd_true (b := x3 == p1x) A43 rfl rfl hb6 ?_
          refine wp_seq ?_
          refine wp_region_lit ?_
          refine sv A43 S43 (opT_move (v := .int .i64 s3) rfl rfl) rfl rfl ?_
          clear A43 S43 a43 w43;intro a47 w47 A47 S47
          refine sv A47 S47 (opT_assign (v := .int .i64 s3) rfl rfl) rfl rfl ?_
          clear A47 S47 a47 w47;intro a48 w48 A48 S48
          refine wpList_nil ?_
          replace A48 := A48.pick' (L' := [(4, .int .i64 s3)]) ⟨rfl, trivial⟩
          refine nrm ?_
          refine wp_ret ?_
          refine blkR ?_
          refine thenR ?_
          refine thenR ?_
          refine blkR ?_
          refine thenR ?_
          refine thenR ?_
          replace hm := loopRet hm hf1 hc1
          obtain rfl := Option.some.inj hm
          exact ret_1 A48 rfl (res_tmp A48 rfl) ⟨_, rfl, rfl, _, Hp.le.rfl, St.sel (S48) 1 [0] rfl rfl⟩
  · rintro a49 w49 ⟨s4, ho1, A49, S49⟩
    replace hm := loopOut ho1 hc1
    clear ho1 hc1 hl1
    refine nrm ?_
    refine wp_seq ?_
    refine wp_region_lit ?_
    refine sv A49 S49 (opT_assign (v := .int .i64 (-1)) rfl rfl) rfl rfl ?_
    clear A49 S49 a49 w49;intro a50 w50 A50 S50
    refine wpList_nil ?_
    replace A50 := A50.pick' (L' := [(4, .int .i64 (-1))]) ⟨rfl, trivial⟩
    refine nrm ?_
    refine wp_ret ?_
    obtain rfl := Option.some.inj hm
    exact ret_1 A50 rfl (res_tmp A50 rfl) ⟨_, rfl, rfl, _, Hp.le.rfl, St.sel (S50) 1 [0] rfl rfl⟩
set_option maxHeartbeats 8000000 in
theorem c_g_slices_Clone_S_bool_bool (p0s : List Bool) (r : List Bool) (hm : m_g_slices_Clone_S_bool_bool p0s = some r) {I : Hp} {w0 : World} (va0 : Value) (ra0 : (rSlice 4 rBool).rd I [va0] p0s) : Con Try.prog 147 #[va0] I w0 [] (fun v => True) (fun v => [Ch.own (rSlice 4 rBool) [v] r]) := by
  refine con_of_wp (n := 8) [(0, va0)] Try.func147 rfl rfl (Nat.le_of_ble_eq_true rfl) (args_all ⟨rfl, trivial⟩) (fun F w a ha hs => ?_) (fun v => ⟨dp_own (dp_slice dp_bool), trivial⟩)
  unfold m_g_slices_Clone_S_bool_bool at hm
  refine wp_seq ?_
  refine wp_region_lit ?_
  refine sv ha hs (opT_assign (v := .slice none 0 0) rfl rfl) rfl rfl ?_
  clear ha hs a w;intro a1 w1 A1 S1
  refine wpList_nil ?_
  replace A1 := A1.pick' (L' := [(0, va0)]) ⟨rfl, trivial⟩
  refine nrm ?_
  refine wp_seq ?_
  refine wp_seq ?_
  refine wp_region_lit ?_
  refine sv A1 S1 (opT_move (v := va0) rfl rfl) rfl rfl ?_
  clear A1 S1 a1 w1;intro a2 w2 A2 S2
  refine sv A2 S2 (opT_eqn Try.underlying22 (Hd.of_rd ra0) rfl rfl rfl) rfl rfl ?_
  clear A2 S2 a2 w2;intro a3 w3 A3 S3
  refine wpList_nil ?_
  replace A3 := A3.pick' (L' := [(0, va0), (4, .bool (isNilV va0))]) ⟨rfl, rfl, trivial⟩
  refine nrm ?_
  rcases two (isNilV va0) with hb1 | hb1
  · skip
    refine cnd_false (b := isNilV va0) A3 rfl rfl hb1 ?_
    refine wp_skip ?_
    refine nrm ?_
    refine wp_seq ?_
    refine wp_region_lit ?_
    refine seq_op A3 S3 rfl (opT_lit0 (E := 4) (R := rBool) Try.underlying22 ti4 rfl) (List.Perm.refl _) rfl ?_
    rintro v1 a4 w4 - A4 (S4 : St I w0 w4 [Ch.own (rSlice 4 rBool) [v1] ([] : List Bool), F])
    clear A3 S3 a3 w3
    refine sv A4 S4 (opT_move (v := va0) rfl rfl) rfl rfl ?_
    clear A4 S4 a4 w4;intro a5 w5 A5 S5
    obtain ⟨z1, e1, hm⟩ := bind_some hm
    refine seq_op A5 S5 rfl (opT_app_fro (E := 4) (R := rBool) (S := rBool) (s := v1) (u := va0) e1 cpy_bool rfl ra0 Try.underlying22 tz4 rfl (by decide) rfl (by decide) rfl rfl rfl) (perm_front (i := 0) rfl) rfl ?_
    rintro v2 a6 w6 - A6 (S6 : St I w0 w6 [Ch.own (rSlice 4 rBool) [v2] z1, F])
    clear A5 S5 a5 w5
    refine sv A6 S6 (opT_assign (v := v2) rfl rfl) rfl rfl ?_
    clear A6 S6 a6 w6;intro a7 w7 A7 S7
    refine wpList_nil ?_
    replace A7 := A7.pick' (L' := [(2, v2)]) ⟨rfl, trivial⟩
    refine nrm ?_
    refine wp_ret ?_
    obtain rfl := Option.some.inj hm
    exact ret_1 A7 rfl (res_tmp A7 rfl) ⟨_, rfl, trivial, _, Hp.le.rfl, St.sel (S7) 2 [0, 1] rfl rfl⟩
  · have hz1 : p0s = [] := nil_list hb1 (Hd.of_rd ra0)
    replace hm : (some ([]) : Option (List Bool)) = some r := by simpa [hz1, appI] using hm
    refine cnd_true (b := isNilV va0) A3 rfl rfl hb1 ?_
    refine wp_seq ?_
    refine wp_region_lit ?_
    refine sv A3 S3 (opT_assign (v := .slice none 0 0) rfl rfl) rfl rfl ?_
    clear A3 S3 a3 w3;intro a9 w9 A9 S9
    refine wpList_nil ?_
    replace A9 := A9.pick' (L' := [(2, .slice none 0 0)]) ⟨rfl, trivial⟩
    refine nrm ?_
    refine wp_ret ?_
    refine thenR ?_
    obtain rfl := Option.some.inj hm
    exact ret_1 A9 rfl (res_tmp A9 rfl) ⟨_, rfl, trivial, _, Hp.le.rfl, St.sel ((St.nil S9)) 2 [0, 1] rfl rfl⟩
end Go.Proofs.Ytcihbmdppgpmjaa.D
