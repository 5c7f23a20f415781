/- Printed by dec.py: models of functions and the walks that show them. -/
import Derived.Test.YtcihbmdppgpmjaaIm
set_option linter.unusedVariables false
set_option linter.unusedSimpArgs false
set_option linter.unnecessarySimpa false
set_option maxRecDepth 100000
namespace Go.Proofs.Ytcihbmdppgpmjaa.D
open Go.RowKit
set_option maxHeartbeats 8000000 in
theorem c_i_numbered_int (p0 : Int) (p1 : Int) (p2 : Int → Option Bool) (p3 : Int → Int → Option (Int × Bool)) (r : (Int × (List Bool) × (List (List Int))) × Bool) (hm : m_i_numbered_int p0 p1 p2 p3 = some r) {I : Hp} {w0 : World} (va0 : Value) (va1 : Value) (ra0 : fn115 w0 I va0 p2) (ra1 : fn117 w0 I va1 p3) : Con Try.prog 98 #[.int .i64 p0, .int .i64 p1, va0, va1] I w0 [] (fun v => ∃ h0 h1 : Value, v = .tuple #[.agg #[.int .i64 r.1.1, h0, h1], .bool r.2]) (fun v => [Ch.own (rSlice 4 rBool) [vg v [0, 1]] r.1.2.1, Ch.own (rSlice 34 (rSlice 3 rInt)) [vg v [0, 2]] r.1.2.2]) := by
  refine con_of_wp (n := 96) [(0, .int .i64 p0), (1, .int .i64 p1), (2, va0), (3, va1)] Try.func98 rfl rfl (Nat.le_of_ble_eq_true rfl) (args_all ⟨rfl, rfl, rfl, rfl, trivial⟩) (fun F w a ha hs => ?_) (fun v => ⟨dp_own (dp_slice dp_bool), dp_own (dp_slice (dp_slice dp_int)), trivial⟩)
  unfold m_i_numbered_int at hm
  refine wp_seq ?_
  refine wp_region_lit ?_
  refine seq_op ha hs rfl (opT_alloc (l := [.int .i64 0, .slice none 0 0, .slice none 0 0]) tz27 rfl rfl) (List.Perm.refl _) rfl ?_
  rintro _ aq1 wq1 ⟨g1, rfl⟩ haq1 (hsq1 : St I w0 wq1 [Ch.blk g1 [.int .i64 0, .slice none 0 0, .slice none 0 0] 27, F])
  clear ha hs a w
  refine seq_op0 haq1 hsq1 (opT_assign (v := .bool false) rfl rfl) rfl rfl ?_
  rintro u aq2 wq2 hf haq2 hsq2
  obtain rfl := Eq.symm hf
  clear haq1 hsq1 aq1 wq1
  refine wpList_nil ?_
  replace haq2 := haq2.pick' (L' := [(0, .int .i64 p0), (1, .int .i64 p1), (2, va0), (3, va1), (8, .pointer (some ⟨g1, 0, none⟩))]) ⟨rfl, rfl, rfl, rfl, rfl, trivial⟩
  refine nrm ?_
  refine wp_seq ?_
  refine wp_region_lit ?_
  refine seq_op0 haq2 hsq2 (opT_move (v := .int .i64 p0) rfl rfl) rfl rfl ?_
  rintro u aq3 wq3 hf haq3 hsq3
  obtain rfl := Eq.symm hf
  clear haq2 hsq2 aq2 wq2
  refine seq_op haq3 hsq3 rfl (opT_lit_cpy (E := 3) (R := rInt) (S := rInt) [(.int .i64 p0, [.int .i64 p0])] [p0] cpy_int (rd_all ⟨rfl, trivial⟩) Try.underlying34 tz3 (by decide) rfl (by decide) (by decide) rfl rfl rfl rfl (us_all ⟨⟨rfl, rfl⟩, trivial⟩)) (List.Perm.refl _) rfl ?_
  rintro v1 aq4 wq4 - haq4 (hsq4 : St I w0 wq4 [Ch.own (rSlice 3 rInt) [v1] ([p0]), Ch.blk g1 [.int .i64 0, .slice none 0 0, .slice none 0 0] 27, F])
  clear haq3 hsq3 aq3 wq3
  refine seq_op0 haq4 hsq4 (opT_assign (v := v1) rfl rfl) rfl rfl ?_
  rintro u aq5 wq5 hf haq5 hsq5
  obtain rfl := Eq.symm hf
  clear haq4 hsq4 aq4 wq4
  refine wpList_nil ?_
  replace haq5 := haq5.pick' (L' := [(0, .int .i64 p0), (1, .int .i64 p1), (2, va0), (3, va1), (8, .pointer (some ⟨g1, 0, none⟩)), (10, v1)]) ⟨rfl, rfl, rfl, rfl, rfl, rfl, trivial⟩
  refine nrm ?_
  refine wp_seq ?_
  refine wp_region_lit ?_
  refine seq_op haq5 hsq5 rfl (opT_makeMap (k := 3) (e := 3) (lit := iLit) (ok := iOk) (elit := iLit) (z := 0) rfl) (List.Perm.refl _) rfl ?_
  rintro v2 aq6 wq6 - haq6 (hsq6 : St I w0 wq6 [Ch.mp Try.prog 3 3 iLit iOk iLit 0 v2 ([] : List (Int × Int)), Ch.own (rSlice 3 rInt) [v1] ([p0]), Ch.blk g1 [.int .i64 0, .slice none 0 0, .slice none 0 0] 27, F])
  clear haq5 hsq5 aq5 wq5
  refine seq_op0 haq6 hsq6 (opT_move (v := .int .i64 p0) rfl rfl) rfl rfl ?_
  rintro u aq7 wq7 hf haq7 hsq7
  obtain rfl := Eq.symm hf
  clear haq6 hsq6 aq6 wq6
  obtain ⟨m1, hk1, hm⟩ := bind_some hm
  refine seq_op haq7 hsq7 rfl (opT_putMap (v := v2) (q := p0) (i := 0) kk3 ek3 Try.underlying163 (.inr rfl) rfl rfl rfl hk1) (perm_front (i := 0) rfl) rfl ?_
  rintro _ aq8 wq8 - haq8 (hsq8 : St I w0 wq8 [Ch.mp Try.prog 3 3 iLit iOk iLit 0 v2 m1, Ch.own (rSlice 3 rInt) [v1] ([p0]), Ch.blk g1 [.int .i64 0, .slice none 0 0, .slice none 0 0] 27, F])
  clear haq7 hsq7 aq7 wq7
  refine seq_op0 haq8 hsq8 (opT_move (v := v2) rfl rfl) rfl rfl ?_
  rintro u aq9 wq9 hf haq9 hsq9
  obtain rfl := Eq.symm hf
  clear haq8 hsq8 aq8 wq8
  refine seq_op0 haq9 hsq9 (opT_assign (v := v2) rfl rfl) rfl rfl ?_
  rintro u aq10 wq10 hf haq10 hsq10
  obtain rfl := Eq.symm hf
  clear haq9 hsq9 aq9 wq9
  refine wpList_nil ?_
  replace haq10 := haq10.pick' (L' := [(1, .int .i64 p1), (2, va0), (3, va1), (8, .pointer (some ⟨g1, 0, none⟩)), (10, v1), (11, v2)]) ⟨rfl, rfl, rfl, rfl, rfl, rfl, trivial⟩
  refine nrm ?_
  refine wp_seq ?_
  refine wp_region_lit ?_
  refine seq_op0 haq10 hsq10 (opT_build (zl := [.int .i64 0, .slice none 0 0, .slice none 0 0]) (r := [.int .i64 0, .slice none 0 0, .slice none 0 0]) [] tb27 tz27 rfl rfl trivial rfl) rfl rfl ?_
  rintro u aq11 wq11 hf haq11 hsq11
  obtain rfl := Eq.symm hf
  clear haq10 hsq10 aq10 wq10
  refine seq_op haq11 hsq11 rfl (opT_alloc (l := [.int .i64 0, .slice none 0 0, .slice none 0 0]) tz27 rfl rfl) (List.Perm.refl _) rfl ?_
  rintro _ aq12 wq12 ⟨g2, rfl⟩ haq12 (hsq12 : St I w0 wq12 [Ch.blk g2 [.int .i64 0, .slice none 0 0, .slice none 0 0] 27, Ch.mp Try.prog 3 3 iLit iOk iLit 0 v2 m1, Ch.own (rSlice 3 rInt) [v1] ([p0]), Ch.blk g1 [.int .i64 0, .slice none 0 0, .slice none 0 0] 27, F])
  clear haq11 hsq11 aq11 wq11
  refine seq_op haq12 hsq12 rfl (opT_store_blk (g := g2) (off := 0) (l := [.int .i64 0, .slice none 0 0, .slice none 0 0]) (d := [.int .i64 0, .slice none 0 0, .slice none 0 0]) (E := 27) (u := .agg #[.int .i64 0, .slice none 0 0, .slice none 0 0]) ti27 rfl rfl rfl rfl rfl (allC rfl (allC rfl (allC rfl allN))) (Nat.le_of_ble_eq_true rfl)) (perm_front (i := 0) rfl) rfl ?_
  rintro _ aq13 wq13 - haq13 (hsq13 : St I w0 wq13 [Ch.blk g2 [.int .i64 0, .slice none 0 0, .slice none 0 0] 27, Ch.mp Try.prog 3 3 iLit iOk iLit 0 v2 m1, Ch.own (rSlice 3 rInt) [v1] ([p0]), Ch.blk g1 [.int .i64 0, .slice none 0 0, .slice none 0 0] 27, F])
  clear haq12 hsq12 aq12 wq12
  refine wpList_nil ?_
  replace haq13 := haq13.pick' (L' := [(1, .int .i64 p1), (2, va0), (3, va1), (8, .pointer (some ⟨g1, 0, none⟩)), (10, v1), (11, v2), (12, .pointer (some ⟨g2, 0, none⟩))]) ⟨rfl, rfl, rfl, rfl, rfl, rfl, rfl, trivial⟩
  refine nrm ?_
  refine wp_seq ?_
  refine wp_seq ?_
  refine wp_region_lit ?_
  refine seq_op0 haq13 hsq13 (opT_assign (v := .int .i64 0) rfl rfl) rfl rfl ?_
  rintro u aq14 wq14 hf haq14 hsq14
  obtain rfl := Eq.symm hf
  clear haq13 hsq13 aq13 wq13
  refine wpList_nil ?_
  replace haq14 := haq14.pick' (L' := [(1, .int .i64 p1), (2, va0), (3, va1), (8, .pointer (some ⟨g1, 0, none⟩)), (10, v1), (11, v2), (12, .pointer (some ⟨g2, 0, none⟩)), (13, .int .i64 0)]) ⟨rfl, rfl, rfl, rfl, rfl, rfl, rfl, rfl, trivial⟩
  refine nrm ?_
  obtain ⟨o23, hl3, hc21⟩ := bindL_some hm
  refine wp_cut (fun a w => ∃ s30 : (List Int) × (List (Int × Int)) × Int × (List Bool) × (List (List Int)), o23 = .brk s30 ∧ ∃ v148 v149 : Value, Agr 96 a [(8, .pointer (some ⟨g1, 0, none⟩)), (12, .pointer (some ⟨g2, 0, none⟩))] ∧ St I w0 w [Ch.own (rSlice 4 rBool) [v148] s30.2.2.2.1, Ch.own (rSlice 34 (rSlice 3 rInt)) [v149] s30.2.2.2.2, Ch.blk g1 [.int .i64 0, .slice none 0 0, .slice none 0 0] 27, Ch.blk g2 [.int .i64 0, v148, v149] 27, F]) ?_ ?_
  · refine wp_block (wp_loopM (R := (Int × (List Bool) × (List (List Int))) × Bool) (S := (List Int) × (List (Int × Int)) × Int × (List Bool) × (List (List Int))) (fun s29 a w => ∃ v150 v151 v152 : Value, Agr 96 a [(1, .int .i64 p1), (2, va0), (3, va1), (8, .pointer (some ⟨g1, 0, none⟩)), (10, v150), (11, v2), (12, .pointer (some ⟨g2, 0, none⟩)), (13, .int .i64 s29.2.2.1)] ∧ St I w0 w [Ch.own (rSlice 3 rInt) [v150] s29.1, Ch.mp Try.prog 3 3 iLit iOk iLit 0 v2 s29.2.1, Ch.own (rSlice 4 rBool) [v151] s29.2.2.2.1, Ch.own (rSlice 34 (rSlice 3 rInt)) [v152] s29.2.2.2.2, Ch.blk g1 [.int .i64 0, .slice none 0 0, .slice none 0 0] 27, Ch.blk g2 [.int .i64 0, v151, v152] 27, F]) hl3 ?_ ?_)
    · exact ⟨v1, (.slice none 0 0), (.slice none 0 0), haq14.pick' ⟨rfl, rfl, rfl, rfl, rfl, rfl, rfl, rfl, trivial⟩, St.sel (St.nil (St.nil hsq14)) 7 [4, 3, 1, 0, 5, 2, 6] rfl rfl⟩
    · rintro s29 o24 hm hf3 aq823 wq823 ⟨v150, v151, v152, haq823, hsq823⟩
      unfold m_i_numbered_int_l0 at hm
      refine wp_seq ?_
      refine wp_seq ?_
      refine wp_region_lit ?_
      refine seq_op0 haq823 hsq823 (opT_move (v := .int .i64 s29.2.2.1) rfl rfl) rfl rfl ?_
      rintro u aq824 wq824 hf haq824 hsq824
      obtain rfl := Eq.symm hf
      clear haq823 hsq823 aq823 wq823
      refine seq_op0 haq824 hsq824 (opT_move (v := v150) rfl rfl) rfl rfl ?_
      rintro u aq825 wq825 hf haq825 hsq825
      obtain rfl := Eq.symm hf
      clear haq824 hsq824 aq824 wq824
      refine seq_op0 haq825 hsq825 (opT_len_hd (v := v150) (n := s29.1.length) (St.hd hsq825 0 rfl).1 Try.underlying34 rfl rfl) rfl rfl ?_
      rintro u aq826 wq826 hf haq826 hsq826
      obtain rfl := Eq.symm hf
      clear haq825 hsq825 aq825 wq825
      refine seq_op0 haq826 hsq826 (opT_cmp (k := .i64) (m := s29.2.2.1) (n := (s29.1.length : Int)) (c := decide (s29.2.2.1 < (s29.1.length : Int))) rfl rfl rfl rfl rfl) rfl rfl ?_
      rintro u aq827 wq827 hf haq827 hsq827
      obtain rfl := Eq.symm hf
      clear haq826 hsq826 aq826 wq826
      refine wpList_nil ?_
      replace haq827 := haq827.pick' (L' := [(1, .int .i64 p1), (2, va0), (3, va1), (8, .pointer (some ⟨g1, 0, none⟩)), (10, v150), (11, v2), (12, .pointer (some ⟨g2, 0, none⟩)), (13, .int .i64 s29.2.2.1), (29, .bool (decide (s29.2.2.1 < (s29.1.length : Int))))]) ⟨rfl, rfl, rfl, rfl, rfl, rfl, rfl, rfl, rfl, trivial⟩
      refine nrm ?_
      rcases two (decide (s29.2.2.1 < (s29.1.length : Int))) with hb47 | hb47
      · replace hm := ifFe hb47 hm
        refine cnd_false (b := decide (s29.2.2.1 < (s29.1.length : Int))) haq827 rfl rfl hb47 ?_
        refine wp_exit ?_
        refine thenX ?_
        refine thenX ?_
        refine ex_in ?_
        refine nrm ?_
        exact ⟨_, loopBrk hm hf3, ⟨v151, v152, haq827.pick' ⟨rfl, rfl, trivial⟩, St.sel hsq827 7 [2, 3, 4, 5, 6] rfl rfl⟩⟩
      · replace hm := ifTe hb47 hm
        refine cnd_true (b := decide (s29.2.2.1 < (s29.1.length : Int))) haq827 rfl rfl hb47 ?_
        refine wp_skip ?_
        refine nrm ?_
        refine wp_seq ?_
        refine wp_block ?_
        refine wp_seq ?_
        refine wp_region_lit ?_
        refine seq_op haq827 hsq827 rfl (opT_lit0 (E := 3) (R := rInt) Try.underlying34 ti3 rfl) (List.Perm.refl _) rfl ?_
        rintro v153 aq828 wq828 - haq828 (hsq828 : St I w0 wq828 [Ch.own (rSlice 3 rInt) [v153] ([] : List Int), Ch.own (rSlice 3 rInt) [v150] s29.1, Ch.mp Try.prog 3 3 iLit iOk iLit 0 v2 s29.2.1, Ch.own (rSlice 4 rBool) [v151] s29.2.2.2.1, Ch.own (rSlice 34 (rSlice 3 rInt)) [v152] s29.2.2.2.2, Ch.blk g1 [.int .i64 0, .slice none 0 0, .slice none 0 0] 27, Ch.blk g2 [.int .i64 0, v151, v152] 27, F])
        clear haq827 hsq827 aq827 wq827
        refine seq_op0 haq828 hsq828 (opT_assign (v := v153) rfl rfl) rfl rfl ?_
        rintro u aq829 wq829 hf haq829 hsq829
        obtain rfl := Eq.symm hf
        clear haq828 hsq828 aq828 wq828
        refine wpList_nil ?_
        replace haq829 := haq829.pick' (L' := [(1, .int .i64 p1), (2, va0), (3, va1), (8, .pointer (some ⟨g1, 0, none⟩)), (10, v150), (11, v2), (12, .pointer (some ⟨g2, 0, none⟩)), (13, .int .i64 s29.2.2.1), (14, v153)]) ⟨rfl, rfl, rfl, rfl, rfl, rfl, rfl, rfl, rfl, trivial⟩
        refine nrm ?_
        refine wp_seq ?_
        refine wp_seq ?_
        refine wp_region_lit ?_
        refine seq_op0 haq829 hsq829 (opT_assign (v := .int .i64 0) rfl rfl) rfl rfl ?_
        rintro u aq830 wq830 hf haq830 hsq830
        obtain rfl := Eq.symm hf
        clear haq829 hsq829 aq829 wq829
        refine wpList_nil ?_
        replace haq830 := haq830.pick' (L' := [(1, .int .i64 p1), (2, va0), (3, va1), (8, .pointer (some ⟨g1, 0, none⟩)), (10, v150), (11, v2), (12, .pointer (some ⟨g2, 0, none⟩)), (13, .int .i64 s29.2.2.1), (14, v153), (15, .int .i64 0)]) ⟨rfl, rfl, rfl, rfl, rfl, rfl, rfl, rfl, rfl, rfl, trivial⟩
        refine nrm ?_
        obtain ⟨o31, hl4, hc28⟩ := bindL_some hm
        refine wp_cut (fun a w => ∃ s40 : (List Int) × (List (Int × Int)) × (List Int) × Int, o31 = .brk s40 ∧ ∃ v196 v197 : Value, Agr 96 a [(1, .int .i64 p1), (2, va0), (3, va1), (8, .pointer (some ⟨g1, 0, none⟩)), (10, v196), (11, v2), (12, .pointer (some ⟨g2, 0, none⟩)), (13, .int .i64 s29.2.2.1), (14, v197)] ∧ St I w0 w [Ch.own (rSlice 3 rInt) [v196] s40.1, Ch.mp Try.prog 3 3 iLit iOk iLit 0 v2 s40.2.1, Ch.own (rSlice 3 rInt) [v197] s40.2.2.1, Ch.blk g1 [.int .i64 0, .slice none 0 0, .slice none 0 0] 27, Ch.blk g2 [.int .i64 0, v151, v152] 27, Ch.own (rSlice 4 rBool) [v151] s29.2.2.2.1, Ch.own (rSlice 34 (rSlice 3 rInt)) [v152] s29.2.2.2.2, F]) ?_ ?_
        · refine wp_block (wp_loopM (R := (Int × (List Bool) × (List (List Int))) × Bool) (S := (List Int) × (List (Int × Int)) × (List Int) × Int) (fun s39 a w => ∃ v198 v199 : Value, Agr 96 a [(1, .int .i64 p1), (2, va0), (3, va1), (8, .pointer (some ⟨g1, 0, none⟩)), (10, v198), (11, v2), (12, .pointer (some ⟨g2, 0, none⟩)), (13, .int .i64 s29.2.2.1), (14, v199), (15, .int .i64 s39.2.2.2)] ∧ St I w0 w [Ch.own (rSlice 3 rInt) [v198] s39.1, Ch.mp Try.prog 3 3 iLit iOk iLit 0 v2 s39.2.1, Ch.own (rSlice 3 rInt) [v199] s39.2.2.1, Ch.blk g1 [.int .i64 0, .slice none 0 0, .slice none 0 0] 27, Ch.blk g2 [.int .i64 0, v151, v152] 27, Ch.own (rSlice 4 rBool) [v151] s29.2.2.2.1, Ch.own (rSlice 34 (rSlice 3 rInt)) [v152] s29.2.2.2.2, F]) hl4 ?_ ?_)
          · exact ⟨v150, v153, haq830.pick' ⟨rfl, rfl, rfl, rfl, rfl, rfl, rfl, rfl, rfl, rfl, trivial⟩, St.sel hsq830 8 [1, 2, 0, 5, 6, 3, 4, 7] rfl rfl⟩
          · rintro s39 o32 hm hf4 aq1083 wq1083 ⟨v198, v199, haq1083, hsq1083⟩
            unfold m_i_numbered_int_l1 at hm
            refine wp_seq ?_
            refine wp_seq ?_
            refine wp_region_lit ?_
            refine seq_op0 haq1083 hsq1083 (opT_move (v := .int .i64 s39.2.2.2) rfl rfl) rfl rfl ?_
            rintro u aq1084 wq1084 hf haq1084 hsq1084
            obtain rfl := Eq.symm hf
            clear haq1083 hsq1083 aq1083 wq1083
            refine seq_op0 haq1084 hsq1084 (opT_cmp (k := .i64) (m := s39.2.2.2) (n := 9) (c := decide (s39.2.2.2 < 9)) rfl rfl rfl rfl rfl) rfl rfl ?_
            rintro u aq1085 wq1085 hf haq1085 hsq1085
            obtain rfl := Eq.symm hf
            clear haq1084 hsq1084 aq1084 wq1084
            refine wpList_nil ?_
            replace haq1085 := haq1085.pick' (L' := [(1, .int .i64 p1), (2, va0), (3, va1), (8, .pointer (some ⟨g1, 0, none⟩)), (10, v198), (11, v2), (12, .pointer (some ⟨g2, 0, none⟩)), (13, .int .i64 s29.2.2.1), (14, v199), (15, .int .i64 s39.2.2.2), (34, .bool (decide (s39.2.2.2 < 9)))]) ⟨rfl, rfl, rfl, rfl, rfl, rfl, rfl, rfl, rfl, rfl, rfl, trivial⟩
            refine nrm ?_
            rcases two (decide (s39.2.2.2 < 9)) with hb62 | hb62
            · replace hm := ifFe hb62 hm
              refine cnd_false (b := decide (s39.2.2.2 < 9)) haq1085 rfl rfl hb62 ?_
              refine wp_exit ?_
              refine thenX ?_
              refine thenX ?_
              refine ex_in ?_
              refine nrm ?_
              exact ⟨_, loopBrk hm hf4, ⟨v198, v199, haq1085.pick' ⟨rfl, rfl, rfl, rfl, rfl, rfl, rfl, rfl, rfl, trivial⟩, St.sel hsq1085 8 [0, 1, 2, 3, 4, 5, 6, 7] rfl rfl⟩⟩
            · replace hm := ifTe hb62 hm
              refine cnd_true (b := decide (s39.2.2.2 < 9)) haq1085 rfl rfl hb62 ?_
              refine wp_skip ?_
              refine nrm ?_
              obtain ⟨s42, hj26, hm⟩ := bind_some hm
              refine wp_seq_cut (fun a w => ∃ v209 v210 : Value, Agr 96 a [(1, .int .i64 p1), (2, va0), (3, va1), (8, .pointer (some ⟨g1, 0, none⟩)), (10, v209), (11, v2), (12, .pointer (some ⟨g2, 0, none⟩)), (13, .int .i64 s29.2.2.1), (14, v210), (15, .int .i64 s39.2.2.2)] ∧ St I w0 w [Ch.own (rSlice 3 rInt) [v209] s42.1, Ch.mp Try.prog 3 3 iLit iOk iLit 0 v2 s42.2.1, Ch.own (rSlice 3 rInt) [v210] s42.2.2, Ch.blk g1 [.int .i64 0, .slice none 0 0, .slice none 0 0] 27, Ch.blk g2 [.int .i64 0, v151, v152] 27, Ch.own (rSlice 4 rBool) [v151] s29.2.2.2.1, Ch.own (rSlice 34 (rSlice 3 rInt)) [v152] s29.2.2.2.2, F]) ?_ ?_
              · replace hm := hj26
                refine wp_block ?_
                refine wp_seq ?_
                refine wp_region_lit ?_
                refine seq_op0 haq1085 hsq1085 (opT_move (v := va1) rfl rfl) rfl rfl ?_
                rintro u aq1146 wq1146 hf haq1146 hsq1146
                obtain rfl := Eq.symm hf
                clear haq1085 hsq1085 aq1085 wq1085
                refine seq_op0 haq1146 hsq1146 (opT_move (v := v198) rfl rfl) rfl rfl ?_
                rintro u aq1147 wq1147 hf haq1147 hsq1147
                obtain rfl := Eq.symm hf
                clear haq1146 hsq1146 aq1146 wq1146
                refine seq_op0 haq1147 hsq1147 (opT_move (v := .int .i64 s29.2.2.1) rfl rfl) rfl rfl ?_
                rintro u aq1148 wq1148 hf haq1148 hsq1148
                obtain rfl := Eq.symm hf
                clear haq1147 hsq1147 aq1147 wq1147
                obtain ⟨x20, e111, hm⟩ := bind_some hm
                refine seq_op0 haq1148 hsq1148 (opT_index_hd (xs := s39.1) (i := s29.2.2.1) (n := 1) (St.hd hsq1148 0 rfl).1 Try.underlying34 ti3 rfl rfl rfl (getI_in e111)) rfl rfl ?_
                rintro u aq1149 wq1149 hf haq1149 hsq1149
                obtain rfl := Eq.symm hf
                clear haq1148 hsq1148 aq1148 wq1148
                refine seq_op haq1149 hsq1149 rfl (opT_load_own (E := 3) (R := rInt) (S := rInt) (xs := s39.1) (a := x20) (i := s29.2.2.1) (k := 1) (off := 0) (f := fun (x : Int) => x) sh_int e111 Fld.self ti3 rfl rfl rfl rfl rfl) (perm_front (i := 0) rfl) rfl ?_
                rintro u aq1150 wq1150 hf haq1150 (hsq1150 : St I w0 wq1150 [Ch.own (rSlice 3 rInt) [v198] s39.1, Ch.mp Try.prog 3 3 iLit iOk iLit 0 v2 s39.2.1, Ch.own (rSlice 3 rInt) [v199] s39.2.2.1, Ch.blk g1 [.int .i64 0, .slice none 0 0, .slice none 0 0] 27, Ch.blk g2 [.int .i64 0, v151, v152] 27, Ch.own (rSlice 4 rBool) [v151] s29.2.2.2.1, Ch.own (rSlice 34 (rSlice 3 rInt)) [v152] s29.2.2.2.2, F])
                obtain rfl := lds_one hf
                clear haq1149 hsq1149 aq1149 wq1149
                refine seq_op0 haq1150 hsq1150 (opT_move (v := .int .i64 s39.2.2.2) rfl rfl) rfl rfl ?_
                rintro u aq1151 wq1151 hf haq1151 hsq1151
                obtain rfl := Eq.symm hf
                clear haq1150 hsq1150 aq1150 wq1150
                obtain ⟨r20, e112, hm⟩ := bind_some hm
                refine seq_op0 haq1151 hsq1151 (opT_call_clo (v := va1) (args := [.int .i64 x20, .int .i64 s39.2.2.2]) (ra1.2 _ Hp.le.rfl x20 s39.2.2.2 _ e112  ) rfl rfl rfl) rfl rfl ?_
                rintro u aq1152 wq1152 hf haq1152 hsq1152
                obtain rfl := Eq.symm hf
                clear haq1151 hsq1151 aq1151 wq1151
                refine seq_op0 haq1152 hsq1152 (opT_move (v := .tuple #[.int .i64 r20.1, .bool r20.2]) rfl rfl) rfl rfl ?_
                rintro u aq1153 wq1153 hf haq1153 hsq1153
                obtain rfl := Eq.symm hf
                clear haq1152 hsq1152 aq1152 wq1152
                refine seq_op0 haq1153 hsq1153 (opT_extract (vs := #[.int .i64 r20.1, .bool r20.2]) (v := .int .i64 r20.1) rfl rfl rfl) rfl rfl ?_
                rintro u aq1154 wq1154 hf haq1154 hsq1154
                obtain rfl := Eq.symm hf
                clear haq1153 hsq1153 aq1153 wq1153
                refine seq_op0 haq1154 hsq1154 (opT_extract (vs := #[.int .i64 r20.1, .bool r20.2]) (v := .bool r20.2) rfl rfl rfl) rfl rfl ?_
                rintro u aq1155 wq1155 hf haq1155 hsq1155
                obtain rfl := Eq.symm hf
                clear haq1154 hsq1154 aq1154 wq1154
                refine seq_op0 haq1155 hsq1155 (opT_assign (v := .int .i64 r20.1) rfl rfl) rfl rfl ?_
                rintro u aq1156 wq1156 hf haq1156 hsq1156
                obtain rfl := Eq.symm hf
                clear haq1155 hsq1155 aq1155 wq1155
                refine seq_op0 haq1156 hsq1156 (opT_assign (v := .bool r20.2) rfl rfl) rfl rfl ?_
                rintro u aq1157 wq1157 hf haq1157 hsq1157
                obtain rfl := Eq.symm hf
                clear haq1156 hsq1156 aq1156 wq1156
                refine wpList_nil ?_
                replace haq1157 := haq1157.pick' (L' := [(1, .int .i64 p1), (2, va0), (3, va1), (8, .pointer (some ⟨g1, 0, none⟩)), (10, v198), (11, v2), (12, .pointer (some ⟨g2, 0, none⟩)), (13, .int .i64 s29.2.2.1), (14, v199), (15, .int .i64 s39.2.2.2), (16, .int .i64 r20.1), (17, .bool r20.2)]) ⟨rfl, rfl, rfl, rfl, rfl, rfl, rfl, rfl, rfl, rfl, rfl, rfl, trivial⟩
                refine nrm ?_
                refine wp_seq ?_
                refine wp_seq ?_
                refine wp_region_lit ?_
                refine seq_op0 haq1157 hsq1157 (opT_move (v := .bool r20.2) rfl rfl) rfl rfl ?_
                rintro u aq1158 wq1158 hf haq1158 hsq1158
                obtain rfl := Eq.symm hf
                clear haq1157 hsq1157 aq1157 wq1157
                refine seq_op0 haq1158 hsq1158 (opT_not (b := r20.2) rfl rfl) rfl rfl ?_
                rintro u aq1159 wq1159 hf haq1159 hsq1159
                obtain rfl := Eq.symm hf
                clear haq1158 hsq1158 aq1158 wq1158
                refine wpList_nil ?_
                replace haq1159 := haq1159.pick' (L' := [(1, .int .i64 p1), (2, va0), (3, va1), (8, .pointer (some ⟨g1, 0, none⟩)), (10, v198), (11, v2), (12, .pointer (some ⟨g2, 0, none⟩)), (13, .int .i64 s29.2.2.1), (14, v199), (15, .int .i64 s39.2.2.2), (16, .int .i64 r20.1), (48, .bool (!r20.2))]) ⟨rfl, rfl, rfl, rfl, rfl, rfl, rfl, rfl, rfl, rfl, rfl, rfl, trivial⟩
                refine nrm ?_
                rcases two (r20.2) with hb66 | hb66
                · replace hm := ifFe hb66 hm
                  refine cnd_true (b := !r20.2) haq1159 rfl rfl (notT hb66) ?_
                  refine wp_seq ?_
                  refine wp_region_lit ?_
                  refine seq_op0 haq1159 hsq1159 (opT_move (v := v199) rfl rfl) rfl rfl ?_
                  rintro u aq1160 wq1160 hf haq1160 hsq1160
                  obtain rfl := Eq.symm hf
                  clear haq1159 hsq1159 aq1159 wq1159
                  refine seq_op haq1160 hsq1160 rfl (opT_lit_cpy (E := 3) (R := rInt) (S := rInt) [(.int .i64 (-1), [.int .i64 (-1)])] [-1] cpy_int (rd_all ⟨rfl, trivial⟩) Try.underlying34 tz3 (by decide) rfl (by decide) (by decide) rfl rfl rfl rfl (us_all ⟨⟨rfl, rfl⟩, trivial⟩)) (List.Perm.refl _) rfl ?_
                  rintro v211 aq1161 wq1161 - haq1161 (hsq1161 : St I w0 wq1161 [Ch.own (rSlice 3 rInt) [v211] ([-1]), Ch.own (rSlice 3 rInt) [v198] s39.1, Ch.mp Try.prog 3 3 iLit iOk iLit 0 v2 s39.2.1, Ch.own (rSlice 3 rInt) [v199] s39.2.2.1, Ch.blk g1 [.int .i64 0, .slice none 0 0, .slice none 0 0] 27, Ch.blk g2 [.int .i64 0, v151, v152] 27, Ch.own (rSlice 4 rBool) [v151] s29.2.2.2.1, Ch.own (rSlice 34 (rSlice 3 rInt)) [v152] s29.2.2.2.2, F])
                  clear haq1160 hsq1160 aq1160 wq1160
                  obtain ⟨z73, e113, hm⟩ := bind_some hm
                  refine seq_op haq1161 hsq1161 rfl (opT_app (E := 3) (R := rInt) (s := v199) (u := v211) e113 Try.underlying34 tz3 rfl (by decide) rfl (by decide) rfl rfl rfl) (perm_sel [3, 0, 1, 2, 4, 5, 6, 7, 8] (m := 9) rfl rfl) rfl ?_
                  rintro v212 aq1162 wq1162 - haq1162 (hsq1162 : St I w0 wq1162 [Ch.own (rSlice 3 rInt) [v212] z73, Ch.own (rSlice 3 rInt) [v198] s39.1, Ch.mp Try.prog 3 3 iLit iOk iLit 0 v2 s39.2.1, Ch.blk g1 [.int .i64 0, .slice none 0 0, .slice none 0 0] 27, Ch.blk g2 [.int .i64 0, v151, v152] 27, Ch.own (rSlice 4 rBool) [v151] s29.2.2.2.1, Ch.own (rSlice 34 (rSlice 3 rInt)) [v152] s29.2.2.2.2, F])
                  clear haq1161 hsq1161 aq1161 wq1161
                  refine seq_op0 haq1162 hsq1162 (opT_assign (v := v212) rfl rfl) rfl rfl ?_
                  rintro u aq1163 wq1163 hf haq1163 hsq1163
                  obtain rfl := Eq.symm hf
                  clear haq1162 hsq1162 aq1162 wq1162
                  refine wpList_nil ?_
                  replace haq1163 := haq1163.pick' (L' := [(1, .int .i64 p1), (2, va0), (3, va1), (8, .pointer (some ⟨g1, 0, none⟩)), (10, v198), (11, v2), (12, .pointer (some ⟨g2, 0, none⟩)), (13, .int .i64 s29.2.2.1), (14, v212), (15, .int .i64 s39.2.2.2)]) ⟨rfl, rfl, rfl, rfl, rfl, rfl, rfl, rfl, rfl, rfl, trivial⟩
                  refine nrm ?_
                  refine wp_exit ?_
                  refine thenX ?_
                  refine ex_in ?_
                  refine nrm ?_
                  obtain rfl := Option.some.inj hm
                  exact ⟨v198, v212, haq1163.pick' ⟨rfl, rfl, rfl, rfl, rfl, rfl, rfl, rfl, rfl, rfl, trivial⟩, St.sel hsq1163 8 [1, 2, 0, 3, 4, 5, 6, 7] rfl rfl⟩
                · replace hm := ifTe hb66 hm
                  refine cnd_false (b := !r20.2) haq1159 rfl rfl (notF hb66) ?_
                  refine wp_skip ?_
                  refine nrm ?_
                  refine wp_seq ?_
                  refine wp_region_lit ?_
                  refine seq_op0 haq1159 hsq1159 (opT_move (v := v2) rfl rfl) rfl rfl ?_
                  rintro u aq1164 wq1164 hf haq1164 hsq1164
                  obtain rfl := Eq.symm hf
                  clear haq1159 hsq1159 aq1159 wq1159
                  refine seq_op0 haq1164 hsq1164 (opT_move (v := .int .i64 r20.1) rfl rfl) rfl rfl ?_
                  rintro u aq1165 wq1165 hf haq1165 hsq1165
                  obtain rfl := Eq.symm hf
                  clear haq1164 hsq1164 aq1164 wq1164
                  obtain ⟨_, hk53, hm⟩ := bind_some hm
                  refine seq_op haq1165 hsq1165 rfl (opT_lookMap (v := v2) (q := r20.1) (M := s39.2.1) kk3 ek3 (chk_some hk53) Try.underlying163 rfl rfl rfl) (perm_front (i := 1) rfl) rfl ?_
                  rintro u aq1166 wq1166 hf haq1166 (hsq1166 : St I w0 wq1166 [Ch.mp Try.prog 3 3 iLit iOk iLit 0 v2 s39.2.1, Ch.own (rSlice 3 rInt) [v198] s39.1, Ch.own (rSlice 3 rInt) [v199] s39.2.2.1, Ch.blk g1 [.int .i64 0, .slice none 0 0, .slice none 0 0] 27, Ch.blk g2 [.int .i64 0, v151, v152] 27, Ch.own (rSlice 4 rBool) [v151] s29.2.2.2.1, Ch.own (rSlice 34 (rSlice 3 rInt)) [v152] s29.2.2.2.2, F])
                  obtain rfl := Eq.symm hf
                  clear haq1165 hsq1165 aq1165 wq1165
                  refine seq_op0 haq1166 hsq1166 (opT_move (v := .tuple #[.int .i64 ((List.lookup r20.1 s39.2.1).getD 0), .bool ((List.lookup r20.1 s39.2.1).isSome)]) rfl rfl) rfl rfl ?_
                  rintro u aq1167 wq1167 hf haq1167 hsq1167
                  obtain rfl := Eq.symm hf
                  clear haq1166 hsq1166 aq1166 wq1166
                  refine seq_op0 haq1167 hsq1167 (opT_extract (vs := #[.int .i64 ((List.lookup r20.1 s39.2.1).getD 0), .bool ((List.lookup r20.1 s39.2.1).isSome)]) (v := .int .i64 ((List.lookup r20.1 s39.2.1).getD 0)) rfl rfl rfl) rfl rfl ?_
                  rintro u aq1168 wq1168 hf haq1168 hsq1168
                  obtain rfl := Eq.symm hf
                  clear haq1167 hsq1167 aq1167 wq1167
                  refine seq_op0 haq1168 hsq1168 (opT_extract (vs := #[.int .i64 ((List.lookup r20.1 s39.2.1).getD 0), .bool ((List.lookup r20.1 s39.2.1).isSome)]) (v := .bool ((List.lookup r20.1 s39.2.1).isSome)) rfl rfl rfl) rfl rfl ?_
                  rintro u aq1169 wq1169 hf haq1169 hsq1169
                  obtain rfl := Eq.symm hf
                  clear haq1168 hsq1168 aq1168 wq1168
                  refine seq_op0 haq1169 hsq1169 (opT_assign (v := .int .i64 ((List.lookup r20.1 s39.2.1).getD 0)) rfl rfl) rfl rfl ?_
                  rintro u aq1170 wq1170 hf haq1170 hsq1170
                  obtain rfl := Eq.symm hf
                  clear haq1169 hsq1169 aq1169 wq1169
                  refine seq_op0 haq1170 hsq1170 (opT_assign (v := .bool ((List.lookup r20.1 s39.2.1).isSome)) rfl rfl) rfl rfl ?_
                  rintro u aq1171 wq1171 hf haq1171 hsq1171
                  obtain rfl := Eq.symm hf
                  clear haq1170 hsq1170 aq1170 wq1170
                  refine wpList_nil ?_
                  replace haq1171 := haq1171.pick' (L' := [(1, .int .i64 p1), (2, va0), (3, va1), (8, .pointer (some ⟨g1, 0, none⟩)), (10, v198), (11, v2), (12, .pointer (some ⟨g2, 0, none⟩)), (13, .int .i64 s29.2.2.1), (14, v199), (15, .int .i64 s39.2.2.2), (16, .int .i64 r20.1), (18, .int .i64 ((List.lookup r20.1 s39.2.1).getD 0)), (19, .bool ((List.lookup r20.1 s39.2.1).isSome))]) ⟨rfl, rfl, rfl, rfl, rfl, rfl, rfl, rfl, rfl, rfl, rfl, rfl, rfl, trivial⟩
                  refine nrm ?_
                  obtain ⟨s43, hj27, hm⟩ := bind_some hm
                  refine wp_seq_cut (fun a w => ∃ v215 : Value, Agr 96 a [(1, .int .i64 p1), (2, va0), (3, va1), (8, .pointer (some ⟨g1, 0, none⟩)), (10, v215), (11, v2), (12, .pointer (some ⟨g2, 0, none⟩)), (13, .int .i64 s29.2.2.1), (14, v199), (15, .int .i64 s39.2.2.2), (18, .int .i64 s43.2.2)] ∧ St I w0 w [Ch.own (rSlice 3 rInt) [v215] s43.1, Ch.mp Try.prog 3 3 iLit iOk iLit 0 v2 s43.2.1, Ch.blk g1 [.int .i64 0, .slice none 0 0, .slice none 0 0] 27, Ch.blk g2 [.int .i64 0, v151, v152] 27, Ch.own (rSlice 4 rBool) [v151] s29.2.2.2.1, Ch.own (rSlice 34 (rSlice 3 rInt)) [v152] s29.2.2.2.2, Ch.own (rSlice 3 rInt) [v199] s39.2.2.1, F]) ?_ ?_
                  · replace hm := hj27
                    refine wp_seq ?_
                    refine wp_region_lit ?_
                    refine seq_op0 haq1171 hsq1171 (opT_move (v := .bool ((List.lookup r20.1 s39.2.1).isSome)) rfl rfl) rfl rfl ?_
                    rintro u aq1186 wq1186 hf haq1186 hsq1186
                    obtain rfl := Eq.symm hf
                    clear haq1171 hsq1171 aq1171 wq1171
                    refine seq_op0 haq1186 hsq1186 (opT_not (b := (List.lookup r20.1 s39.2.1).isSome) rfl rfl) rfl rfl ?_
                    rintro u aq1187 wq1187 hf haq1187 hsq1187
                    obtain rfl := Eq.symm hf
                    clear haq1186 hsq1186 aq1186 wq1186
                    refine wpList_nil ?_
                    replace haq1187 := haq1187.pick' (L' := [(1, .int .i64 p1), (2, va0), (3, va1), (8, .pointer (some ⟨g1, 0, none⟩)), (10, v198), (11, v2), (12, .pointer (some ⟨g2, 0, none⟩)), (13, .int .i64 s29.2.2.1), (14, v199), (15, .int .i64 s39.2.2.2), (16, .int .i64 r20.1), (18, .int .i64 ((List.lookup r20.1 s39.2.1).getD 0)), (59, .bool (!((List.lookup r20.1 s39.2.1).isSome)))]) ⟨rfl, rfl, rfl, rfl, rfl, rfl, rfl, rfl, rfl, rfl, rfl, rfl, rfl, trivial⟩
                    refine nrm ?_
                    rcases two ((List.lookup r20.1 s39.2.1).isSome) with hb68 | hb68
                    · replace hm := ifFe hb68 hm
                      refine cnd_true (b := !((List.lookup r20.1 s39.2.1).isSome)) haq1187 rfl rfl (notT hb68) ?_
                      refine wp_seq ?_
                      refine wp_region_lit ?_
                      refine seq_op0 haq1187 hsq1187 (opT_move (v := v198) rfl rfl) rfl rfl ?_
                      rintro u aq1188 wq1188 hf haq1188 hsq1188
                      obtain rfl := Eq.symm hf
                      clear haq1187 hsq1187 aq1187 wq1187
                      refine seq_op0 haq1188 hsq1188 (opT_len_hd (v := v198) (n := s39.1.length) (St.hd hsq1188 1 rfl).1 Try.underlying34 rfl rfl) rfl rfl ?_
                      rintro u aq1189 wq1189 hf haq1189 hsq1189
                      obtain rfl := Eq.symm hf
                      clear haq1188 hsq1188 aq1188 wq1188
                      refine seq_op0 haq1189 hsq1189 (opT_assign (v := .int .i64 (s39.1.length : Int)) rfl rfl) rfl rfl ?_
                      rintro u aq1190 wq1190 hf haq1190 hsq1190
                      obtain rfl := Eq.symm hf
                      clear haq1189 hsq1189 aq1189 wq1189
                      refine wpList_nil ?_
                      replace haq1190 := haq1190.pick' (L' := [(1, .int .i64 p1), (2, va0), (3, va1), (8, .pointer (some ⟨g1, 0, none⟩)), (10, v198), (11, v2), (12, .pointer (some ⟨g2, 0, none⟩)), (13, .int .i64 s29.2.2.1), (14, v199), (15, .int .i64 s39.2.2.2), (16, .int .i64 r20.1), (18, .int .i64 (s39.1.length : Int))]) ⟨rfl, rfl, rfl, rfl, rfl, rfl, rfl, rfl, rfl, rfl, rfl, rfl, trivial⟩
                      refine nrm ?_
                      refine wp_seq ?_
                      refine wp_region_lit ?_
                      refine seq_op0 haq1190 hsq1190 (opT_move (v := v2) rfl rfl) rfl rfl ?_
                      rintro u aq1191 wq1191 hf haq1191 hsq1191
                      obtain rfl := Eq.symm hf
                      clear haq1190 hsq1190 aq1190 wq1190
                      refine seq_op0 haq1191 hsq1191 (opT_move (v := .int .i64 r20.1) rfl rfl) rfl rfl ?_
                      rintro u aq1192 wq1192 hf haq1192 hsq1192
                      obtain rfl := Eq.symm hf
                      clear haq1191 hsq1191 aq1191 wq1191
                      refine seq_op0 haq1192 hsq1192 (opT_move (v := .int .i64 (s39.1.length : Int)) rfl rfl) rfl rfl ?_
                      rintro u aq1193 wq1193 hf haq1193 hsq1193
                      obtain rfl := Eq.symm hf
                      clear haq1192 hsq1192 aq1192 wq1192
                      obtain ⟨m37, hk55, hm⟩ := bind_some hm
                      refine seq_op haq1193 hsq1193 rfl (opT_putMap (v := v2) (q := r20.1) (i := (s39.1.length : Int)) kk3 ek3 Try.underlying163 (.inl rfl) rfl rfl rfl hk55) (perm_front (i := 0) rfl) rfl ?_
                      rintro _ aq1194 wq1194 - haq1194 (hsq1194 : St I w0 wq1194 [Ch.mp Try.prog 3 3 iLit iOk iLit 0 v2 m37, Ch.own (rSlice 3 rInt) [v198] s39.1, Ch.own (rSlice 3 rInt) [v199] s39.2.2.1, Ch.blk g1 [.int .i64 0, .slice none 0 0, .slice none 0 0] 27, Ch.blk g2 [.int .i64 0, v151, v152] 27, Ch.own (rSlice 4 rBool) [v151] s29.2.2.2.1, Ch.own (rSlice 34 (rSlice 3 rInt)) [v152] s29.2.2.2.2, F])
                      clear haq1193 hsq1193 aq1193 wq1193
                      refine wpList_nil ?_
                      replace haq1194 := haq1194.pick' (L' := [(1, .int .i64 p1), (2, va0), (3, va1), (8, .pointer (some ⟨g1, 0, none⟩)), (10, v198), (11, v2), (12, .pointer (some ⟨g2, 0, none⟩)), (13, .int .i64 s29.2.2.1), (14, v199), (15, .int .i64 s39.2.2.2), (16, .int .i64 r20.1), (18, .int .i64 (s39.1.length : Int))]) ⟨rfl, rfl, rfl, rfl, rfl, rfl, rfl, rfl, rfl, rfl, rfl, rfl, trivial⟩
                      refine nrm ?_
                      refine wp_region_lit ?_
                      refine seq_op0 haq1194 hsq1194 (opT_move (v := v198) rfl rfl) rfl rfl ?_
                      rintro u aq1195 wq1195 hf haq1195 hsq1195
                      obtain rfl := Eq.symm hf
                      clear haq1194 hsq1194 aq1194 wq1194
                      refine seq_op0 haq1195 hsq1195 (opT_move (v := .int .i64 r20.1) rfl rfl) rfl rfl ?_
                      rintro u aq1196 wq1196 hf haq1196 hsq1196
                      obtain rfl := Eq.symm hf
                      clear haq1195 hsq1195 aq1195 wq1195
                      refine seq_op haq1196 hsq1196 rfl (opT_lit_cpy (E := 3) (R := rInt) (S := rInt) [(.int .i64 r20.1, [.int .i64 r20.1])] [r20.1] cpy_int (rd_all ⟨rfl, trivial⟩) Try.underlying34 tz3 (by decide) rfl (by decide) (by decide) rfl rfl rfl rfl (us_all ⟨⟨rfl, rfl⟩, trivial⟩)) (List.Perm.refl _) rfl ?_
                      rintro v216 aq1197 wq1197 - haq1197 (hsq1197 : St I w0 wq1197 [Ch.own (rSlice 3 rInt) [v216] ([r20.1]), Ch.mp Try.prog 3 3 iLit iOk iLit 0 v2 m37, Ch.own (rSlice 3 rInt) [v198] s39.1, Ch.own (rSlice 3 rInt) [v199] s39.2.2.1, Ch.blk g1 [.int .i64 0, .slice none 0 0, .slice none 0 0] 27, Ch.blk g2 [.int .i64 0, v151, v152] 27, Ch.own (rSlice 4 rBool) [v151] s29.2.2.2.1, Ch.own (rSlice 34 (rSlice 3 rInt)) [v152] s29.2.2.2.2, F])
                      clear haq1196 hsq1196 aq1196 wq1196
                      obtain ⟨z75, e115, hm⟩ := bind_some hm
                      refine seq_op haq1197 hsq1197 rfl (opT_app (E := 3) (R := rInt) (s := v198) (u := v216) e115 Try.underlying34 tz3 rfl (by decide) rfl (by decide) rfl rfl rfl) (perm_sel [2, 0, 1, 3, 4, 5, 6, 7, 8] (m := 9) rfl rfl) rfl ?_
                      rintro v217 aq1198 wq1198 - haq1198 (hsq1198 : St I w0 wq1198 [Ch.own (rSlice 3 rInt) [v217] z75, Ch.mp Try.prog 3 3 iLit iOk iLit 0 v2 m37, Ch.own (rSlice 3 rInt) [v199] s39.2.2.1, Ch.blk g1 [.int .i64 0, .slice none 0 0, .slice none 0 0] 27, Ch.blk g2 [.int .i64 0, v151, v152] 27, Ch.own (rSlice 4 rBool) [v151] s29.2.2.2.1, Ch.own (rSlice 34 (rSlice 3 rInt)) [v152] s29.2.2.2.2, F])
                      clear haq1197 hsq1197 aq1197 wq1197
                      refine seq_op0 haq1198 hsq1198 (opT_assign (v := v217) rfl rfl) rfl rfl ?_
                      rintro u aq1199 wq1199 hf haq1199 hsq1199
                      obtain rfl := Eq.symm hf
                      clear haq1198 hsq1198 aq1198 wq1198
                      refine wpList_nil ?_
                      replace haq1199 := haq1199.pick' (L' := [(1, .int .i64 p1), (2, va0), (3, va1), (8, .pointer (some ⟨g1, 0, none⟩)), (10, v217), (11, v2), (12, .pointer (some ⟨g2, 0, none⟩)), (13, .int .i64 s29.2.2.1), (14, v199), (15, .int .i64 s39.2.2.2), (18, .int .i64 (s39.1.length : Int))]) ⟨rfl, rfl, rfl, rfl, rfl, rfl, rfl, rfl, rfl, rfl, rfl, trivial⟩
                      refine nrm ?_
                      obtain rfl := Option.some.inj hm
                      exact ⟨v217, haq1199.pick' ⟨rfl, rfl, rfl, rfl, rfl, rfl, rfl, rfl, rfl, rfl, rfl, trivial⟩, St.sel hsq1199 8 [0, 1, 3, 4, 5, 6, 2, 7] rfl rfl⟩
                    · replace hm := ifTe hb68 hm
                      refine cnd_false (b := !((List.lookup r20.1 s39.2.1).isSome)) haq1187 rfl rfl (notF hb68) ?_
                      refine wp_skip ?_
                      refine nrm ?_
                      obtain rfl := Option.some.inj hm
                      exact ⟨v198, haq1187.pick' ⟨rfl, rfl, rfl, rfl, rfl, rfl, rfl, rfl, rfl, rfl, rfl, trivial⟩, St.sel hsq1187 8 [1, 0, 3, 4, 5, 6, 2, 7] rfl rfl⟩
                  · rintro aq1200 wq1200 ⟨v215, haq1200, hsq1200⟩
                    refine wp_region_lit ?_
                    refine seq_op0 haq1200 hsq1200 (opT_move (v := v199) rfl rfl) rfl rfl ?_
                    rintro u aq1201 wq1201 hf haq1201 hsq1201
                    obtain rfl := Eq.symm hf
                    clear haq1200 hsq1200 aq1200 wq1200
                    refine seq_op0 haq1201 hsq1201 (opT_move (v := .int .i64 s43.2.2) rfl rfl) rfl rfl ?_
                    rintro u aq1202 wq1202 hf haq1202 hsq1202
                    obtain rfl := Eq.symm hf
                    clear haq1201 hsq1201 aq1201 wq1201
                    refine seq_op haq1202 hsq1202 rfl (opT_lit_cpy (E := 3) (R := rInt) (S := rInt) [(.int .i64 s43.2.2, [.int .i64 s43.2.2])] [s43.2.2] cpy_int (rd_all ⟨rfl, trivial⟩) Try.underlying34 tz3 (by decide) rfl (by decide) (by decide) rfl rfl rfl rfl (us_all ⟨⟨rfl, rfl⟩, trivial⟩)) (List.Perm.refl _) rfl ?_
                    rintro v218 aq1203 wq1203 - haq1203 (hsq1203 : St I w0 wq1203 [Ch.own (rSlice 3 rInt) [v218] ([s43.2.2]), Ch.own (rSlice 3 rInt) [v215] s43.1, Ch.mp Try.prog 3 3 iLit iOk iLit 0 v2 s43.2.1, Ch.blk g1 [.int .i64 0, .slice none 0 0, .slice none 0 0] 27, Ch.blk g2 [.int .i64 0, v151, v152] 27, Ch.own (rSlice 4 rBool) [v151] s29.2.2.2.1, Ch.own (rSlice 34 (rSlice 3 rInt)) [v152] s29.2.2.2.2, Ch.own (rSlice 3 rInt) [v199] s39.2.2.1, F])
                    clear haq1202 hsq1202 aq1202 wq1202
                    obtain ⟨z76, e116, hm⟩ := bind_some hm
                    refine seq_op haq1203 hsq1203 rfl (opT_app (E := 3) (R := rInt) (s := v199) (u := v218) e116 Try.underlying34 tz3 rfl (by decide) rfl (by decide) rfl rfl rfl) (perm_sel [7, 0, 1, 2, 3, 4, 5, 6, 8] (m := 9) rfl rfl) rfl ?_
                    rintro v219 aq1204 wq1204 - haq1204 (hsq1204 : St I w0 wq1204 [Ch.own (rSlice 3 rInt) [v219] z76, Ch.own (rSlice 3 rInt) [v215] s43.1, Ch.mp Try.prog 3 3 iLit iOk iLit 0 v2 s43.2.1, Ch.blk g1 [.int .i64 0, .slice none 0 0, .slice none 0 0] 27, Ch.blk g2 [.int .i64 0, v151, v152] 27, Ch.own (rSlice 4 rBool) [v151] s29.2.2.2.1, Ch.own (rSlice 34 (rSlice 3 rInt)) [v152] s29.2.2.2.2, F])
                    clear haq1203 hsq1203 aq1203 wq1203
                    refine seq_op0 haq1204 hsq1204 (opT_assign (v := v219) rfl rfl) rfl rfl ?_
                    rintro u aq1205 wq1205 hf haq1205 hsq1205
                    obtain rfl := Eq.symm hf
                    clear haq1204 hsq1204 aq1204 wq1204
                    refine wpList_nil ?_
                    replace haq1205 := haq1205.pick' (L' := [(1, .int .i64 p1), (2, va0), (3, va1), (8, .pointer (some ⟨g1, 0, none⟩)), (10, v215), (11, v2), (12, .pointer (some ⟨g2, 0, none⟩)), (13, .int .i64 s29.2.2.1), (14, v219), (15, .int .i64 s39.2.2.2)]) ⟨rfl, rfl, rfl, rfl, rfl, rfl, rfl, rfl, rfl, rfl, trivial⟩
                    refine nrmB ?_
                    refine nrm ?_
                    obtain rfl := Option.some.inj hm
                    exact ⟨v215, v219, haq1205.pick' ⟨rfl, rfl, rfl, rfl, rfl, rfl, rfl, rfl, rfl, rfl, trivial⟩, St.sel hsq1205 8 [1, 2, 0, 3, 4, 5, 6, 7] rfl rfl⟩
              · rintro aq1206 wq1206 ⟨v209, v210, haq1206, hsq1206⟩
                refine wp_region_lit ?_
                refine seq_op0 haq1206 hsq1206 (opT_move (v := .int .i64 s39.2.2.2) rfl rfl) rfl rfl ?_
                rintro u aq1207 wq1207 hf haq1207 hsq1207
                obtain rfl := Eq.symm hf
                clear haq1206 hsq1206 aq1206 wq1206
                refine seq_op0 haq1207 hsq1207 (opT_add (m := s39.2.2.2) (n := 1) rfl rfl rfl) rfl rfl ?_
                rintro u aq1208 wq1208 hf haq1208 hsq1208
                obtain rfl := Eq.symm hf
                clear haq1207 hsq1207 aq1207 wq1207
                refine seq_op0 haq1208 hsq1208 (opT_assign (v := .int .i64 (IntKind.i64.wrap (s39.2.2.2 + 1))) rfl rfl) rfl rfl ?_
                rintro u aq1209 wq1209 hf haq1209 hsq1209
                obtain rfl := Eq.symm hf
                clear haq1208 hsq1208 aq1208 wq1208
                refine wpList_nil ?_
                replace haq1209 := haq1209.pick' (L' := [(1, .int .i64 p1), (2, va0), (3, va1), (8, .pointer (some ⟨g1, 0, none⟩)), (10, v209), (11, v2), (12, .pointer (some ⟨g2, 0, none⟩)), (13, .int .i64 s29.2.2.1), (14, v210), (15, .int .i64 (IntKind.i64.wrap (s39.2.2.2 + 1)))]) ⟨rfl, rfl, rfl, rfl, rfl, rfl, rfl, rfl, rfl, rfl, trivial⟩
                refine nrm ?_
                exact ⟨_, (Option.some.inj hm).symm, ⟨v209, v210, haq1209.pick' ⟨rfl, rfl, rfl, rfl, rfl, rfl, rfl, rfl, rfl, rfl, trivial⟩, St.sel hsq1209 8 [0, 1, 2, 3, 4, 5, 6, 7] rfl rfl⟩⟩
        · rintro aq1210 wq1210 ⟨s40, ho30, v196, v197, haq1210, hsq1210⟩
          replace hm := loopOut ho30 hc28
          clear ho30 hc28 hl4
          refine nrm ?_
          refine wp_seq ?_
          refine wp_seq ?_
          refine wp_region_lit ?_
          refine seq_op0 haq1210 hsq1210 (opT_move (v := v196) rfl rfl) rfl rfl ?_
          rintro u aq1211 wq1211 hf haq1211 hsq1211
          obtain rfl := Eq.symm hf
          clear haq1210 hsq1210 aq1210 wq1210
          refine seq_op0 haq1211 hsq1211 (opT_len_hd (v := v196) (n := s40.1.length) (St.hd hsq1211 0 rfl).1 Try.underlying34 rfl rfl) rfl rfl ?_
          rintro u aq1212 wq1212 hf haq1212 hsq1212
          obtain rfl := Eq.symm hf
          clear haq1211 hsq1211 aq1211 wq1211
          refine seq_op0 haq1212 hsq1212 (opT_move (v := .int .i64 p1) rfl rfl) rfl rfl ?_
          rintro u aq1213 wq1213 hf haq1213 hsq1213
          obtain rfl := Eq.symm hf
          clear haq1212 hsq1212 aq1212 wq1212
          refine seq_op0 haq1213 hsq1213 (opT_cmp (k := .i64) (m := (s40.1.length : Int)) (n := p1) (c := decide ((s40.1.length : Int) > p1)) rfl rfl rfl rfl rfl) rfl rfl ?_
          rintro u aq1214 wq1214 hf haq1214 hsq1214
          obtain rfl := Eq.symm hf
          clear haq1213 hsq1213 aq1213 wq1213
          refine wpList_nil ?_
          replace haq1214 := haq1214.pick' (L' := [(1, .int .i64 p1), (2, va0), (3, va1), (8, .pointer (some ⟨g1, 0, none⟩)), (10, v196), (11, v2), (12, .pointer (some ⟨g2, 0, none⟩)), (13, .int .i64 s29.2.2.1), (14, v197), (76, .bool (decide ((s40.1.length : Int) > p1)))]) ⟨rfl, rfl, rfl, rfl, rfl, rfl, rfl, rfl, rfl, rfl, trivial⟩
          refine nrm ?_
          rcases two (decide ((s40.1.length : Int) > p1)) with hb69 | hb69
          · replace hm := ifFe hb69 hm
            refine cnd_false (b := decide ((s40.1.length : Int) > p1)) haq1214 rfl rfl hb69 ?_
            refine wp_skip ?_
            refine nrm ?_
            refine wp_seq ?_
            obtain ⟨x21, e117, hm⟩ := bind_some hm
            have hd1 := (St.hd hsq1214 0 rfl).1
            obtain ⟨r21, e118, hm⟩ := bind_some hm
            obtain ⟨z77, e119, hm⟩ := bind_some hm
            refine wp_draw (L := [(1, .int .i64 p1), (2, va0), (3, va1), (8, .pointer (some ⟨g1, 0, none⟩)), (10, v196), (11, v2), (12, .pointer (some ⟨g2, 0, none⟩)), (13, .int .i64 s29.2.2.1), (14, v197), (76, .bool (decide ((s40.1.length : Int) > p1)))]) (C := [Ch.mp Try.prog 3 3 iLit iOk iLit 0 v2 s40.2.1, Ch.own (rSlice 3 rInt) [v197] s40.2.2.1, Ch.blk g1 [.int .i64 0, .slice none 0 0, .slice none 0 0] 27, Ch.own (rSlice 34 (rSlice 3 rInt)) [v152] s29.2.2.2.2, F]) { ops := [⟨[], [], [], [0], fun | [xo0] => xo0 = .pointer (some ⟨g2, 1, none⟩) | _ => True, [(12, none)]⟩, ⟨[0], [], [], [1], fun | [xo1] => xo1 = v151 | _ => True, [(78, some 0)]⟩, ⟨[], [], [], [2], fun | [xo2] => xo2 = va0 | _ => True, [(2, none)]⟩, ⟨[], [], [], [3], fun | [xo3] => xo3 = v196 | _ => True, [(10, none)]⟩, ⟨[], [], [], [4], fun | [xo4] => xo4 = .int .i64 s29.2.2.1 | _ => True, [(13, none)]⟩, ⟨[], [], [], [5], fun | [xo5] => xo5 = pt v196 (s29.2.2.1.toNat * 1) | _ => True, [(81, some 3), (82, some 4)]⟩, ⟨[1], [], [], [6], fun | [xo6] => xo6 = .int .i64 x21 | _ => True, [(83, some 5)]⟩, ⟨[], [], [], [7], fun | [xo7] => xo7 = .bool r21 | _ => True, [(80, some 2), (84, some 6)]⟩, ⟨[], [], [3], [8], fun | [xo8] => Hd xo8 ([r21]).length | _ => True, [(85, some 7)]⟩, ⟨[], [2, 3], [4], [9], fun | [xo9] => Hd xo9 (z77).length | _ => True, [(79, some 1), (86, some 8)]⟩, ⟨[], [], [], [10], fun | [xo10] => xo10 = .pointer (some ⟨g2, 1, none⟩) | _ => True, [(12, none)]⟩, ⟨[], [0], [5], [11], fun | [xo11] => True | _ => True, [(88, some 10), (87, some 9)]⟩], res := [⟨[], fun _ => Ch.blk g2 [.int .i64 0, v151, v152] 27⟩, ⟨[], fun _ => Ch.own (rSlice 3 rInt) [v196] s40.1⟩, ⟨[], fun _ => Ch.own (rSlice 4 rBool) [v151] s29.2.2.2.1⟩, ⟨[8], fun | [xo8] => Ch.own (rSlice 4 rBool) [xo8] ([r21]) | _ => Ch.fr (fun _ => none) []⟩, ⟨[9], fun | [xo9] => Ch.own (rSlice 4 rBool) [xo9] z77 | _ => Ch.fr (fun _ => none) []⟩, ⟨[9], fun | [xo9] => Ch.blk g2 [.int .i64 0, xo9, v152] 27 | _ => Ch.fr (fun _ => none) []⟩], base := [0, 1, 2], pre := [[], [0], [], [], [], [3, 4], [3, 4, 5], [2, 3, 4, 5, 6], [2, 3, 4, 5, 6, 7], [0, 1, 2, 3, 4, 5, 6, 7, 8], [0, 1, 2, 3, 4, 5, 6, 7, 8, 9], [0, 1, 2, 3, 4, 5, 6, 7, 8, 9, 10]], fin := [(1, none), (2, none), (3, none), (8, none), (10, none), (11, none), (12, none), (13, none), (14, none)], left := [1, 4, 5] } (by kernel_rfl) haq1214 hsq1214 (perm_sel [4, 0, 5, 1, 2, 3, 6, 7] (m := 8) rfl rfl) (by kernel_rfl) (by kernel_rfl) ?_ ?_
            · exact ⟨Plan.goal_run fun vs hf => ⟨wants_none rfl, OpT.conv (OpT.evs (ev' := evL [(12, .pointer (some ⟨g2, 0, none⟩))]) (opT_field_addr (g := g2) (b := 0) tf27_1 rfl rfl) rfl [.tmp 12] rfl ⟨rfl, trivial⟩) rfl (fun _ h => Eq.trans h rfl) (fun _ => rfl)⟩, Plan.goal_run fun vs hf => ⟨wants_none rfl, OpT.conv (OpT.evs (ev' := evL [(78, .pointer (some ⟨g2, 1, none⟩))]) (opT_load_blk (g := g2) (off := 1) (E := 27) (l := [.int .i64 0, v151, v152]) (d := [v151]) (u := v151) ti22 rfl rfl rfl rfl rfl rfl) rfl [.tmp 78] rfl ⟨(hf 0 (mb rfl)), trivial⟩) rfl (fun _ h => Eq.trans h rfl) (fun _ => rfl)⟩, Plan.goal_run fun vs hf => ⟨wants_none rfl, OpT.conv (OpT.evs (ev' := evL [(2, va0)]) (opT_move (v := va0) rfl rfl) rfl [.tmp 2] rfl ⟨rfl, trivial⟩) rfl (fun _ h => Eq.trans h rfl) (fun _ => rfl)⟩, Plan.goal_run fun vs hf => ⟨wants_none rfl, OpT.conv (OpT.evs (ev' := evL [(10, v196)]) (opT_move (v := v196) rfl rfl) rfl [.tmp 10] rfl ⟨rfl, trivial⟩) rfl (fun _ h => Eq.trans h rfl) (fun _ => rfl)⟩, Plan.goal_run fun vs hf => ⟨wants_none rfl, OpT.conv (OpT.evs (ev' := evL [(13, .int .i64 s29.2.2.1)]) (opT_move (v := .int .i64 s29.2.2.1) rfl rfl) rfl [.tmp 13] rfl ⟨rfl, trivial⟩) rfl (fun _ h => Eq.trans h rfl) (fun _ => rfl)⟩, Plan.goal_run fun vs hf => ⟨wants_none rfl, OpT.conv (OpT.evs (ev' := evL [(81, v196), (82, .int .i64 s29.2.2.1)]) (opT_index_hd (xs := s40.1) (i := s29.2.2.1) (n := 1) hd1 Try.underlying34 ti3 rfl rfl rfl (getI_in e117)) rfl [.tmp 81, .tmp 82] rfl ⟨(hf 3 (mb rfl)), (hf 4 (mb rfl)), trivial⟩) rfl (fun _ h => Eq.trans h rfl) (fun _ => rfl)⟩, Plan.goal_run fun vs hf => ⟨wants_none rfl, OpT.conv (OpT.evs (ev' := evL [(83, pt v196 (s29.2.2.1.toNat * 1))]) (opT_load_own (E := 3) (R := rInt) (S := rInt) (xs := s40.1) (a := x21) (i := s29.2.2.1) (k := 1) (off := 0) (f := fun (x : Int) => x) sh_int e117 Fld.self ti3 rfl rfl rfl rfl rfl) rfl [.tmp 83] rfl ⟨(hf 5 (mb rfl)), trivial⟩) rfl (fun _ h => lds_one h) (fun _ => rfl)⟩, Plan.goal_run fun vs hf => ⟨wants_none rfl, OpT.conv (OpT.evs (ev' := evL [(80, va0), (84, .int .i64 x21)]) (opT_call_clo (v := va0) (args := [.int .i64 x21]) (ra0.2 _ Hp.le.rfl x21 _ e118  ) rfl rfl rfl) rfl [.tmp 80, .tmp 84] rfl ⟨(hf 2 (mb rfl)), (hf 6 (mb rfl)), trivial⟩) rfl (fun _ h => h) (fun _ => rfl)⟩, Plan.goal_run fun vs hf => ⟨wants_none rfl, OpT.conv (OpT.evs (ev' := evL [(85, .bool r21)]) (OpT.hdk (E := 4) (R := rBool) (xs := [r21]) (fun v => v) 0 (fun _ => rfl) (opT_lit_cpy (E := 4) (R := rBool) (S := rBool) [(.bool r21, [.bool r21])] [r21] cpy_bool (rd_all ⟨rfl, trivial⟩) Try.underlying22 tz4 (by decide) rfl (by decide) (by decide) rfl rfl rfl rfl (us_all ⟨⟨rfl, rfl⟩, trivial⟩))) rfl [.tmp 85] rfl ⟨(hf 7 (mb rfl)), trivial⟩) rfl (fun _ h => h.2) (fun _ => rfl)⟩, Plan.goal_run fun vs hf => ⟨wants_none rfl, OpT.conv (OpT.evs (ev' := evL [(79, v151), (86, (vs 8))]) (OpT.hdk (E := 4) (R := rBool) (xs := z77) (fun v => v) 0 (fun _ => rfl) (opT_app (E := 4) (R := rBool) (s := v151) (u := (vs 8)) e119 Try.underlying22 tz4 rfl (by decide) rfl (by decide) rfl rfl rfl)) rfl [.tmp 79, .tmp 86] rfl ⟨(hf 1 (mb rfl)), rfl, trivial⟩) rfl (fun _ h => h.2) (fun _ => rfl)⟩, Plan.goal_run fun vs hf => ⟨wants_none rfl, OpT.conv (OpT.evs (ev' := evL [(12, .pointer (some ⟨g2, 0, none⟩))]) (opT_field_addr (g := g2) (b := 0) tf27_1 rfl rfl) rfl [.tmp 12] rfl ⟨rfl, trivial⟩) rfl (fun _ h => Eq.trans h rfl) (fun _ => rfl)⟩, Plan.goal_run fun vs hf => ⟨wants_none rfl, OpT.conv (OpT.evs (ev' := evL [(88, .pointer (some ⟨g2, 1, none⟩)), (87, (vs 9))]) (opT_store_blk (g := g2) (off := 1) (l := [.int .i64 0, v151, v152]) (d := [(vs 9)]) (E := 27) (u := (vs 9)) ti22 rfl rfl rfl (Hd.cells (show Hd (vs 9) (z77).length from (hf 9 (mb rfl)))) rfl (allC (Hd.one (show Hd (vs 9) (z77).length from (hf 9 (mb rfl)))) allN) (Nat.le_of_ble_eq_true rfl)) rfl [.tmp 88, .tmp 87] rfl ⟨(hf 10 (mb rfl)), rfl, trivial⟩) rfl (fun _ _ => trivial) (fun _ => rfl)⟩, trivial⟩
            intro vs aq1215 wq1215 hf haq1215 hsq1215
            clear haq1214 hsq1214
            replace haq1215 := haq1215.pick' (L' := [(1, .int .i64 p1), (2, va0), (3, va1), (8, .pointer (some ⟨g1, 0, none⟩)), (10, v196), (11, v2), (12, .pointer (some ⟨g2, 0, none⟩)), (13, .int .i64 s29.2.2.1), (14, v197)]) ⟨rfl, rfl, rfl, rfl, rfl, rfl, rfl, rfl, rfl, trivial⟩
            replace hsq1215 : St I w0 wq1215 [Ch.own (rSlice 3 rInt) [v196] s40.1, Ch.own (rSlice 4 rBool) [(vs 9)] z77, Ch.blk g2 [.int .i64 0, (vs 9), v152] 27, Ch.mp Try.prog 3 3 iLit iOk iLit 0 v2 s40.2.1, Ch.own (rSlice 3 rInt) [v197] s40.2.2.1, Ch.blk g1 [.int .i64 0, .slice none 0 0, .slice none 0 0] 27, Ch.own (rSlice 34 (rSlice 3 rInt)) [v152] s29.2.2.2.2, F] := hsq1215
            obtain ⟨v221, ea1⟩ : ∃ x, x = (vs 9) := ⟨_, rfl⟩
            try rw [← ea1] at haq1215
            try rw [← ea1] at hsq1215
            clear ea1
            clear hf vs
            refine nrm ?_
            refine wp_region_lit ?_
            refine seq_op0 haq1215 hsq1215 (opT_field_addr (g := g2) (b := 0) tf27_2 rfl rfl) rfl rfl ?_
            rintro u aq1216 wq1216 hf haq1216 hsq1216
            obtain rfl := Eq.symm hf
            clear haq1215 hsq1215 aq1215 wq1215
            refine seq_op haq1216 hsq1216 rfl (opT_load_blk (g := g2) (off := 2) (E := 27) (l := [.int .i64 0, v221, v152]) (d := [v152]) (u := v152) ti23 rfl rfl rfl rfl rfl rfl) (perm_front (i := 2) rfl) rfl ?_
            rintro u aq1217 wq1217 hf haq1217 (hsq1217 : St I w0 wq1217 [Ch.blk g2 [.int .i64 0, v221, v152] 27, Ch.own (rSlice 3 rInt) [v196] s40.1, Ch.own (rSlice 4 rBool) [v221] z77, Ch.mp Try.prog 3 3 iLit iOk iLit 0 v2 s40.2.1, Ch.own (rSlice 3 rInt) [v197] s40.2.2.1, Ch.blk g1 [.int .i64 0, .slice none 0 0, .slice none 0 0] 27, Ch.own (rSlice 34 (rSlice 3 rInt)) [v152] s29.2.2.2.2, F])
            obtain rfl := Eq.symm hf
            clear haq1216 hsq1216 aq1216 wq1216
            refine seq_op0 haq1217 hsq1217 (opT_move (v := v197) rfl rfl) rfl rfl ?_
            rintro u aq1218 wq1218 hf haq1218 hsq1218
            obtain rfl := Eq.symm hf
            clear haq1217 hsq1217 aq1217 wq1217
            refine seq_op haq1218 hsq1218 rfl (opT_lit (E := 34) (R := rSlice 3 rInt) [(v197, [v197])] [s40.2.2.1] Try.underlying23 tz34 (by decide) rfl (by decide) (by decide) rfl rfl rfl rfl (us_all ⟨⟨(Hd.cells (St.hd hsq1218 4 rfl).1), rfl⟩, trivial⟩)) (perm_front (i := 4) rfl) rfl ?_
            rintro v222 aq1219 wq1219 - haq1219 (hsq1219 : St I w0 wq1219 [Ch.own (rSlice 34 (rSlice 3 rInt)) [v222] ([s40.2.2.1]), Ch.blk g2 [.int .i64 0, v221, v152] 27, Ch.own (rSlice 3 rInt) [v196] s40.1, Ch.own (rSlice 4 rBool) [v221] z77, Ch.mp Try.prog 3 3 iLit iOk iLit 0 v2 s40.2.1, Ch.blk g1 [.int .i64 0, .slice none 0 0, .slice none 0 0] 27, Ch.own (rSlice 34 (rSlice 3 rInt)) [v152] s29.2.2.2.2, F])
            clear haq1218 hsq1218 aq1218 wq1218
            obtain ⟨z78, e120, hm⟩ := bind_some hm
            refine seq_op haq1219 hsq1219 rfl (opT_app (E := 34) (R := rSlice 3 rInt) (s := v152) (u := v222) e120 Try.underlying23 tz34 rfl (by decide) rfl (by decide) rfl rfl rfl) (perm_sel [6, 0, 1, 2, 3, 4, 5, 7] (m := 8) rfl rfl) rfl ?_
            rintro v223 aq1220 wq1220 - haq1220 (hsq1220 : St I w0 wq1220 [Ch.own (rSlice 34 (rSlice 3 rInt)) [v223] z78, Ch.blk g2 [.int .i64 0, v221, v152] 27, Ch.own (rSlice 3 rInt) [v196] s40.1, Ch.own (rSlice 4 rBool) [v221] z77, Ch.mp Try.prog 3 3 iLit iOk iLit 0 v2 s40.2.1, Ch.blk g1 [.int .i64 0, .slice none 0 0, .slice none 0 0] 27, F])
            clear haq1219 hsq1219 aq1219 wq1219
            refine seq_op0 haq1220 hsq1220 (opT_field_addr (g := g2) (b := 0) tf27_2 rfl rfl) rfl rfl ?_
            rintro u aq1221 wq1221 hf haq1221 hsq1221
            obtain rfl := Eq.symm hf
            clear haq1220 hsq1220 aq1220 wq1220
            refine seq_op haq1221 hsq1221 rfl (opT_store_blk (g := g2) (off := 2) (l := [.int .i64 0, v221, v152]) (d := [v223]) (E := 27) (u := v223) ti23 rfl rfl rfl (Hd.cells (St.hd hsq1221 0 rfl).1) rfl (allC (Hd.one (St.hd hsq1221 0 rfl).1) allN) (Nat.le_of_ble_eq_true rfl)) (perm_front (i := 1) rfl) rfl ?_
            rintro _ aq1222 wq1222 - haq1222 (hsq1222 : St I w0 wq1222 [Ch.blk g2 [.int .i64 0, v221, v223] 27, Ch.own (rSlice 34 (rSlice 3 rInt)) [v223] z78, Ch.own (rSlice 3 rInt) [v196] s40.1, Ch.own (rSlice 4 rBool) [v221] z77, Ch.mp Try.prog 3 3 iLit iOk iLit 0 v2 s40.2.1, Ch.blk g1 [.int .i64 0, .slice none 0 0, .slice none 0 0] 27, F])
            clear haq1221 hsq1221 aq1221 wq1221
            refine wpList_nil ?_
            replace haq1222 := haq1222.pick' (L' := [(1, .int .i64 p1), (2, va0), (3, va1), (8, .pointer (some ⟨g1, 0, none⟩)), (10, v196), (11, v2), (12, .pointer (some ⟨g2, 0, none⟩)), (13, .int .i64 s29.2.2.1)]) ⟨rfl, rfl, rfl, rfl, rfl, rfl, rfl, rfl, trivial⟩
            refine nrmB ?_
            refine nrm ?_
            refine wp_region_lit ?_
            refine seq_op0 haq1222 hsq1222 (opT_move (v := .int .i64 s29.2.2.1) rfl rfl) rfl rfl ?_
            rintro u aq1223 wq1223 hf haq1223 hsq1223
            obtain rfl := Eq.symm hf
            clear haq1222 hsq1222 aq1222 wq1222
            refine seq_op0 haq1223 hsq1223 (opT_add (m := s29.2.2.1) (n := 1) rfl rfl rfl) rfl rfl ?_
            rintro u aq1224 wq1224 hf haq1224 hsq1224
            obtain rfl := Eq.symm hf
            clear haq1223 hsq1223 aq1223 wq1223
            refine seq_op0 haq1224 hsq1224 (opT_assign (v := .int .i64 (IntKind.i64.wrap (s29.2.2.1 + 1))) rfl rfl) rfl rfl ?_
            rintro u aq1225 wq1225 hf haq1225 hsq1225
            obtain rfl := Eq.symm hf
            clear haq1224 hsq1224 aq1224 wq1224
            refine wpList_nil ?_
            replace haq1225 := haq1225.pick' (L' := [(1, .int .i64 p1), (2, va0), (3, va1), (8, .pointer (some ⟨g1, 0, none⟩)), (10, v196), (11, v2), (12, .pointer (some ⟨g2, 0, none⟩)), (13, .int .i64 (IntKind.i64.wrap (s29.2.2.1 + 1)))]) ⟨rfl, rfl, rfl, rfl, rfl, rfl, rfl, rfl, trivial⟩
            refine nrm ?_
            exact ⟨_, (Option.some.inj hm).symm, ⟨v196, v221, v223, haq1225.pick' ⟨rfl, rfl, rfl, rfl, rfl, rfl, rfl, rfl, trivial⟩, St.sel hsq1225 7 [2, 4, 3, 1, 5, 0, 6] rfl rfl⟩⟩
          · replace hm := ifTe hb69 hm
            refine cnd_true (b := decide ((s40.1.length : Int) > p1)) haq1214 rfl rfl hb69 ?_
            refine wp_seq ?_
            refine wp_region_lit ?_
            refine seq_op0 haq1214 hsq1214 (opT_build (zl := [.int .i64 0, .slice none 0 0, .slice none 0 0]) (r := [.int .i64 0, .slice none 0 0, .slice none 0 0]) [] tb27 tz27 rfl rfl trivial rfl) rfl rfl ?_
            rintro u aq1226 wq1226 hf haq1226 hsq1226
            obtain rfl := Eq.symm hf
            clear haq1214 hsq1214 aq1214 wq1214
            refine seq_op haq1226 hsq1226 rfl (opT_store_blk (g := g1) (off := 0) (l := [.int .i64 0, .slice none 0 0, .slice none 0 0]) (d := [.int .i64 0, .slice none 0 0, .slice none 0 0]) (E := 27) (u := .agg #[.int .i64 0, .slice none 0 0, .slice none 0 0]) ti27 rfl rfl rfl rfl rfl (allC rfl (allC rfl (allC rfl allN))) (Nat.le_of_ble_eq_true rfl)) (perm_front (i := 3) rfl) rfl ?_
            rintro _ aq1227 wq1227 - haq1227 (hsq1227 : St I w0 wq1227 [Ch.blk g1 [.int .i64 0, .slice none 0 0, .slice none 0 0] 27, Ch.own (rSlice 3 rInt) [v196] s40.1, Ch.mp Try.prog 3 3 iLit iOk iLit 0 v2 s40.2.1, Ch.own (rSlice 3 rInt) [v197] s40.2.2.1, Ch.blk g2 [.int .i64 0, v151, v152] 27, Ch.own (rSlice 4 rBool) [v151] s29.2.2.2.1, Ch.own (rSlice 34 (rSlice 3 rInt)) [v152] s29.2.2.2.2, F])
            clear haq1226 hsq1226 aq1226 wq1226
            refine seq_op0 haq1227 hsq1227 (opT_assign (v := .bool false) rfl rfl) rfl rfl ?_
            rintro u aq1228 wq1228 hf haq1228 hsq1228
            obtain rfl := Eq.symm hf
            clear haq1227 hsq1227 aq1227 wq1227
            refine wpList_nil ?_
            replace haq1228 := haq1228.pick' (L' := [(8, .pointer (some ⟨g1, 0, none⟩)), (9, .bool false)]) ⟨rfl, rfl, trivial⟩
            refine nrm ?_
            refine wp_ret ?_
            refine thenR ?_
            refine blkR ?_
            refine thenR ?_
            refine thenR ?_
            refine blkR ?_
            refine thenR ?_
            refine thenR ?_
            replace hm := loopRet hm hf3 hc21
            obtain rfl := Option.some.inj hm
            exact ret_2 haq1228 rfl (res_cell (g := g1) haq1228 rfl hsq1228 0 rfl ti27 rfl) (res_tmp haq1228 rfl) ⟨_, rfl, ⟨_, _, rfl⟩, _, Hp.le.rfl, St.sel ((St.nil (St.nil hsq1228))) 10 [1, 0, 9] rfl rfl⟩
  · rintro aq1229 wq1229 ⟨s30, ho31, v148, v149, haq1229, hsq1229⟩
    replace hm := loopOut ho31 hc21
    clear ho31 hc21 hl3
    refine nrm ?_
    refine wp_seq ?_
    refine wp_region_lit ?_
    refine seq_op haq1229 hsq1229 rfl (opT_load_blk (g := g2) (off := 0) (E := 27) (l := [.int .i64 0, v148, v149]) (d := [.int .i64 0, v148, v149]) (u := .agg #[.int .i64 0, v148, v149]) ti27 rfl rfl rfl rfl rfl rfl) (perm_front (i := 3) rfl) rfl ?_
    rintro u aq1230 wq1230 hf haq1230 (hsq1230 : St I w0 wq1230 [Ch.blk g2 [.int .i64 0, v148, v149] 27, Ch.own (rSlice 4 rBool) [v148] s30.2.2.2.1, Ch.own (rSlice 34 (rSlice 3 rInt)) [v149] s30.2.2.2.2, Ch.blk g1 [.int .i64 0, .slice none 0 0, .slice none 0 0] 27, F])
    obtain rfl := Eq.symm hf
    clear haq1229 hsq1229 aq1229 wq1229
    refine seq_op haq1230 hsq1230 rfl (opT_store_blk (g := g1) (off := 0) (l := [.int .i64 0, .slice none 0 0, .slice none 0 0]) (d := [.int .i64 0, v148, v149]) (E := 27) (u := .agg #[.int .i64 0, v148, v149]) ti27 rfl rfl rfl rfl rfl (allC rfl (allC (Hd.one (St.hd hsq1230 1 rfl).1) (allC (Hd.one (St.hd hsq1230 2 rfl).1) allN))) (Nat.le_of_ble_eq_true rfl)) (perm_front (i := 3) rfl) rfl ?_
    rintro _ aq1231 wq1231 - haq1231 (hsq1231 : St I w0 wq1231 [Ch.blk g1 [.int .i64 0, v148, v149] 27, Ch.blk g2 [.int .i64 0, v148, v149] 27, Ch.own (rSlice 4 rBool) [v148] s30.2.2.2.1, Ch.own (rSlice 34 (rSlice 3 rInt)) [v149] s30.2.2.2.2, F])
    clear haq1230 hsq1230 aq1230 wq1230
    refine seq_op0 haq1231 hsq1231 (opT_assign (v := .bool true) rfl rfl) rfl rfl ?_
    rintro u aq1232 wq1232 hf haq1232 hsq1232
    obtain rfl := Eq.symm hf
    clear haq1231 hsq1231 aq1231 wq1231
    refine wpList_nil ?_
    replace haq1232 := haq1232.pick' (L' := [(8, .pointer (some ⟨g1, 0, none⟩)), (9, .bool true)]) ⟨rfl, rfl, trivial⟩
    refine nrm ?_
    refine wp_ret ?_
    obtain rfl := Option.some.inj hm
    exact ret_2 haq1232 rfl (res_cell (g := g1) haq1232 rfl hsq1232 0 rfl ti27 rfl) (res_tmp haq1232 rfl) ⟨_, rfl, ⟨_, _, rfl⟩, _, Hp.le.rfl, St.sel (hsq1232) 5 [2, 3, 4] rfl rfl⟩
set_option maxHeartbeats 8000000 in
theorem c_w_toIntS (p0a : List Int) (r : List Int) (hm : m_w_toIntS p0a = some r) {I : Hp} {w0 : World} (va0 : Value) (ra0 : (rSlice 3 rInt).rd I [va0] p0a) : Con Try.prog 66 #[va0] I w0 [] (fun v => True) (fun v => [Ch.own (rSlice 3 rInt) [v] r]) := by
  refine con_of_wp (n := 22) [(0, va0)] Try.func66 rfl rfl (Nat.le_of_ble_eq_true rfl) (args_all ⟨rfl, trivial⟩) (fun F w a ha hs => ?_) (fun v => ⟨dp_own (dp_slice dp_int), trivial⟩)
  unfold m_w_toIntS at hm
  refine wp_seq ?_
  refine wp_region_lit ?_
  refine seq_op0 ha hs (opT_assign (v := .slice none 0 0) rfl rfl) rfl rfl ?_
  rintro u aq1 wq1 hf haq1 hsq1
  obtain rfl := Eq.symm hf
  clear ha hs a w
  refine wpList_nil ?_
  replace haq1 := haq1.pick' (L' := [(0, va0)]) ⟨rfl, trivial⟩
  refine nrm ?_
  refine wp_seq ?_
  refine wp_region_lit ?_
  refine seq_op0 haq1 hsq1 (opT_move (v := va0) rfl rfl) rfl rfl ?_
  rintro u aq2 wq2 hf haq2 hsq2
  obtain rfl := Eq.symm hf
  clear haq1 hsq1 aq1 wq1
  refine seq_op0 haq2 hsq2 (opT_len_hd (v := va0) (n := p0a.length) (Hd.of_rd ra0) Try.underlying34 rfl rfl) rfl rfl ?_
  rintro u aq3 wq3 hf haq3 hsq3
  obtain rfl := Eq.symm hf
  clear haq2 hsq2 aq2 wq2
  obtain ⟨x1, hk1, hm⟩ := bind_some hm
  refine seq_op haq3 hsq3 rfl (opT_mk (E := 3) (R := rInt) (zv := .int .i64 0) (z := (0 : Int)) zro_flat Try.underlying34 tz3 rfl rfl (by decide) (by decide) rfl rfl hk1) (List.Perm.refl _) rfl ?_
  rintro v1 aq4 wq4 - haq4 (hsq4 : St I w0 wq4 [Ch.own (rSlice 3 rInt) [v1] x1, F])
  clear haq3 hsq3 aq3 wq3
  refine seq_op0 haq4 hsq4 (opT_assign (v := v1) rfl rfl) rfl rfl ?_
  rintro u aq5 wq5 hf haq5 hsq5
  obtain rfl := Eq.symm hf
  clear haq4 hsq4 aq4 wq4
  refine wpList_nil ?_
  replace haq5 := haq5.pick' (L' := [(0, va0), (3, v1)]) ⟨rfl, rfl, trivial⟩
  refine nrm ?_
  refine wp_seq ?_
  refine wp_seq ?_
  refine wp_region_lit ?_
  refine seq_op0 haq5 hsq5 (opT_assign (v := .int .i64 0) rfl rfl) rfl rfl ?_
  rintro u aq6 wq6 hf haq6 hsq6
  obtain rfl := Eq.symm hf
  clear haq5 hsq5 aq5 wq5
  refine wpList_nil ?_
  replace haq6 := haq6.pick' (L' := [(0, va0), (3, v1), (4, .int .i64 0)]) ⟨rfl, rfl, rfl, trivial⟩
  refine nrm ?_
  obtain ⟨o1, hl1, hc1⟩ := bindL_some hm
  refine wp_cut (fun a w => ∃ s4 : (List Int) × Int, o1 = .brk s4 ∧ Agr 22 a [(3, v1)] ∧ St I w0 w [Ch.own (rSlice 3 rInt) [v1] s4.1, F]) ?_ ?_
  · refine wp_block (wp_loopM (R := List Int) (S := (List Int) × Int) (fun s3 a w => Agr 22 a [(0, va0), (3, v1), (4, .int .i64 s3.2)] ∧ St I w0 w [Ch.own (rSlice 3 rInt) [v1] s3.1, F]) hl1 ?_ ?_)
    · exact ⟨haq6.pick' ⟨rfl, rfl, rfl, trivial⟩, St.sel hsq6 2 [0, 1] rfl rfl⟩
    · rintro s3 o2 hm hf1 aq37 wq37 ⟨haq37, hsq37⟩
      unfold m_w_toIntS_l0 at hm
      refine wp_seq ?_
      refine wp_seq ?_
      refine wp_region_lit ?_
      refine seq_op0 haq37 hsq37 (opT_move (v := .int .i64 s3.2) rfl rfl) rfl rfl ?_
      rintro u aq38 wq38 hf haq38 hsq38
      obtain rfl := Eq.symm hf
      clear haq37 hsq37 aq37 wq37
      refine seq_op0 haq38 hsq38 (opT_move (v := va0) rfl rfl) rfl rfl ?_
      rintro u aq39 wq39 hf haq39 hsq39
      obtain rfl := Eq.symm hf
      clear haq38 hsq38 aq38 wq38
      refine seq_op0 haq39 hsq39 (opT_len_hd (v := va0) (n := p0a.length) (Hd.of_rd ra0) Try.underlying34 rfl rfl) rfl rfl ?_
      rintro u aq40 wq40 hf haq40 hsq40
      obtain rfl := Eq.symm hf
      clear haq39 hsq39 aq39 wq39
      refine seq_op0 haq40 hsq40 (opT_cmp (k := .i64) (m := s3.2) (n := (p0a.length : Int)) (c := decide (s3.2 < (p0a.length : Int))) rfl rfl rfl rfl rfl) rfl rfl ?_
      rintro u aq41 wq41 hf haq41 hsq41
      obtain rfl := Eq.symm hf
      clear haq40 hsq40 aq40 wq40
      refine wpList_nil ?_
      replace haq41 := haq41.pick' (L' := [(0, va0), (3, v1), (4, .int .i64 s3.2), (11, .bool (decide (s3.2 < (p0a.length : Int))))]) ⟨rfl, rfl, rfl, rfl, trivial⟩
      refine nrm ?_
      rcases two (decide (s3.2 < (p0a.length : Int))) with hb3 | hb3
      · replace hm := ifFe hb3 hm
        refine cnd_false (b := decide (s3.2 < (p0a.length : Int))) haq41 rfl rfl hb3 ?_
        refine wp_exit ?_
        refine thenX ?_
        refine thenX ?_
        refine ex_in ?_
        refine nrm ?_
        exact ⟨_, loopBrk hm hf1, ⟨haq41.pick' ⟨rfl, trivial⟩, St.sel hsq41 2 [0, 1] rfl rfl⟩⟩
      · replace hm := ifTe hb3 hm
        refine cnd_true (b := decide (s3.2 < (p0a.length : Int))) haq41 rfl rfl hb3 ?_
        refine wp_skip ?_
        refine nrm ?_
        refine wp_seq ?_
        refine wp_block ?_
        refine wp_region_lit ?_
        refine seq_op0 haq41 hsq41 (opT_move (v := v1) rfl rfl) rfl rfl ?_
        rintro u aq42 wq42 hf haq42 hsq42
        obtain rfl := Eq.symm hf
        clear haq41 hsq41 aq41 wq41
        refine seq_op0 haq42 hsq42 (opT_move (v := .int .i64 s3.2) rfl rfl) rfl rfl ?_
        rintro u aq43 wq43 hf haq43 hsq43
        obtain rfl := Eq.symm hf
        clear haq42 hsq42 aq42 wq42
        refine seq_op0 haq43 hsq43 (opT_move (v := va0) rfl rfl) rfl rfl ?_
        rintro u aq44 wq44 hf haq44 hsq44
        obtain rfl := Eq.symm hf
        clear haq43 hsq43 aq43 wq43
        refine seq_op0 haq44 hsq44 (opT_move (v := .int .i64 s3.2) rfl rfl) rfl rfl ?_
        rintro u aq45 wq45 hf haq45 hsq45
        obtain rfl := Eq.symm hf
        clear haq44 hsq44 aq44 wq44
        obtain ⟨x6, e5, hm⟩ := bind_some hm
        refine seq_op0 haq45 hsq45 (opT_index_hd (xs := p0a) (i := s3.2) (n := 1) (Hd.of_rd ra0) Try.underlying34 ti3 rfl rfl rfl (getI_in e5)) rfl rfl ?_
        rintro u aq46 wq46 hf haq46 hsq46
        obtain rfl := Eq.symm hf
        clear haq45 hsq45 aq45 wq45
        refine seq_op0 haq46 hsq46 (opT_load_el (S := rInt) (xs := p0a) (a := x6) (i := s3.2) (k := 1) (off := 0) (f := fun (x : Int) => x) ra0 e5 Fld.self ti3 rfl rfl rfl rfl rfl) rfl rfl ?_
        rintro u aq47 wq47 hf haq47 hsq47
        obtain rfl := lds_one hf
        clear haq46 hsq46 aq46 wq46
        obtain ⟨x7, e6, hm⟩ := bind_some hm
        refine seq_op0 haq47 hsq47 (opT_index_hd (xs := s3.1) (i := s3.2) (n := 1) (St.hd hsq47 0 rfl).1 Try.underlying34 ti3 rfl rfl rfl (getI_in e6)) rfl rfl ?_
        rintro u aq48 wq48 hf haq48 hsq48
        obtain rfl := Eq.symm hf
        clear haq47 hsq47 aq47 wq47
        refine seq_op haq48 hsq48 rfl (opT_store_el (E := 3) (R := rInt) (S := rInt) (xs := s3.1) (a := x7) (b := x6) (i := s3.2) (k := 1) (off := 0) (f := fun x y => y) (v := v1) (d := [.int .i64 x6]) (u := .int .i64 x6) sh_int cpy_int e6 Upd.self ti3 rfl rfl rfl rfl (allC rfl allN) rfl rfl (by decide) rfl) (perm_front (i := 0) rfl) rfl ?_
        rintro _ aq49 wq49 - haq49 (hsq49 : St I w0 wq49 [Ch.own (rSlice 3 rInt) [v1] (s3.1.set s3.2.toNat x6), F])
        clear haq48 hsq48 aq48 wq48
        refine wpList_nil ?_
        replace haq49 := haq49.pick' (L' := [(0, va0), (3, v1), (4, .int .i64 s3.2)]) ⟨rfl, rfl, rfl, trivial⟩
        refine nrmB ?_
        refine nrm ?_
        refine wp_region_lit ?_
        refine seq_op0 haq49 hsq49 (opT_move (v := .int .i64 s3.2) rfl rfl) rfl rfl ?_
        rintro u aq50 wq50 hf haq50 hsq50
        obtain rfl := Eq.symm hf
        clear haq49 hsq49 aq49 wq49
        refine seq_op0 haq50 hsq50 (opT_add (m := s3.2) (n := 1) rfl rfl rfl) rfl rfl ?_
        rintro u aq51 wq51 hf haq51 hsq51
        obtain rfl := Eq.symm hf
        clear haq50 hsq50 aq50 wq50
        refine seq_op0 haq51 hsq51 (opT_assign (v := .int .i64 (IntKind.i64.wrap (s3.2 + 1))) rfl rfl) rfl rfl ?_
        rintro u aq52 wq52 hf haq52 hsq52
        obtain rfl := Eq.symm hf
        clear haq51 hsq51 aq51 wq51
        refine wpList_nil ?_
        replace haq52 := haq52.pick' (L' := [(0, va0), (3, v1), (4, .int .i64 (IntKind.i64.wrap (s3.2 + 1)))]) ⟨rfl, rfl, rfl, trivial⟩
        refine nrm ?_
        exact ⟨_, (Option.some.inj hm).symm, ⟨haq52.pick' ⟨rfl, rfl, rfl, trivial⟩, St.sel hsq52 2 [0, 1] rfl rfl⟩⟩
  · rintro aq53 wq53 ⟨s4, ho1, haq53, hsq53⟩
    replace hm := loopOut ho1 hc1
    clear ho1 hc1 hl1
    refine nrm ?_
    refine wp_seq ?_
    refine wp_region_lit ?_
    refine seq_op0 haq53 hsq53 (opT_move (v := v1) rfl rfl) rfl rfl ?_
    rintro u aq54 wq54 hf haq54 hsq54
    obtain rfl := Eq.symm hf
    clear haq53 hsq53 aq53 wq53
    refine seq_op0 haq54 hsq54 (opT_assign (v := v1) rfl rfl) rfl rfl ?_
    rintro u aq55 wq55 hf haq55 hsq55
    obtain rfl := Eq.symm hf
    clear haq54 hsq54 aq54 wq54
    refine wpList_nil ?_
    replace haq55 := haq55.pick' (L' := [(2, v1)]) ⟨rfl, trivial⟩
    refine nrm ?_
    refine wp_ret ?_
    obtain rfl := Option.some.inj hm
    exact ret_1 haq55 rfl (res_tmp haq55 rfl) ⟨_, rfl, trivial, _, Hp.le.rfl, St.sel (hsq55) 2 [0, 1] rfl rfl⟩
set_option maxHeartbeats 8000000 in
theorem c_i_Automaton_minimize_2 (p0c : Int) (q0 : Int × (List Bool) × (List (List Int))) (q1 : Int → Option Int) (r : Bool) (hm : m_i_Automaton_minimize_2 p0c q0 q1 = some r) {I : Hp} {w0 : World} (g0_0 : Nat) (va1 : Value) (va2 : Value) (g0_1 : Nat) (va4 : Value) (rb0 : I g0_0 = some (.cells #[.int .i64 q0.1, va1, va2] 27 (0, 0))) (ra1 : (rSlice 4 rBool).rd I [va1] q0.2.1) (ra2 : (rSlice 34 (rSlice 3 rInt)).rd I [va2] q0.2.2) (rb1 : I g0_1 = some (.cells #[va4] 122 (0, 0))) (ra4 : fn122 w0 I va4 q1) : Con Try.prog 113 #[.int .i64 p0c, .pointer (some ⟨g0_0, 0, none⟩), .pointer (some ⟨g0_1, 0, none⟩)] I w0 [] (fun v => v = .bool r) (fun v => []) := by
  refine con_of_wp (n := 12) [(0, .int .i64 p0c), (1, .pointer (some ⟨g0_0, 0, none⟩)), (2, .pointer (some ⟨g0_1, 0, none⟩))] Try.func113 rfl rfl (Nat.le_of_ble_eq_true rfl) (args_all ⟨rfl, rfl, rfl, trivial⟩) (fun F w a ha hs => ?_) (fun v => trivial)
  unfold m_i_Automaton_minimize_2 at hm
  refine wp_seq ?_
  refine wp_region_lit ?_
  refine seq_op0 ha hs (opT_assign (v := .bool false) rfl rfl) rfl rfl ?_
  rintro u aq1 wq1 hf haq1 hsq1
  obtain rfl := Eq.symm hf
  clear ha hs a w
  refine wpList_nil ?_
  replace haq1 := haq1.pick' (L' := [(0, .int .i64 p0c), (1, .pointer (some ⟨g0_0, 0, none⟩)), (2, .pointer (some ⟨g0_1, 0, none⟩))]) ⟨rfl, rfl, rfl, trivial⟩
  refine nrm ?_
  refine wp_seq ?_
  obtain ⟨r1, e1, hm⟩ := bind_some hm
  obtain ⟨x1, e2, hm⟩ := bind_some hm
  refine wp_draw (L := [(0, .int .i64 p0c), (1, .pointer (some ⟨g0_0, 0, none⟩)), (2, .pointer (some ⟨g0_1, 0, none⟩))]) (C := [F]) { ops := [⟨[], [], [], [0], fun | [xo0] => xo0 = .pointer (some ⟨g0_0, 1, none⟩) | _ => True, [(1, none)]⟩, ⟨[], [], [], [1], fun | [xo1] => xo1 = va1 | _ => True, [(5, some 0)]⟩, ⟨[], [], [], [2], fun | [xo2] => xo2 = va4 | _ => True, [(2, none)]⟩, ⟨[], [], [], [3], fun | [xo3] => xo3 = .int .i64 p0c | _ => True, [(0, none)]⟩, ⟨[], [], [], [4], fun | [xo4] => xo4 = .int .i64 r1 | _ => True, [(7, some 2), (8, some 3)]⟩, ⟨[], [], [], [5], fun | [xo5] => xo5 = pt va1 (r1.toNat * 1) | _ => True, [(6, some 1), (9, some 4)]⟩, ⟨[], [], [], [6], fun | [xo6] => xo6 = .bool x1 | _ => True, [(10, some 5)]⟩, ⟨[], [], [], [7], fun | [xo7] => xo7 = .bool x1 | _ => True, [(11, some 6)]⟩], res := [], base := [], pre := [[], [0], [], [], [2, 3], [0, 1, 2, 3, 4], [0, 1, 2, 3, 4, 5], [0, 1, 2, 3, 4, 5, 6]], fin := [(4, some 7)], left := [] } (by kernel_rfl) haq1 hsq1 (perm_sel [0] (m := 1) rfl rfl) (by kernel_rfl) (by kernel_rfl) ?_ ?_
  · exact ⟨Plan.goal_run fun vs hf => ⟨wants_none rfl, OpT.conv (OpT.evs (ev' := evL [(1, .pointer (some ⟨g0_0, 0, none⟩))]) (opT_field_addr (g := g0_0) (b := 0) tf27_1 rfl rfl) rfl [.tmp 1] rfl ⟨rfl, trivial⟩) rfl (fun _ h => Eq.trans h rfl) (fun _ => rfl)⟩, Plan.goal_run fun vs hf => ⟨wants_none rfl, OpT.conv (OpT.evs (ev' := evL [(5, .pointer (some ⟨g0_0, 1, none⟩))]) (opT_load_fro (g := g0_0) (off := 1) (l := [.int .i64 q0.1, va1, va2]) (d := [va1]) (u := va1) rb0 ti22 rfl rfl rfl rfl rfl rfl) rfl [.tmp 5] rfl ⟨(hf 0 (mb rfl)), trivial⟩) rfl (fun _ h => Eq.trans h rfl) (fun _ => rfl)⟩, Plan.goal_run fun vs hf => ⟨wants_none rfl, OpT.conv (OpT.evs (ev' := evL [(2, .pointer (some ⟨g0_1, 0, none⟩))]) (opT_load_fro (g := g0_1) (off := 0) (l := [va4]) (d := [va4]) (u := va4) rb1 ti122 rfl rfl rfl rfl rfl rfl) rfl [.tmp 2] rfl ⟨rfl, trivial⟩) rfl (fun _ h => Eq.trans h rfl) (fun _ => rfl)⟩, Plan.goal_run fun vs hf => ⟨wants_none rfl, OpT.conv (OpT.evs (ev' := evL [(0, .int .i64 p0c)]) (opT_move (v := .int .i64 p0c) rfl rfl) rfl [.tmp 0] rfl ⟨rfl, trivial⟩) rfl (fun _ h => Eq.trans h rfl) (fun _ => rfl)⟩, Plan.goal_run fun vs hf => ⟨wants_none rfl, OpT.conv (OpT.evs (ev' := evL [(7, va4), (8, .int .i64 p0c)]) (opT_call_clo (v := va4) (args := [.int .i64 p0c]) (ra4.2 _ Hp.le.rfl p0c _ e1  ) rfl rfl rfl) rfl [.tmp 7, .tmp 8] rfl ⟨(hf 2 (mb rfl)), (hf 3 (mb rfl)), trivial⟩) rfl (fun _ h => h) (fun _ => rfl)⟩, Plan.goal_run fun vs hf => ⟨wants_none rfl, OpT.conv (OpT.evs (ev' := evL [(6, va1), (9, .int .i64 r1)]) (opT_index_hd (xs := q0.2.1) (i := r1) (n := 1) (Hd.of_rd ra1) Try.underlying22 ti4 rfl rfl rfl (getI_in e2)) rfl [.tmp 6, .tmp 9] rfl ⟨(hf 1 (mb rfl)), (hf 4 (mb rfl)), trivial⟩) rfl (fun _ h => Eq.trans h rfl) (fun _ => rfl)⟩, Plan.goal_run fun vs hf => ⟨wants_none rfl, OpT.conv (OpT.evs (ev' := evL [(10, pt va1 (r1.toNat * 1))]) (opT_load_el (S := rBool) (xs := q0.2.1) (a := x1) (i := r1) (k := 1) (off := 0) (f := fun (x : Bool) => x) ra1 e2 Fld.self ti4 rfl rfl rfl rfl rfl) rfl [.tmp 10] rfl ⟨(hf 5 (mb rfl)), trivial⟩) rfl (fun _ h => lds_one h) (fun _ => rfl)⟩, Plan.goal_run fun vs hf => ⟨wants_none rfl, OpT.conv (OpT.evs (ev' := evL [(11, .bool x1)]) (opT_assign (v := .bool x1) rfl rfl) rfl [.tmp 11] rfl ⟨(hf 6 (mb rfl)), trivial⟩) rfl (fun _ h => Eq.trans h rfl) (fun _ => rfl)⟩, trivial⟩
  intro vs aq2 wq2 hf haq2 hsq2
  clear haq1 hsq1
  replace haq2 := haq2.pick' (L' := [(4, .bool x1)]) ⟨(congrArg some (show _ = _ from (hf 7 (Nat.le_of_ble_eq_true rfl)))), trivial⟩
  replace hsq2 : St I w0 wq2 [F] := hsq2
  clear hf vs
  refine nrm ?_
  refine wp_ret ?_
  obtain rfl := Option.some.inj hm
  exact ret_1 haq2 rfl (res_tmp haq2 rfl) ⟨_, rfl, rfl, _, Hp.le.rfl, St.sel (hsq2) 1 [0] rfl rfl⟩
set_option maxHeartbeats 8000000 in
theorem c_i_within (p0n : Int) (p1a : Int) (p2b : Int) (r : Bool) (hm : m_i_within p0n p1a p2b = some r) {I : Hp} {w0 : World} : Con Try.prog 95 #[.int .i64 p0n, .int .i64 p1a, .int .i64 p2b] I w0 [] (fun v => v = .bool r) (fun v => []) := by
  refine con_of_wp (n := 15) [(0, .int .i64 p0n), (1, .int .i64 p1a), (2, .int .i64 p2b)] Try.func95 rfl rfl (Nat.le_of_ble_eq_true rfl) (args_all ⟨rfl, rfl, rfl, trivial⟩) (fun F w a ha hs => ?_) (fun v => trivial)
  unfold m_i_within at hm
  refine wp_seq ?_
  refine wp_region_lit ?_
  refine seq_op0 ha hs (opT_assign (v := .bool false) rfl rfl) rfl rfl ?_
  rintro u aq1 wq1 hf haq1 hsq1
  obtain rfl := Eq.symm hf
  clear ha hs a w
  refine wpList_nil ?_
  replace haq1 := haq1.pick' (L' := [(0, .int .i64 p0n), (1, .int .i64 p1a), (2, .int .i64 p2b)]) ⟨rfl, rfl, rfl, trivial⟩
  refine nrm ?_
  refine wp_seq ?_
  refine wp_region_lit ?_
  refine seq_op0 haq1 hsq1 (opT_move (v := .int .i64 p0n) rfl rfl) rfl rfl ?_
  rintro u aq2 wq2 hf haq2 hsq2
  obtain rfl := Eq.symm hf
  clear haq1 hsq1 aq1 wq1
  refine seq_op0 haq2 hsq2 (opT_move (v := .int .i64 p1a) rfl rfl) rfl rfl ?_
  rintro u aq3 wq3 hf haq3 hsq3
  obtain rfl := Eq.symm hf
  clear haq2 hsq2 aq2 wq2
  refine seq_op0 haq3 hsq3 (opT_cmp (k := .i64) (m := p0n) (n := p1a) (c := decide (p0n ≥ p1a)) rfl rfl rfl rfl rfl) rfl rfl ?_
  rintro u aq4 wq4 hf haq4 hsq4
  obtain rfl := Eq.symm hf
  clear haq3 hsq3 aq3 wq3
  refine seq_op0 haq4 hsq4 (opT_move (v := .bool (decide (p0n ≥ p1a))) rfl rfl) rfl rfl ?_
  rintro u aq5 wq5 hf haq5 hsq5
  obtain rfl := Eq.symm hf
  clear haq4 hsq4 aq4 wq4
  rcases two (decide (p0n ≥ p1a)) with hb1 | hb1
  · replace hm := ifFe hb1 hm
    refine seq_skip (g := 3) (d := 10) (want := true) (b := decide (p0n ≥ p1a)) haq5 hsq5 rfl rfl rfl hb1 rfl ?_
    intro aq6 haq6
    refine seq_skip (g := 3) (d := 10) (want := true) (b := decide (p0n ≥ p1a)) haq6 hsq5 rfl rfl rfl hb1 rfl ?_
    intro aq7 haq7
    refine seq_skip (g := 3) (d := 10) (want := true) (b := decide (p0n ≥ p1a)) haq7 hsq5 rfl rfl rfl hb1 rfl ?_
    intro aq8 haq8
    refine seq_op0 haq8 hsq5 (opT_pick (b := decide (p0n ≥ p1a)) (v := .bool false) rfl rfl (ifF hb1)) rfl rfl ?_
    rintro u aq9 wq9 hf haq9 hsq9
    obtain rfl := Eq.symm hf
    clear haq8 hsq5 aq8 wq5
    refine seq_op0 haq9 hsq9 (opT_assign (v := .bool false) rfl rfl) rfl rfl ?_
    rintro u aq10 wq10 hf haq10 hsq10
    obtain rfl := Eq.symm hf
    clear haq9 hsq9 aq9 wq9
    refine wpList_nil ?_
    replace haq10 := haq10.pick' (L' := [(6, .bool false)]) ⟨rfl, trivial⟩
    refine nrm ?_
    refine wp_ret ?_
    obtain rfl := Option.some.inj hm
    exact ret_1 haq10 rfl (res_tmp haq10 rfl) ⟨_, rfl, rfl, _, Hp.le.rfl, St.sel (hsq10) 1 [0] rfl rfl⟩
  · replace hm := ifTe hb1 hm
    refine seq_op_g0 (g := 3) (d := 10) (want := true) (b := decide (p0n ≥ p1a)) haq5 hsq5 rfl rfl rfl hb1 (opT_move (v := .int .i64 p0n) rfl rfl) rfl ?_
    rintro u aq11 wq11 hf haq11 hsq11
    obtain rfl := Eq.symm hf
    clear haq5 hsq5 aq5 wq5
    refine seq_op_g0 (g := 3) (d := 10) (want := true) (b := decide (p0n ≥ p1a)) haq11 hsq11 rfl rfl rfl hb1 (opT_move (v := .int .i64 p2b) rfl rfl) rfl ?_
    rintro u aq12 wq12 hf haq12 hsq12
    obtain rfl := Eq.symm hf
    clear haq11 hsq11 aq11 wq11
    refine seq_op_g0 (g := 3) (d := 10) (want := true) (b := decide (p0n ≥ p1a)) haq12 hsq12 rfl rfl rfl hb1 (opT_cmp (k := .i64) (m := p0n) (n := p2b) (c := decide (p0n ≤ p2b)) rfl rfl rfl rfl rfl) rfl ?_
    rintro u aq13 wq13 hf haq13 hsq13
    obtain rfl := Eq.symm hf
    clear haq12 hsq12 aq12 wq12
    refine seq_op0 haq13 hsq13 (opT_pick (b := decide (p0n ≥ p1a)) (v := .bool (decide (p0n ≤ p2b))) rfl rfl (ifT hb1)) rfl rfl ?_
    rintro u aq14 wq14 hf haq14 hsq14
    obtain rfl := Eq.symm hf
    clear haq13 hsq13 aq13 wq13
    refine seq_op0 haq14 hsq14 (opT_assign (v := .bool (decide (p0n ≤ p2b))) rfl rfl) rfl rfl ?_
    rintro u aq15 wq15 hf haq15 hsq15
    obtain rfl := Eq.symm hf
    clear haq14 hsq14 aq14 wq14
    refine wpList_nil ?_
    replace haq15 := haq15.pick' (L' := [(6, .bool (decide (p0n ≤ p2b)))]) ⟨rfl, trivial⟩
    refine nrm ?_
    refine wp_ret ?_
    obtain rfl := Option.some.inj hm
    exact ret_1 haq15 rfl (res_tmp haq15 rfl) ⟨_, rfl, rfl, _, Hp.le.rfl, St.sel (hsq15) 1 [0] rfl rfl⟩
end Go.Proofs.Ytcihbmdppgpmjaa.D
